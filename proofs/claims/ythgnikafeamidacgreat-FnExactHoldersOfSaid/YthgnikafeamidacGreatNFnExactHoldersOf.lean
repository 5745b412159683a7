import Derived.Test.YthgnikafeamidacGreatFFnExactHoldersOf
import Derived.Test.YthgnikafeamidacGreatChecked
set_option maxRecDepth 1000000
set_option linter.unusedVariables false
namespace Go.Proofs.YthgnikafeamidacGreat.OmFnExactHoldersOf
open Go Go.OM
noncomputable def tys : List (Option Ty) := [none, none, some (.int .i64), some (.int .i64), some .bool, some (.int .u8), some (.int .u8), some (.pair (.int .i64) (.pair (.int .i64) (.pair .bool (.pair (.int .u8) .unit)))), some (.pair (.int .i64) (.pair (.int .i64) (.pair .bool (.pair (.int .u8) .unit)))), some .str, some .str, some .str, some (.int .u64), some (.pair .str (.pair (.int .u64) .unit)), some (.pair .str (.pair (.int .u64) .unit)), none, none, none, none, none, none, some (.int .i32), some (.sl (.int .i64)), some tConfig, some tConfig, some (.sl tStore), some (.sl tEra), some tRegister, some tRegister, some (.sl tWriter), some (.sl tMend), some (.sl tReader), some (.sl tSent), some tWorld, some tWorld, none, none, some tConfig, some (.sl tStore), some (.sl tEra), some tRegister, some tRegister, some (.sl tWriter), some (.sl tMend), some (.sl tReader), some (.sl tSent), some tWorld, some tWorld, none, none, none, none, none, none, none, none, some (.sl (.int .u8)), none, none, none, some tEntry, some tEntry, none, none, some (.sl tEntry), some tStore, some tStore, none, none, none, none, none, none, none, none, none, some (.sl tEvent), some tReader, some tReader, none, none, none, none, none, none, none, none, none, none, none, none, none, none, none, none, none, none, none, none, none, none, none, none, none, none, none, none, none, none, none, none, none, none, some (.sl tWord), some tWriter, some tWriter, none, none, none, some (.sl tEntry), some tStore, some tStore, none, none, some (.sl tWord), some tWriter, some tWriter, none, some (.sl (.sl (.int .i64))), some tMend, some tMend, none, some (.sl tEvent), some tReader, some tReader, none, some tSent, some tSent, none, none, some tMend, some tMend, none, none, none, some tSent, none, none, none, none, none, none, none, none, none, some tEra, some tEra, none, none, none, none, none, none, none, none, none, none, none, none, none, none, some tl1Cur, some tl1Cur, some (.sl tDeed), none, none, none, none, none, none, none, none, none, none, none, none, none, none, some tWord, some tWord, none, none, some tEra, none, none, none, none, none, none, none, none, none, none, none, none, none, none, none, none, none, none, none, none, some tEvent, some tEvent, none, none, some tDeed, some tDeed, none, none, none, none, none, none, some (.int .u64), none, some tEntry, none, some tWord, none, some tEvent, some (.sl .bool), none, none, none, none, none, none, none, none, none, none, none, none, none, none, none, none, none, none, none, none, none, none, none, some (.sl .str), none, none, none, none, none, none, none, none, none, none, none, none, none, none, none, none, none, none, none, none, none, none, none, none, none, none, none, none, none, none, some (.sl tAnswer), none, none, none, none, none, none, none, none, some tAnswer, some tAnswer, none, none, none, none, none, none, none, some (.int .u32), some (.int .u8), some (.int .u8), none, none, some (.int .i32), some (.int .i32), none, none, none]
theorem tysOk : okTys Tryz.prog tys 0 tys = true := by kernel_rfl
theorem mixed : Tryz.prog.follows .mixedOrders = true := by kernel_rfl
noncomputable def b27 : Code := Tryz.f27.body.getD .skip
theorem e27 : OM.Entry Tryz.prog 27 := ⟨_, Tryz.func27, by kernel_rfl, by kernel_rfl⟩
@[reducible] noncomputable def laws_szIntS.g : Sig := ⟨[.fz (.sl (.int .i64)), .fz (.int .i64)], [.v (.int .i64) .z], []⟩
@[reducible] noncomputable def laws_szIntS.fk : Nat → denI laws_szIntS.g.pms → Option (denR (outTys laws_szIntS.g.rts laws_szIntS.g.pms)) := fun k x => laws_szIntS.f x.1 x.2.1
@[reducible] noncomputable def laws_szIntS.sm (k : Nat) : Sm := ⟨27, laws_szIntS.g.pms, laws_szIntS.g.rts, laws_szIntS.fk k⟩
noncomputable def laws_szIntS.E (k : Nat) : Env := ⟨tys, [], [], [], []⟩
noncomputable def laws_szIntS.pts : List (Pt (denR (outTys laws_szIntS.g.rts laws_szIntS.g.pms))) := []
theorem laws_szIntS.hf (k : Nat) (a0 : (List Int)) (a1 : Int) : (laws_szIntS.f a0 a1 : Option (denR (outTys laws_szIntS.g.rts laws_szIntS.g.pms))) = evC (laws_szIntS.E k) (fun κ s => lhOf k κ s laws_szIntS.pts) b27 (OM.start laws_szIntS.g.pms 0 (a0, a1, ())) (OM.fin laws_szIntS.g Tryz.f27.results.toList) := by kernel_rfl
theorem laws_szIntS.ok (k : Nat) : SmOk Tryz.prog (laws_szIntS.sm k) :=
  sm_ok mixed (E := laws_szIntS.E) (pts := laws_szIntS.pts) (fun k => ⟨⟨tysOk, by kernel_rfl⟩, forall_nil⟩) (fun _ => rfl) (fun _ => rfl)
    ⟨Tryz.func27, by kernel_rfl, by kernel_rfl, by kernel_rfl, by kernel_rfl, by kernel_rfl, by kernel_rfl⟩ (forall_nil) (fun k x => laws_szIntS.hf k x.1 x.2.1) k
noncomputable def b25 : Code := Tryz.f25.body.getD .skip
theorem e25 : OM.Entry Tryz.prog 25 := ⟨_, Tryz.func25, by kernel_rfl, by kernel_rfl⟩
@[reducible] noncomputable def laws_szConfig.g : Sig := ⟨[.fz tConfig, .fz (.int .i64)], [.v (.int .i64) .z], []⟩
@[reducible] noncomputable def laws_szConfig.fk : Nat → denI laws_szConfig.g.pms → Option (denR (outTys laws_szConfig.g.rts laws_szConfig.g.pms)) := fun k x => laws_szConfig.f x.1 x.2.1
@[reducible] noncomputable def laws_szConfig.sm (k : Nat) : Sm := ⟨25, laws_szConfig.g.pms, laws_szConfig.g.rts, laws_szConfig.fk k⟩
noncomputable def laws_szConfig.E (k : Nat) : Env := ⟨tys, [laws_szIntS.sm k], [], [], []⟩
noncomputable def laws_szConfig.pts : List (Pt (denR (outTys laws_szConfig.g.rts laws_szConfig.g.pms))) := []
theorem laws_szConfig.hf (k : Nat) (a0 : Config) (a1 : Int) : (laws_szConfig.f a0 a1 : Option (denR (outTys laws_szConfig.g.rts laws_szConfig.g.pms))) = evC (laws_szConfig.E k) (fun κ s => lhOf k κ s laws_szConfig.pts) b25 (OM.start laws_szConfig.g.pms 0 (a0, a1, ())) (OM.fin laws_szConfig.g Tryz.f25.results.toList) := by kernel_rfl
theorem laws_szConfig.ok (k : Nat) : SmOk Tryz.prog (laws_szConfig.sm k) :=
  sm_ok mixed (E := laws_szConfig.E) (pts := laws_szConfig.pts) (fun k => ⟨⟨tysOk, by kernel_rfl⟩, forall_cons ⟨laws_szIntS.ok k, e27⟩ (forall_nil)⟩) (fun _ => rfl) (fun _ => rfl)
    ⟨Tryz.func25, by kernel_rfl, by kernel_rfl, by kernel_rfl, by kernel_rfl, by kernel_rfl, by kernel_rfl⟩ (forall_nil) (fun k x => laws_szConfig.hf k x.1 x.2.1) k
noncomputable def b184 : Code := Tryz.f184.body.getD .skip
theorem e184 : OM.Entry Tryz.prog 184 := ⟨_, Tryz.func184, by kernel_rfl, by kernel_rfl⟩
@[reducible] noncomputable def laws_szEntry.g : Sig := ⟨[.fz tEntry, .fz (.int .i64)], [.v (.int .i64) .z], []⟩
@[reducible] noncomputable def laws_szEntry.fk : Nat → denI laws_szEntry.g.pms → Option (denR (outTys laws_szEntry.g.rts laws_szEntry.g.pms)) := fun k x => laws_szEntry.f x.1 x.2.1
@[reducible] noncomputable def laws_szEntry.sm (k : Nat) : Sm := ⟨184, laws_szEntry.g.pms, laws_szEntry.g.rts, laws_szEntry.fk k⟩
noncomputable def laws_szEntry.E (k : Nat) : Env := ⟨tys, [], [], [], []⟩
noncomputable def laws_szEntry.pts : List (Pt (denR (outTys laws_szEntry.g.rts laws_szEntry.g.pms))) := []
theorem laws_szEntry.hf (k : Nat) (a0 : Entry) (a1 : Int) : (laws_szEntry.f a0 a1 : Option (denR (outTys laws_szEntry.g.rts laws_szEntry.g.pms))) = evC (laws_szEntry.E k) (fun κ s => lhOf k κ s laws_szEntry.pts) b184 (OM.start laws_szEntry.g.pms 0 (a0, a1, ())) (OM.fin laws_szEntry.g Tryz.f184.results.toList) := by kernel_rfl
theorem laws_szEntry.ok (k : Nat) : SmOk Tryz.prog (laws_szEntry.sm k) :=
  sm_ok mixed (E := laws_szEntry.E) (pts := laws_szEntry.pts) (fun k => ⟨⟨tysOk, by kernel_rfl⟩, forall_nil⟩) (fun _ => rfl) (fun _ => rfl)
    ⟨Tryz.func184, by kernel_rfl, by kernel_rfl, by kernel_rfl, by kernel_rfl, by kernel_rfl, by kernel_rfl⟩ (forall_nil) (fun k x => laws_szEntry.hf k x.1 x.2.1) k
noncomputable def b140 : Code := Tryz.f140.body.getD .skip
theorem e140 : OM.Entry Tryz.prog 140 := ⟨_, Tryz.func140, by kernel_rfl, by kernel_rfl⟩
@[reducible] noncomputable def laws_szEntryS.g : Sig := ⟨[.fz (.sl tEntry), .fz (.int .i64)], [.v (.int .i64) .z], []⟩
@[reducible] noncomputable def laws_szEntryS.fk : Nat → denI laws_szEntryS.g.pms → Option (denR (outTys laws_szEntryS.g.rts laws_szEntryS.g.pms)) := fun k x => laws_szEntryS.f k x.1 x.2.1
@[reducible] noncomputable def laws_szEntryS.sm (k : Nat) : Sm := ⟨140, laws_szEntryS.g.pms, laws_szEntryS.g.rts, laws_szEntryS.fk k⟩
noncomputable def laws_szEntryS.E (k : Nat) : Env := ⟨tys, [laws_szEntry.sm k], [], [], []⟩
@[reducible] noncomputable def laws_szEntryS.s11 : List Slot := [.v 0 (.sl tEntry) .z [] 0, .v 4 (.int .i64) .z [] 0, .v 20 (.int .i64) .z [] 0]
noncomputable def laws_szEntryS.pts : List (Pt (denR (outTys laws_szEntryS.g.rts laws_szEntryS.g.pms))) := [⟨11, laws_szEntryS.s11, fun k x => laws_szEntryS.p11 k x.1 x.2.1 x.2.2.1⟩]
theorem laws_szEntryS.h11 (k : Nat) (x0 : (List Entry)) (x1 : Int) (x2 : Int) : (laws_szEntryS.p11 (k + 1) x0 x1 x2 : Option (denR (outTys laws_szEntryS.g.rts laws_szEntryS.g.pms))) = evAt (laws_szEntryS.E k) (fun κ s => lhOf k κ s laws_szEntryS.pts) 11 b140 (unproj laws_szEntryS.s11 (x0, x1, x2, ())) (OM.fin laws_szEntryS.g Tryz.f140.results.toList) := by kernel_rfl
theorem laws_szEntryS.hf (k : Nat) (a0 : (List Entry)) (a1 : Int) : (laws_szEntryS.f k a0 a1 : Option (denR (outTys laws_szEntryS.g.rts laws_szEntryS.g.pms))) = evC (laws_szEntryS.E k) (fun κ s => lhOf k κ s laws_szEntryS.pts) b140 (OM.start laws_szEntryS.g.pms 0 (a0, a1, ())) (OM.fin laws_szEntryS.g Tryz.f140.results.toList) := by kernel_rfl
theorem laws_szEntryS.ok (k : Nat) : SmOk Tryz.prog (laws_szEntryS.sm k) :=
  sm_ok mixed (E := laws_szEntryS.E) (pts := laws_szEntryS.pts) (fun k => ⟨⟨tysOk, by kernel_rfl⟩, forall_cons ⟨laws_szEntry.ok k, e184⟩ (forall_nil)⟩) (fun _ => rfl) (fun _ => rfl)
    ⟨Tryz.func140, by kernel_rfl, by kernel_rfl, by kernel_rfl, by kernel_rfl, by kernel_rfl, by kernel_rfl⟩ (forall_cons (fun x => ⟨rfl, fun k => laws_szEntryS.h11 k x.1 x.2.1 x.2.2.1⟩) (forall_nil)) (fun k x => laws_szEntryS.hf k x.1 x.2.1) k
noncomputable def b76 : Code := Tryz.f76.body.getD .skip
theorem e76 : OM.Entry Tryz.prog 76 := ⟨_, Tryz.func76, by kernel_rfl, by kernel_rfl⟩
@[reducible] noncomputable def laws_szStore.g : Sig := ⟨[.fz tStore, .fz (.int .i64)], [.v (.int .i64) .z], []⟩
@[reducible] noncomputable def laws_szStore.fk : Nat → denI laws_szStore.g.pms → Option (denR (outTys laws_szStore.g.rts laws_szStore.g.pms)) := fun k x => laws_szStore.f k x.1 x.2.1
@[reducible] noncomputable def laws_szStore.sm (k : Nat) : Sm := ⟨76, laws_szStore.g.pms, laws_szStore.g.rts, laws_szStore.fk k⟩
noncomputable def laws_szStore.E (k : Nat) : Env := ⟨tys, [laws_szEntryS.sm k], [], [], []⟩
noncomputable def laws_szStore.pts : List (Pt (denR (outTys laws_szStore.g.rts laws_szStore.g.pms))) := []
theorem laws_szStore.hf (k : Nat) (a0 : Store) (a1 : Int) : (laws_szStore.f k a0 a1 : Option (denR (outTys laws_szStore.g.rts laws_szStore.g.pms))) = evC (laws_szStore.E k) (fun κ s => lhOf k κ s laws_szStore.pts) b76 (OM.start laws_szStore.g.pms 0 (a0, a1, ())) (OM.fin laws_szStore.g Tryz.f76.results.toList) := by kernel_rfl
theorem laws_szStore.ok (k : Nat) : SmOk Tryz.prog (laws_szStore.sm k) :=
  sm_ok mixed (E := laws_szStore.E) (pts := laws_szStore.pts) (fun k => ⟨⟨tysOk, by kernel_rfl⟩, forall_cons ⟨laws_szEntryS.ok k, e140⟩ (forall_nil)⟩) (fun _ => rfl) (fun _ => rfl)
    ⟨Tryz.func76, by kernel_rfl, by kernel_rfl, by kernel_rfl, by kernel_rfl, by kernel_rfl, by kernel_rfl⟩ (forall_nil) (fun k x => laws_szStore.hf k x.1 x.2.1) k
noncomputable def b26 : Code := Tryz.f26.body.getD .skip
theorem e26 : OM.Entry Tryz.prog 26 := ⟨_, Tryz.func26, by kernel_rfl, by kernel_rfl⟩
@[reducible] noncomputable def laws_szStoreS.g : Sig := ⟨[.fz (.sl tStore), .fz (.int .i64)], [.v (.int .i64) .z], []⟩
@[reducible] noncomputable def laws_szStoreS.fk : Nat → denI laws_szStoreS.g.pms → Option (denR (outTys laws_szStoreS.g.rts laws_szStoreS.g.pms)) := fun k x => laws_szStoreS.f k x.1 x.2.1
@[reducible] noncomputable def laws_szStoreS.sm (k : Nat) : Sm := ⟨26, laws_szStoreS.g.pms, laws_szStoreS.g.rts, laws_szStoreS.fk k⟩
noncomputable def laws_szStoreS.E (k : Nat) : Env := ⟨tys, [laws_szStore.sm k], [], [], []⟩
@[reducible] noncomputable def laws_szStoreS.s11 : List Slot := [.v 0 (.sl tStore) .z [] 0, .v 4 (.int .i64) .z [] 0, .v 20 (.int .i64) .z [] 0]
noncomputable def laws_szStoreS.pts : List (Pt (denR (outTys laws_szStoreS.g.rts laws_szStoreS.g.pms))) := [⟨11, laws_szStoreS.s11, fun k x => laws_szStoreS.p11 k x.1 x.2.1 x.2.2.1⟩]
theorem laws_szStoreS.h11 (k : Nat) (x0 : (List Store)) (x1 : Int) (x2 : Int) : (laws_szStoreS.p11 (k + 1) x0 x1 x2 : Option (denR (outTys laws_szStoreS.g.rts laws_szStoreS.g.pms))) = evAt (laws_szStoreS.E k) (fun κ s => lhOf k κ s laws_szStoreS.pts) 11 b26 (unproj laws_szStoreS.s11 (x0, x1, x2, ())) (OM.fin laws_szStoreS.g Tryz.f26.results.toList) := by kernel_rfl
theorem laws_szStoreS.hf (k : Nat) (a0 : (List Store)) (a1 : Int) : (laws_szStoreS.f k a0 a1 : Option (denR (outTys laws_szStoreS.g.rts laws_szStoreS.g.pms))) = evC (laws_szStoreS.E k) (fun κ s => lhOf k κ s laws_szStoreS.pts) b26 (OM.start laws_szStoreS.g.pms 0 (a0, a1, ())) (OM.fin laws_szStoreS.g Tryz.f26.results.toList) := by kernel_rfl
theorem laws_szStoreS.ok (k : Nat) : SmOk Tryz.prog (laws_szStoreS.sm k) :=
  sm_ok mixed (E := laws_szStoreS.E) (pts := laws_szStoreS.pts) (fun k => ⟨⟨tysOk, by kernel_rfl⟩, forall_cons ⟨laws_szStore.ok k, e76⟩ (forall_nil)⟩) (fun _ => rfl) (fun _ => rfl)
    ⟨Tryz.func26, by kernel_rfl, by kernel_rfl, by kernel_rfl, by kernel_rfl, by kernel_rfl, by kernel_rfl⟩ (forall_cons (fun x => ⟨rfl, fun k => laws_szStoreS.h11 k x.1 x.2.1 x.2.2.1⟩) (forall_nil)) (fun k x => laws_szStoreS.hf k x.1 x.2.1) k
noncomputable def b141 : Code := Tryz.f141.body.getD .skip
theorem e141 : OM.Entry Tryz.prog 141 := ⟨_, Tryz.func141, by kernel_rfl, by kernel_rfl⟩
@[reducible] noncomputable def laws_szEra.g : Sig := ⟨[.fz tEra, .fz (.int .i64)], [.v (.int .i64) .z], []⟩
@[reducible] noncomputable def laws_szEra.fk : Nat → denI laws_szEra.g.pms → Option (denR (outTys laws_szEra.g.rts laws_szEra.g.pms)) := fun k x => laws_szEra.f x.1 x.2.1
@[reducible] noncomputable def laws_szEra.sm (k : Nat) : Sm := ⟨141, laws_szEra.g.pms, laws_szEra.g.rts, laws_szEra.fk k⟩
noncomputable def laws_szEra.E (k : Nat) : Env := ⟨tys, [laws_szIntS.sm k], [], [], []⟩
noncomputable def laws_szEra.pts : List (Pt (denR (outTys laws_szEra.g.rts laws_szEra.g.pms))) := []
theorem laws_szEra.hf (k : Nat) (a0 : Era) (a1 : Int) : (laws_szEra.f a0 a1 : Option (denR (outTys laws_szEra.g.rts laws_szEra.g.pms))) = evC (laws_szEra.E k) (fun κ s => lhOf k κ s laws_szEra.pts) b141 (OM.start laws_szEra.g.pms 0 (a0, a1, ())) (OM.fin laws_szEra.g Tryz.f141.results.toList) := by kernel_rfl
theorem laws_szEra.ok (k : Nat) : SmOk Tryz.prog (laws_szEra.sm k) :=
  sm_ok mixed (E := laws_szEra.E) (pts := laws_szEra.pts) (fun k => ⟨⟨tysOk, by kernel_rfl⟩, forall_cons ⟨laws_szIntS.ok k, e27⟩ (forall_nil)⟩) (fun _ => rfl) (fun _ => rfl)
    ⟨Tryz.func141, by kernel_rfl, by kernel_rfl, by kernel_rfl, by kernel_rfl, by kernel_rfl, by kernel_rfl⟩ (forall_nil) (fun k x => laws_szEra.hf k x.1 x.2.1) k
noncomputable def b77 : Code := Tryz.f77.body.getD .skip
theorem e77 : OM.Entry Tryz.prog 77 := ⟨_, Tryz.func77, by kernel_rfl, by kernel_rfl⟩
@[reducible] noncomputable def laws_szEraS.g : Sig := ⟨[.fz (.sl tEra), .fz (.int .i64)], [.v (.int .i64) .z], []⟩
@[reducible] noncomputable def laws_szEraS.fk : Nat → denI laws_szEraS.g.pms → Option (denR (outTys laws_szEraS.g.rts laws_szEraS.g.pms)) := fun k x => laws_szEraS.f k x.1 x.2.1
@[reducible] noncomputable def laws_szEraS.sm (k : Nat) : Sm := ⟨77, laws_szEraS.g.pms, laws_szEraS.g.rts, laws_szEraS.fk k⟩
noncomputable def laws_szEraS.E (k : Nat) : Env := ⟨tys, [laws_szEra.sm k], [], [], []⟩
@[reducible] noncomputable def laws_szEraS.s11 : List Slot := [.v 0 (.sl tEra) .z [] 0, .v 4 (.int .i64) .z [] 0, .v 20 (.int .i64) .z [] 0]
noncomputable def laws_szEraS.pts : List (Pt (denR (outTys laws_szEraS.g.rts laws_szEraS.g.pms))) := [⟨11, laws_szEraS.s11, fun k x => laws_szEraS.p11 k x.1 x.2.1 x.2.2.1⟩]
theorem laws_szEraS.h11 (k : Nat) (x0 : (List Era)) (x1 : Int) (x2 : Int) : (laws_szEraS.p11 (k + 1) x0 x1 x2 : Option (denR (outTys laws_szEraS.g.rts laws_szEraS.g.pms))) = evAt (laws_szEraS.E k) (fun κ s => lhOf k κ s laws_szEraS.pts) 11 b77 (unproj laws_szEraS.s11 (x0, x1, x2, ())) (OM.fin laws_szEraS.g Tryz.f77.results.toList) := by kernel_rfl
theorem laws_szEraS.hf (k : Nat) (a0 : (List Era)) (a1 : Int) : (laws_szEraS.f k a0 a1 : Option (denR (outTys laws_szEraS.g.rts laws_szEraS.g.pms))) = evC (laws_szEraS.E k) (fun κ s => lhOf k κ s laws_szEraS.pts) b77 (OM.start laws_szEraS.g.pms 0 (a0, a1, ())) (OM.fin laws_szEraS.g Tryz.f77.results.toList) := by kernel_rfl
theorem laws_szEraS.ok (k : Nat) : SmOk Tryz.prog (laws_szEraS.sm k) :=
  sm_ok mixed (E := laws_szEraS.E) (pts := laws_szEraS.pts) (fun k => ⟨⟨tysOk, by kernel_rfl⟩, forall_cons ⟨laws_szEra.ok k, e141⟩ (forall_nil)⟩) (fun _ => rfl) (fun _ => rfl)
    ⟨Tryz.func77, by kernel_rfl, by kernel_rfl, by kernel_rfl, by kernel_rfl, by kernel_rfl, by kernel_rfl⟩ (forall_cons (fun x => ⟨rfl, fun k => laws_szEraS.h11 k x.1 x.2.1 x.2.2.1⟩) (forall_nil)) (fun k x => laws_szEraS.hf k x.1 x.2.1) k
noncomputable def b28 : Code := Tryz.f28.body.getD .skip
theorem e28 : OM.Entry Tryz.prog 28 := ⟨_, Tryz.func28, by kernel_rfl, by kernel_rfl⟩
@[reducible] noncomputable def laws_szRegister.g : Sig := ⟨[.fz tRegister, .fz (.int .i64)], [.v (.int .i64) .z], []⟩
@[reducible] noncomputable def laws_szRegister.fk : Nat → denI laws_szRegister.g.pms → Option (denR (outTys laws_szRegister.g.rts laws_szRegister.g.pms)) := fun k x => laws_szRegister.f k x.1 x.2.1
@[reducible] noncomputable def laws_szRegister.sm (k : Nat) : Sm := ⟨28, laws_szRegister.g.pms, laws_szRegister.g.rts, laws_szRegister.fk k⟩
noncomputable def laws_szRegister.E (k : Nat) : Env := ⟨tys, [laws_szEraS.sm k], [], [], []⟩
noncomputable def laws_szRegister.pts : List (Pt (denR (outTys laws_szRegister.g.rts laws_szRegister.g.pms))) := []
theorem laws_szRegister.hf (k : Nat) (a0 : Register) (a1 : Int) : (laws_szRegister.f k a0 a1 : Option (denR (outTys laws_szRegister.g.rts laws_szRegister.g.pms))) = evC (laws_szRegister.E k) (fun κ s => lhOf k κ s laws_szRegister.pts) b28 (OM.start laws_szRegister.g.pms 0 (a0, a1, ())) (OM.fin laws_szRegister.g Tryz.f28.results.toList) := by kernel_rfl
theorem laws_szRegister.ok (k : Nat) : SmOk Tryz.prog (laws_szRegister.sm k) :=
  sm_ok mixed (E := laws_szRegister.E) (pts := laws_szRegister.pts) (fun k => ⟨⟨tysOk, by kernel_rfl⟩, forall_cons ⟨laws_szEraS.ok k, e77⟩ (forall_nil)⟩) (fun _ => rfl) (fun _ => rfl)
    ⟨Tryz.func28, by kernel_rfl, by kernel_rfl, by kernel_rfl, by kernel_rfl, by kernel_rfl, by kernel_rfl⟩ (forall_nil) (fun k x => laws_szRegister.hf k x.1 x.2.1) k
noncomputable def b185 : Code := Tryz.f185.body.getD .skip
theorem e185 : OM.Entry Tryz.prog 185 := ⟨_, Tryz.func185, by kernel_rfl, by kernel_rfl⟩
@[reducible] noncomputable def laws_szWord.g : Sig := ⟨[.fz tWord, .fz (.int .i64)], [.v (.int .i64) .z], []⟩
@[reducible] noncomputable def laws_szWord.fk : Nat → denI laws_szWord.g.pms → Option (denR (outTys laws_szWord.g.rts laws_szWord.g.pms)) := fun k x => laws_szWord.f x.1 x.2.1
@[reducible] noncomputable def laws_szWord.sm (k : Nat) : Sm := ⟨185, laws_szWord.g.pms, laws_szWord.g.rts, laws_szWord.fk k⟩
noncomputable def laws_szWord.E (k : Nat) : Env := ⟨tys, [laws_szIntS.sm k], [], [], []⟩
noncomputable def laws_szWord.pts : List (Pt (denR (outTys laws_szWord.g.rts laws_szWord.g.pms))) := []
theorem laws_szWord.hf (k : Nat) (a0 : Word) (a1 : Int) : (laws_szWord.f a0 a1 : Option (denR (outTys laws_szWord.g.rts laws_szWord.g.pms))) = evC (laws_szWord.E k) (fun κ s => lhOf k κ s laws_szWord.pts) b185 (OM.start laws_szWord.g.pms 0 (a0, a1, ())) (OM.fin laws_szWord.g Tryz.f185.results.toList) := by kernel_rfl
theorem laws_szWord.ok (k : Nat) : SmOk Tryz.prog (laws_szWord.sm k) :=
  sm_ok mixed (E := laws_szWord.E) (pts := laws_szWord.pts) (fun k => ⟨⟨tysOk, by kernel_rfl⟩, forall_cons ⟨laws_szIntS.ok k, e27⟩ (forall_nil)⟩) (fun _ => rfl) (fun _ => rfl)
    ⟨Tryz.func185, by kernel_rfl, by kernel_rfl, by kernel_rfl, by kernel_rfl, by kernel_rfl, by kernel_rfl⟩ (forall_nil) (fun k x => laws_szWord.hf k x.1 x.2.1) k
noncomputable def b142 : Code := Tryz.f142.body.getD .skip
theorem e142 : OM.Entry Tryz.prog 142 := ⟨_, Tryz.func142, by kernel_rfl, by kernel_rfl⟩
@[reducible] noncomputable def laws_szWordS.g : Sig := ⟨[.fz (.sl tWord), .fz (.int .i64)], [.v (.int .i64) .z], []⟩
@[reducible] noncomputable def laws_szWordS.fk : Nat → denI laws_szWordS.g.pms → Option (denR (outTys laws_szWordS.g.rts laws_szWordS.g.pms)) := fun k x => laws_szWordS.f k x.1 x.2.1
@[reducible] noncomputable def laws_szWordS.sm (k : Nat) : Sm := ⟨142, laws_szWordS.g.pms, laws_szWordS.g.rts, laws_szWordS.fk k⟩
noncomputable def laws_szWordS.E (k : Nat) : Env := ⟨tys, [laws_szWord.sm k], [], [], []⟩
@[reducible] noncomputable def laws_szWordS.s11 : List Slot := [.v 0 (.sl tWord) .z [] 0, .v 4 (.int .i64) .z [] 0, .v 20 (.int .i64) .z [] 0]
noncomputable def laws_szWordS.pts : List (Pt (denR (outTys laws_szWordS.g.rts laws_szWordS.g.pms))) := [⟨11, laws_szWordS.s11, fun k x => laws_szWordS.p11 k x.1 x.2.1 x.2.2.1⟩]
theorem laws_szWordS.h11 (k : Nat) (x0 : (List Word)) (x1 : Int) (x2 : Int) : (laws_szWordS.p11 (k + 1) x0 x1 x2 : Option (denR (outTys laws_szWordS.g.rts laws_szWordS.g.pms))) = evAt (laws_szWordS.E k) (fun κ s => lhOf k κ s laws_szWordS.pts) 11 b142 (unproj laws_szWordS.s11 (x0, x1, x2, ())) (OM.fin laws_szWordS.g Tryz.f142.results.toList) := by kernel_rfl
theorem laws_szWordS.hf (k : Nat) (a0 : (List Word)) (a1 : Int) : (laws_szWordS.f k a0 a1 : Option (denR (outTys laws_szWordS.g.rts laws_szWordS.g.pms))) = evC (laws_szWordS.E k) (fun κ s => lhOf k κ s laws_szWordS.pts) b142 (OM.start laws_szWordS.g.pms 0 (a0, a1, ())) (OM.fin laws_szWordS.g Tryz.f142.results.toList) := by kernel_rfl
theorem laws_szWordS.ok (k : Nat) : SmOk Tryz.prog (laws_szWordS.sm k) :=
  sm_ok mixed (E := laws_szWordS.E) (pts := laws_szWordS.pts) (fun k => ⟨⟨tysOk, by kernel_rfl⟩, forall_cons ⟨laws_szWord.ok k, e185⟩ (forall_nil)⟩) (fun _ => rfl) (fun _ => rfl)
    ⟨Tryz.func142, by kernel_rfl, by kernel_rfl, by kernel_rfl, by kernel_rfl, by kernel_rfl, by kernel_rfl⟩ (forall_cons (fun x => ⟨rfl, fun k => laws_szWordS.h11 k x.1 x.2.1 x.2.2.1⟩) (forall_nil)) (fun k x => laws_szWordS.hf k x.1 x.2.1) k
noncomputable def b78 : Code := Tryz.f78.body.getD .skip
theorem e78 : OM.Entry Tryz.prog 78 := ⟨_, Tryz.func78, by kernel_rfl, by kernel_rfl⟩
@[reducible] noncomputable def laws_szWriter.g : Sig := ⟨[.fz tWriter, .fz (.int .i64)], [.v (.int .i64) .z], []⟩
@[reducible] noncomputable def laws_szWriter.fk : Nat → denI laws_szWriter.g.pms → Option (denR (outTys laws_szWriter.g.rts laws_szWriter.g.pms)) := fun k x => laws_szWriter.f k x.1 x.2.1
@[reducible] noncomputable def laws_szWriter.sm (k : Nat) : Sm := ⟨78, laws_szWriter.g.pms, laws_szWriter.g.rts, laws_szWriter.fk k⟩
noncomputable def laws_szWriter.E (k : Nat) : Env := ⟨tys, [laws_szWordS.sm k], [], [], []⟩
noncomputable def laws_szWriter.pts : List (Pt (denR (outTys laws_szWriter.g.rts laws_szWriter.g.pms))) := []
theorem laws_szWriter.hf (k : Nat) (a0 : Writer) (a1 : Int) : (laws_szWriter.f k a0 a1 : Option (denR (outTys laws_szWriter.g.rts laws_szWriter.g.pms))) = evC (laws_szWriter.E k) (fun κ s => lhOf k κ s laws_szWriter.pts) b78 (OM.start laws_szWriter.g.pms 0 (a0, a1, ())) (OM.fin laws_szWriter.g Tryz.f78.results.toList) := by kernel_rfl
theorem laws_szWriter.ok (k : Nat) : SmOk Tryz.prog (laws_szWriter.sm k) :=
  sm_ok mixed (E := laws_szWriter.E) (pts := laws_szWriter.pts) (fun k => ⟨⟨tysOk, by kernel_rfl⟩, forall_cons ⟨laws_szWordS.ok k, e142⟩ (forall_nil)⟩) (fun _ => rfl) (fun _ => rfl)
    ⟨Tryz.func78, by kernel_rfl, by kernel_rfl, by kernel_rfl, by kernel_rfl, by kernel_rfl, by kernel_rfl⟩ (forall_nil) (fun k x => laws_szWriter.hf k x.1 x.2.1) k
noncomputable def b29 : Code := Tryz.f29.body.getD .skip
theorem e29 : OM.Entry Tryz.prog 29 := ⟨_, Tryz.func29, by kernel_rfl, by kernel_rfl⟩
@[reducible] noncomputable def laws_szWriterS.g : Sig := ⟨[.fz (.sl tWriter), .fz (.int .i64)], [.v (.int .i64) .z], []⟩
@[reducible] noncomputable def laws_szWriterS.fk : Nat → denI laws_szWriterS.g.pms → Option (denR (outTys laws_szWriterS.g.rts laws_szWriterS.g.pms)) := fun k x => laws_szWriterS.f k x.1 x.2.1
@[reducible] noncomputable def laws_szWriterS.sm (k : Nat) : Sm := ⟨29, laws_szWriterS.g.pms, laws_szWriterS.g.rts, laws_szWriterS.fk k⟩
noncomputable def laws_szWriterS.E (k : Nat) : Env := ⟨tys, [laws_szWriter.sm k], [], [], []⟩
@[reducible] noncomputable def laws_szWriterS.s11 : List Slot := [.v 0 (.sl tWriter) .z [] 0, .v 4 (.int .i64) .z [] 0, .v 20 (.int .i64) .z [] 0]
noncomputable def laws_szWriterS.pts : List (Pt (denR (outTys laws_szWriterS.g.rts laws_szWriterS.g.pms))) := [⟨11, laws_szWriterS.s11, fun k x => laws_szWriterS.p11 k x.1 x.2.1 x.2.2.1⟩]
theorem laws_szWriterS.h11 (k : Nat) (x0 : (List Writer)) (x1 : Int) (x2 : Int) : (laws_szWriterS.p11 (k + 1) x0 x1 x2 : Option (denR (outTys laws_szWriterS.g.rts laws_szWriterS.g.pms))) = evAt (laws_szWriterS.E k) (fun κ s => lhOf k κ s laws_szWriterS.pts) 11 b29 (unproj laws_szWriterS.s11 (x0, x1, x2, ())) (OM.fin laws_szWriterS.g Tryz.f29.results.toList) := by kernel_rfl
theorem laws_szWriterS.hf (k : Nat) (a0 : (List Writer)) (a1 : Int) : (laws_szWriterS.f k a0 a1 : Option (denR (outTys laws_szWriterS.g.rts laws_szWriterS.g.pms))) = evC (laws_szWriterS.E k) (fun κ s => lhOf k κ s laws_szWriterS.pts) b29 (OM.start laws_szWriterS.g.pms 0 (a0, a1, ())) (OM.fin laws_szWriterS.g Tryz.f29.results.toList) := by kernel_rfl
theorem laws_szWriterS.ok (k : Nat) : SmOk Tryz.prog (laws_szWriterS.sm k) :=
  sm_ok mixed (E := laws_szWriterS.E) (pts := laws_szWriterS.pts) (fun k => ⟨⟨tysOk, by kernel_rfl⟩, forall_cons ⟨laws_szWriter.ok k, e78⟩ (forall_nil)⟩) (fun _ => rfl) (fun _ => rfl)
    ⟨Tryz.func29, by kernel_rfl, by kernel_rfl, by kernel_rfl, by kernel_rfl, by kernel_rfl, by kernel_rfl⟩ (forall_cons (fun x => ⟨rfl, fun k => laws_szWriterS.h11 k x.1 x.2.1 x.2.2.1⟩) (forall_nil)) (fun k x => laws_szWriterS.hf k x.1 x.2.1) k
noncomputable def b143 : Code := Tryz.f143.body.getD .skip
theorem e143 : OM.Entry Tryz.prog 143 := ⟨_, Tryz.func143, by kernel_rfl, by kernel_rfl⟩
@[reducible] noncomputable def laws_szIntSS.g : Sig := ⟨[.fz (.sl (.sl (.int .i64))), .fz (.int .i64)], [.v (.int .i64) .z], []⟩
@[reducible] noncomputable def laws_szIntSS.fk : Nat → denI laws_szIntSS.g.pms → Option (denR (outTys laws_szIntSS.g.rts laws_szIntSS.g.pms)) := fun k x => laws_szIntSS.f k x.1 x.2.1
@[reducible] noncomputable def laws_szIntSS.sm (k : Nat) : Sm := ⟨143, laws_szIntSS.g.pms, laws_szIntSS.g.rts, laws_szIntSS.fk k⟩
noncomputable def laws_szIntSS.E (k : Nat) : Env := ⟨tys, [laws_szIntS.sm k], [], [], []⟩
@[reducible] noncomputable def laws_szIntSS.s11 : List Slot := [.v 0 (.sl (.sl (.int .i64))) .z [] 0, .v 4 (.int .i64) .z [] 0, .v 20 (.int .i64) .z [] 0]
noncomputable def laws_szIntSS.pts : List (Pt (denR (outTys laws_szIntSS.g.rts laws_szIntSS.g.pms))) := [⟨11, laws_szIntSS.s11, fun k x => laws_szIntSS.p11 k x.1 x.2.1 x.2.2.1⟩]
theorem laws_szIntSS.h11 (k : Nat) (x0 : (List (List Int))) (x1 : Int) (x2 : Int) : (laws_szIntSS.p11 (k + 1) x0 x1 x2 : Option (denR (outTys laws_szIntSS.g.rts laws_szIntSS.g.pms))) = evAt (laws_szIntSS.E k) (fun κ s => lhOf k κ s laws_szIntSS.pts) 11 b143 (unproj laws_szIntSS.s11 (x0, x1, x2, ())) (OM.fin laws_szIntSS.g Tryz.f143.results.toList) := by kernel_rfl
theorem laws_szIntSS.hf (k : Nat) (a0 : (List (List Int))) (a1 : Int) : (laws_szIntSS.f k a0 a1 : Option (denR (outTys laws_szIntSS.g.rts laws_szIntSS.g.pms))) = evC (laws_szIntSS.E k) (fun κ s => lhOf k κ s laws_szIntSS.pts) b143 (OM.start laws_szIntSS.g.pms 0 (a0, a1, ())) (OM.fin laws_szIntSS.g Tryz.f143.results.toList) := by kernel_rfl
theorem laws_szIntSS.ok (k : Nat) : SmOk Tryz.prog (laws_szIntSS.sm k) :=
  sm_ok mixed (E := laws_szIntSS.E) (pts := laws_szIntSS.pts) (fun k => ⟨⟨tysOk, by kernel_rfl⟩, forall_cons ⟨laws_szIntS.ok k, e27⟩ (forall_nil)⟩) (fun _ => rfl) (fun _ => rfl)
    ⟨Tryz.func143, by kernel_rfl, by kernel_rfl, by kernel_rfl, by kernel_rfl, by kernel_rfl, by kernel_rfl⟩ (forall_cons (fun x => ⟨rfl, fun k => laws_szIntSS.h11 k x.1 x.2.1 x.2.2.1⟩) (forall_nil)) (fun k x => laws_szIntSS.hf k x.1 x.2.1) k
noncomputable def b79 : Code := Tryz.f79.body.getD .skip
theorem e79 : OM.Entry Tryz.prog 79 := ⟨_, Tryz.func79, by kernel_rfl, by kernel_rfl⟩
@[reducible] noncomputable def laws_szMend.g : Sig := ⟨[.fz tMend, .fz (.int .i64)], [.v (.int .i64) .z], []⟩
@[reducible] noncomputable def laws_szMend.fk : Nat → denI laws_szMend.g.pms → Option (denR (outTys laws_szMend.g.rts laws_szMend.g.pms)) := fun k x => laws_szMend.f k x.1 x.2.1
@[reducible] noncomputable def laws_szMend.sm (k : Nat) : Sm := ⟨79, laws_szMend.g.pms, laws_szMend.g.rts, laws_szMend.fk k⟩
noncomputable def laws_szMend.E (k : Nat) : Env := ⟨tys, [laws_szIntS.sm k, laws_szEntryS.sm k, laws_szIntSS.sm k], [], [], []⟩
noncomputable def laws_szMend.pts : List (Pt (denR (outTys laws_szMend.g.rts laws_szMend.g.pms))) := []
theorem laws_szMend.hf (k : Nat) (a0 : Mend) (a1 : Int) : (laws_szMend.f k a0 a1 : Option (denR (outTys laws_szMend.g.rts laws_szMend.g.pms))) = evC (laws_szMend.E k) (fun κ s => lhOf k κ s laws_szMend.pts) b79 (OM.start laws_szMend.g.pms 0 (a0, a1, ())) (OM.fin laws_szMend.g Tryz.f79.results.toList) := by kernel_rfl
theorem laws_szMend.ok (k : Nat) : SmOk Tryz.prog (laws_szMend.sm k) :=
  sm_ok mixed (E := laws_szMend.E) (pts := laws_szMend.pts) (fun k => ⟨⟨tysOk, by kernel_rfl⟩, forall_cons ⟨laws_szIntS.ok k, e27⟩ (forall_cons ⟨laws_szEntryS.ok k, e140⟩ (forall_cons ⟨laws_szIntSS.ok k, e143⟩ (forall_nil)))⟩) (fun _ => rfl) (fun _ => rfl)
    ⟨Tryz.func79, by kernel_rfl, by kernel_rfl, by kernel_rfl, by kernel_rfl, by kernel_rfl, by kernel_rfl⟩ (forall_nil) (fun k x => laws_szMend.hf k x.1 x.2.1) k
noncomputable def b30 : Code := Tryz.f30.body.getD .skip
theorem e30 : OM.Entry Tryz.prog 30 := ⟨_, Tryz.func30, by kernel_rfl, by kernel_rfl⟩
@[reducible] noncomputable def laws_szMendS.g : Sig := ⟨[.fz (.sl tMend), .fz (.int .i64)], [.v (.int .i64) .z], []⟩
@[reducible] noncomputable def laws_szMendS.fk : Nat → denI laws_szMendS.g.pms → Option (denR (outTys laws_szMendS.g.rts laws_szMendS.g.pms)) := fun k x => laws_szMendS.f k x.1 x.2.1
@[reducible] noncomputable def laws_szMendS.sm (k : Nat) : Sm := ⟨30, laws_szMendS.g.pms, laws_szMendS.g.rts, laws_szMendS.fk k⟩
noncomputable def laws_szMendS.E (k : Nat) : Env := ⟨tys, [laws_szMend.sm k], [], [], []⟩
@[reducible] noncomputable def laws_szMendS.s11 : List Slot := [.v 0 (.sl tMend) .z [] 0, .v 4 (.int .i64) .z [] 0, .v 20 (.int .i64) .z [] 0]
noncomputable def laws_szMendS.pts : List (Pt (denR (outTys laws_szMendS.g.rts laws_szMendS.g.pms))) := [⟨11, laws_szMendS.s11, fun k x => laws_szMendS.p11 k x.1 x.2.1 x.2.2.1⟩]
theorem laws_szMendS.h11 (k : Nat) (x0 : (List Mend)) (x1 : Int) (x2 : Int) : (laws_szMendS.p11 (k + 1) x0 x1 x2 : Option (denR (outTys laws_szMendS.g.rts laws_szMendS.g.pms))) = evAt (laws_szMendS.E k) (fun κ s => lhOf k κ s laws_szMendS.pts) 11 b30 (unproj laws_szMendS.s11 (x0, x1, x2, ())) (OM.fin laws_szMendS.g Tryz.f30.results.toList) := by kernel_rfl
theorem laws_szMendS.hf (k : Nat) (a0 : (List Mend)) (a1 : Int) : (laws_szMendS.f k a0 a1 : Option (denR (outTys laws_szMendS.g.rts laws_szMendS.g.pms))) = evC (laws_szMendS.E k) (fun κ s => lhOf k κ s laws_szMendS.pts) b30 (OM.start laws_szMendS.g.pms 0 (a0, a1, ())) (OM.fin laws_szMendS.g Tryz.f30.results.toList) := by kernel_rfl
theorem laws_szMendS.ok (k : Nat) : SmOk Tryz.prog (laws_szMendS.sm k) :=
  sm_ok mixed (E := laws_szMendS.E) (pts := laws_szMendS.pts) (fun k => ⟨⟨tysOk, by kernel_rfl⟩, forall_cons ⟨laws_szMend.ok k, e79⟩ (forall_nil)⟩) (fun _ => rfl) (fun _ => rfl)
    ⟨Tryz.func30, by kernel_rfl, by kernel_rfl, by kernel_rfl, by kernel_rfl, by kernel_rfl, by kernel_rfl⟩ (forall_cons (fun x => ⟨rfl, fun k => laws_szMendS.h11 k x.1 x.2.1 x.2.2.1⟩) (forall_nil)) (fun k x => laws_szMendS.hf k x.1 x.2.1) k
noncomputable def b186 : Code := Tryz.f186.body.getD .skip
theorem e186 : OM.Entry Tryz.prog 186 := ⟨_, Tryz.func186, by kernel_rfl, by kernel_rfl⟩
@[reducible] noncomputable def laws_szEvent.g : Sig := ⟨[.fz tEvent, .fz (.int .i64)], [.v (.int .i64) .z], []⟩
@[reducible] noncomputable def laws_szEvent.fk : Nat → denI laws_szEvent.g.pms → Option (denR (outTys laws_szEvent.g.rts laws_szEvent.g.pms)) := fun k x => laws_szEvent.f x.1 x.2.1
@[reducible] noncomputable def laws_szEvent.sm (k : Nat) : Sm := ⟨186, laws_szEvent.g.pms, laws_szEvent.g.rts, laws_szEvent.fk k⟩
noncomputable def laws_szEvent.E (k : Nat) : Env := ⟨tys, [], [], [], []⟩
noncomputable def laws_szEvent.pts : List (Pt (denR (outTys laws_szEvent.g.rts laws_szEvent.g.pms))) := []
theorem laws_szEvent.hf (k : Nat) (a0 : Event) (a1 : Int) : (laws_szEvent.f a0 a1 : Option (denR (outTys laws_szEvent.g.rts laws_szEvent.g.pms))) = evC (laws_szEvent.E k) (fun κ s => lhOf k κ s laws_szEvent.pts) b186 (OM.start laws_szEvent.g.pms 0 (a0, a1, ())) (OM.fin laws_szEvent.g Tryz.f186.results.toList) := by kernel_rfl
theorem laws_szEvent.ok (k : Nat) : SmOk Tryz.prog (laws_szEvent.sm k) :=
  sm_ok mixed (E := laws_szEvent.E) (pts := laws_szEvent.pts) (fun k => ⟨⟨tysOk, by kernel_rfl⟩, forall_nil⟩) (fun _ => rfl) (fun _ => rfl)
    ⟨Tryz.func186, by kernel_rfl, by kernel_rfl, by kernel_rfl, by kernel_rfl, by kernel_rfl, by kernel_rfl⟩ (forall_nil) (fun k x => laws_szEvent.hf k x.1 x.2.1) k
noncomputable def b144 : Code := Tryz.f144.body.getD .skip
theorem e144 : OM.Entry Tryz.prog 144 := ⟨_, Tryz.func144, by kernel_rfl, by kernel_rfl⟩
@[reducible] noncomputable def laws_szEventS.g : Sig := ⟨[.fz (.sl tEvent), .fz (.int .i64)], [.v (.int .i64) .z], []⟩
@[reducible] noncomputable def laws_szEventS.fk : Nat → denI laws_szEventS.g.pms → Option (denR (outTys laws_szEventS.g.rts laws_szEventS.g.pms)) := fun k x => laws_szEventS.f k x.1 x.2.1
@[reducible] noncomputable def laws_szEventS.sm (k : Nat) : Sm := ⟨144, laws_szEventS.g.pms, laws_szEventS.g.rts, laws_szEventS.fk k⟩
noncomputable def laws_szEventS.E (k : Nat) : Env := ⟨tys, [laws_szEvent.sm k], [], [], []⟩
@[reducible] noncomputable def laws_szEventS.s11 : List Slot := [.v 0 (.sl tEvent) .z [] 0, .v 4 (.int .i64) .z [] 0, .v 20 (.int .i64) .z [] 0]
noncomputable def laws_szEventS.pts : List (Pt (denR (outTys laws_szEventS.g.rts laws_szEventS.g.pms))) := [⟨11, laws_szEventS.s11, fun k x => laws_szEventS.p11 k x.1 x.2.1 x.2.2.1⟩]
theorem laws_szEventS.h11 (k : Nat) (x0 : (List Event)) (x1 : Int) (x2 : Int) : (laws_szEventS.p11 (k + 1) x0 x1 x2 : Option (denR (outTys laws_szEventS.g.rts laws_szEventS.g.pms))) = evAt (laws_szEventS.E k) (fun κ s => lhOf k κ s laws_szEventS.pts) 11 b144 (unproj laws_szEventS.s11 (x0, x1, x2, ())) (OM.fin laws_szEventS.g Tryz.f144.results.toList) := by kernel_rfl
theorem laws_szEventS.hf (k : Nat) (a0 : (List Event)) (a1 : Int) : (laws_szEventS.f k a0 a1 : Option (denR (outTys laws_szEventS.g.rts laws_szEventS.g.pms))) = evC (laws_szEventS.E k) (fun κ s => lhOf k κ s laws_szEventS.pts) b144 (OM.start laws_szEventS.g.pms 0 (a0, a1, ())) (OM.fin laws_szEventS.g Tryz.f144.results.toList) := by kernel_rfl
theorem laws_szEventS.ok (k : Nat) : SmOk Tryz.prog (laws_szEventS.sm k) :=
  sm_ok mixed (E := laws_szEventS.E) (pts := laws_szEventS.pts) (fun k => ⟨⟨tysOk, by kernel_rfl⟩, forall_cons ⟨laws_szEvent.ok k, e186⟩ (forall_nil)⟩) (fun _ => rfl) (fun _ => rfl)
    ⟨Tryz.func144, by kernel_rfl, by kernel_rfl, by kernel_rfl, by kernel_rfl, by kernel_rfl, by kernel_rfl⟩ (forall_cons (fun x => ⟨rfl, fun k => laws_szEventS.h11 k x.1 x.2.1 x.2.2.1⟩) (forall_nil)) (fun k x => laws_szEventS.hf k x.1 x.2.1) k
noncomputable def b80 : Code := Tryz.f80.body.getD .skip
theorem e80 : OM.Entry Tryz.prog 80 := ⟨_, Tryz.func80, by kernel_rfl, by kernel_rfl⟩
@[reducible] noncomputable def laws_szReader.g : Sig := ⟨[.fz tReader, .fz (.int .i64)], [.v (.int .i64) .z], []⟩
@[reducible] noncomputable def laws_szReader.fk : Nat → denI laws_szReader.g.pms → Option (denR (outTys laws_szReader.g.rts laws_szReader.g.pms)) := fun k x => laws_szReader.f k x.1 x.2.1
@[reducible] noncomputable def laws_szReader.sm (k : Nat) : Sm := ⟨80, laws_szReader.g.pms, laws_szReader.g.rts, laws_szReader.fk k⟩
noncomputable def laws_szReader.E (k : Nat) : Env := ⟨tys, [laws_szEventS.sm k], [], [], []⟩
noncomputable def laws_szReader.pts : List (Pt (denR (outTys laws_szReader.g.rts laws_szReader.g.pms))) := []
theorem laws_szReader.hf (k : Nat) (a0 : Reader) (a1 : Int) : (laws_szReader.f k a0 a1 : Option (denR (outTys laws_szReader.g.rts laws_szReader.g.pms))) = evC (laws_szReader.E k) (fun κ s => lhOf k κ s laws_szReader.pts) b80 (OM.start laws_szReader.g.pms 0 (a0, a1, ())) (OM.fin laws_szReader.g Tryz.f80.results.toList) := by kernel_rfl
theorem laws_szReader.ok (k : Nat) : SmOk Tryz.prog (laws_szReader.sm k) :=
  sm_ok mixed (E := laws_szReader.E) (pts := laws_szReader.pts) (fun k => ⟨⟨tysOk, by kernel_rfl⟩, forall_cons ⟨laws_szEventS.ok k, e144⟩ (forall_nil)⟩) (fun _ => rfl) (fun _ => rfl)
    ⟨Tryz.func80, by kernel_rfl, by kernel_rfl, by kernel_rfl, by kernel_rfl, by kernel_rfl, by kernel_rfl⟩ (forall_nil) (fun k x => laws_szReader.hf k x.1 x.2.1) k
noncomputable def b31 : Code := Tryz.f31.body.getD .skip
theorem e31 : OM.Entry Tryz.prog 31 := ⟨_, Tryz.func31, by kernel_rfl, by kernel_rfl⟩
@[reducible] noncomputable def laws_szReaderS.g : Sig := ⟨[.fz (.sl tReader), .fz (.int .i64)], [.v (.int .i64) .z], []⟩
@[reducible] noncomputable def laws_szReaderS.fk : Nat → denI laws_szReaderS.g.pms → Option (denR (outTys laws_szReaderS.g.rts laws_szReaderS.g.pms)) := fun k x => laws_szReaderS.f k x.1 x.2.1
@[reducible] noncomputable def laws_szReaderS.sm (k : Nat) : Sm := ⟨31, laws_szReaderS.g.pms, laws_szReaderS.g.rts, laws_szReaderS.fk k⟩
noncomputable def laws_szReaderS.E (k : Nat) : Env := ⟨tys, [laws_szReader.sm k], [], [], []⟩
@[reducible] noncomputable def laws_szReaderS.s11 : List Slot := [.v 0 (.sl tReader) .z [] 0, .v 4 (.int .i64) .z [] 0, .v 20 (.int .i64) .z [] 0]
noncomputable def laws_szReaderS.pts : List (Pt (denR (outTys laws_szReaderS.g.rts laws_szReaderS.g.pms))) := [⟨11, laws_szReaderS.s11, fun k x => laws_szReaderS.p11 k x.1 x.2.1 x.2.2.1⟩]
theorem laws_szReaderS.h11 (k : Nat) (x0 : (List Reader)) (x1 : Int) (x2 : Int) : (laws_szReaderS.p11 (k + 1) x0 x1 x2 : Option (denR (outTys laws_szReaderS.g.rts laws_szReaderS.g.pms))) = evAt (laws_szReaderS.E k) (fun κ s => lhOf k κ s laws_szReaderS.pts) 11 b31 (unproj laws_szReaderS.s11 (x0, x1, x2, ())) (OM.fin laws_szReaderS.g Tryz.f31.results.toList) := by kernel_rfl
theorem laws_szReaderS.hf (k : Nat) (a0 : (List Reader)) (a1 : Int) : (laws_szReaderS.f k a0 a1 : Option (denR (outTys laws_szReaderS.g.rts laws_szReaderS.g.pms))) = evC (laws_szReaderS.E k) (fun κ s => lhOf k κ s laws_szReaderS.pts) b31 (OM.start laws_szReaderS.g.pms 0 (a0, a1, ())) (OM.fin laws_szReaderS.g Tryz.f31.results.toList) := by kernel_rfl
theorem laws_szReaderS.ok (k : Nat) : SmOk Tryz.prog (laws_szReaderS.sm k) :=
  sm_ok mixed (E := laws_szReaderS.E) (pts := laws_szReaderS.pts) (fun k => ⟨⟨tysOk, by kernel_rfl⟩, forall_cons ⟨laws_szReader.ok k, e80⟩ (forall_nil)⟩) (fun _ => rfl) (fun _ => rfl)
    ⟨Tryz.func31, by kernel_rfl, by kernel_rfl, by kernel_rfl, by kernel_rfl, by kernel_rfl, by kernel_rfl⟩ (forall_cons (fun x => ⟨rfl, fun k => laws_szReaderS.h11 k x.1 x.2.1 x.2.2.1⟩) (forall_nil)) (fun k x => laws_szReaderS.hf k x.1 x.2.1) k
noncomputable def b81 : Code := Tryz.f81.body.getD .skip
theorem e81 : OM.Entry Tryz.prog 81 := ⟨_, Tryz.func81, by kernel_rfl, by kernel_rfl⟩
@[reducible] noncomputable def laws_szSent.g : Sig := ⟨[.fz tSent, .fz (.int .i64)], [.v (.int .i64) .z], []⟩
@[reducible] noncomputable def laws_szSent.fk : Nat → denI laws_szSent.g.pms → Option (denR (outTys laws_szSent.g.rts laws_szSent.g.pms)) := fun k x => laws_szSent.f x.1 x.2.1
@[reducible] noncomputable def laws_szSent.sm (k : Nat) : Sm := ⟨81, laws_szSent.g.pms, laws_szSent.g.rts, laws_szSent.fk k⟩
noncomputable def laws_szSent.E (k : Nat) : Env := ⟨tys, [], [], [], []⟩
noncomputable def laws_szSent.pts : List (Pt (denR (outTys laws_szSent.g.rts laws_szSent.g.pms))) := []
theorem laws_szSent.hf (k : Nat) (a0 : Sent) (a1 : Int) : (laws_szSent.f a0 a1 : Option (denR (outTys laws_szSent.g.rts laws_szSent.g.pms))) = evC (laws_szSent.E k) (fun κ s => lhOf k κ s laws_szSent.pts) b81 (OM.start laws_szSent.g.pms 0 (a0, a1, ())) (OM.fin laws_szSent.g Tryz.f81.results.toList) := by kernel_rfl
theorem laws_szSent.ok (k : Nat) : SmOk Tryz.prog (laws_szSent.sm k) :=
  sm_ok mixed (E := laws_szSent.E) (pts := laws_szSent.pts) (fun k => ⟨⟨tysOk, by kernel_rfl⟩, forall_nil⟩) (fun _ => rfl) (fun _ => rfl)
    ⟨Tryz.func81, by kernel_rfl, by kernel_rfl, by kernel_rfl, by kernel_rfl, by kernel_rfl, by kernel_rfl⟩ (forall_nil) (fun k x => laws_szSent.hf k x.1 x.2.1) k
noncomputable def b32 : Code := Tryz.f32.body.getD .skip
theorem e32 : OM.Entry Tryz.prog 32 := ⟨_, Tryz.func32, by kernel_rfl, by kernel_rfl⟩
@[reducible] noncomputable def laws_szSentS.g : Sig := ⟨[.fz (.sl tSent), .fz (.int .i64)], [.v (.int .i64) .z], []⟩
@[reducible] noncomputable def laws_szSentS.fk : Nat → denI laws_szSentS.g.pms → Option (denR (outTys laws_szSentS.g.rts laws_szSentS.g.pms)) := fun k x => laws_szSentS.f k x.1 x.2.1
@[reducible] noncomputable def laws_szSentS.sm (k : Nat) : Sm := ⟨32, laws_szSentS.g.pms, laws_szSentS.g.rts, laws_szSentS.fk k⟩
noncomputable def laws_szSentS.E (k : Nat) : Env := ⟨tys, [laws_szSent.sm k], [], [], []⟩
@[reducible] noncomputable def laws_szSentS.s11 : List Slot := [.v 0 (.sl tSent) .z [] 0, .v 4 (.int .i64) .z [] 0, .v 20 (.int .i64) .z [] 0]
noncomputable def laws_szSentS.pts : List (Pt (denR (outTys laws_szSentS.g.rts laws_szSentS.g.pms))) := [⟨11, laws_szSentS.s11, fun k x => laws_szSentS.p11 k x.1 x.2.1 x.2.2.1⟩]
theorem laws_szSentS.h11 (k : Nat) (x0 : (List Sent)) (x1 : Int) (x2 : Int) : (laws_szSentS.p11 (k + 1) x0 x1 x2 : Option (denR (outTys laws_szSentS.g.rts laws_szSentS.g.pms))) = evAt (laws_szSentS.E k) (fun κ s => lhOf k κ s laws_szSentS.pts) 11 b32 (unproj laws_szSentS.s11 (x0, x1, x2, ())) (OM.fin laws_szSentS.g Tryz.f32.results.toList) := by kernel_rfl
theorem laws_szSentS.hf (k : Nat) (a0 : (List Sent)) (a1 : Int) : (laws_szSentS.f k a0 a1 : Option (denR (outTys laws_szSentS.g.rts laws_szSentS.g.pms))) = evC (laws_szSentS.E k) (fun κ s => lhOf k κ s laws_szSentS.pts) b32 (OM.start laws_szSentS.g.pms 0 (a0, a1, ())) (OM.fin laws_szSentS.g Tryz.f32.results.toList) := by kernel_rfl
theorem laws_szSentS.ok (k : Nat) : SmOk Tryz.prog (laws_szSentS.sm k) :=
  sm_ok mixed (E := laws_szSentS.E) (pts := laws_szSentS.pts) (fun k => ⟨⟨tysOk, by kernel_rfl⟩, forall_cons ⟨laws_szSent.ok k, e81⟩ (forall_nil)⟩) (fun _ => rfl) (fun _ => rfl)
    ⟨Tryz.func32, by kernel_rfl, by kernel_rfl, by kernel_rfl, by kernel_rfl, by kernel_rfl, by kernel_rfl⟩ (forall_cons (fun x => ⟨rfl, fun k => laws_szSentS.h11 k x.1 x.2.1 x.2.2.1⟩) (forall_nil)) (fun k x => laws_szSentS.hf k x.1 x.2.1) k
noncomputable def b6 : Code := Tryz.f6.body.getD .skip
theorem e6 : OM.Entry Tryz.prog 6 := ⟨_, Tryz.func6, by kernel_rfl, by kernel_rfl⟩
@[reducible] noncomputable def laws_szWorld.g : Sig := ⟨[.fz tWorld, .fz (.int .i64)], [.v (.int .i64) .z], []⟩
@[reducible] noncomputable def laws_szWorld.fk : Nat → denI laws_szWorld.g.pms → Option (denR (outTys laws_szWorld.g.rts laws_szWorld.g.pms)) := fun k x => laws_szWorld.f k x.1 x.2.1
@[reducible] noncomputable def laws_szWorld.sm (k : Nat) : Sm := ⟨6, laws_szWorld.g.pms, laws_szWorld.g.rts, laws_szWorld.fk k⟩
noncomputable def laws_szWorld.E (k : Nat) : Env := ⟨tys, [laws_szIntS.sm k, laws_szConfig.sm k, laws_szStoreS.sm k, laws_szRegister.sm k, laws_szWriterS.sm k, laws_szMendS.sm k, laws_szReaderS.sm k, laws_szSentS.sm k], [], [], []⟩
noncomputable def laws_szWorld.pts : List (Pt (denR (outTys laws_szWorld.g.rts laws_szWorld.g.pms))) := []
theorem laws_szWorld.hf (k : Nat) (a0 : World) (a1 : Int) : (laws_szWorld.f k a0 a1 : Option (denR (outTys laws_szWorld.g.rts laws_szWorld.g.pms))) = evC (laws_szWorld.E k) (fun κ s => lhOf k κ s laws_szWorld.pts) b6 (OM.start laws_szWorld.g.pms 0 (a0, a1, ())) (OM.fin laws_szWorld.g Tryz.f6.results.toList) := by kernel_rfl
theorem laws_szWorld.ok (k : Nat) : SmOk Tryz.prog (laws_szWorld.sm k) :=
  sm_ok mixed (E := laws_szWorld.E) (pts := laws_szWorld.pts) (fun k => ⟨⟨tysOk, by kernel_rfl⟩, forall_cons ⟨laws_szIntS.ok k, e27⟩ (forall_cons ⟨laws_szConfig.ok k, e25⟩ (forall_cons ⟨laws_szStoreS.ok k, e26⟩ (forall_cons ⟨laws_szRegister.ok k, e28⟩ (forall_cons ⟨laws_szWriterS.ok k, e29⟩ (forall_cons ⟨laws_szMendS.ok k, e30⟩ (forall_cons ⟨laws_szReaderS.ok k, e31⟩ (forall_cons ⟨laws_szSentS.ok k, e32⟩ (forall_nil))))))))⟩) (fun _ => rfl) (fun _ => rfl)
    ⟨Tryz.func6, by kernel_rfl, by kernel_rfl, by kernel_rfl, by kernel_rfl, by kernel_rfl, by kernel_rfl⟩ (forall_nil) (fun k x => laws_szWorld.hf k x.1 x.2.1) k
noncomputable def b39 : Code := Tryz.f39.body.getD .skip
theorem e39 : OM.Entry Tryz.prog 39 := ⟨_, Tryz.func39, by kernel_rfl, by kernel_rfl⟩
@[reducible] noncomputable def laws_toIntS.g : Sig := ⟨[.fz (.sl (.int .i64))], [.v (.sl (.int .i64)) (.own .z)], []⟩
@[reducible] noncomputable def laws_toIntS.fk : Nat → denI laws_toIntS.g.pms → Option (denR (outTys laws_toIntS.g.rts laws_toIntS.g.pms)) := fun k x => laws_toIntS.f k x.1
@[reducible] noncomputable def laws_toIntS.sm (k : Nat) : Sm := ⟨39, laws_toIntS.g.pms, laws_toIntS.g.rts, laws_toIntS.fk k⟩
noncomputable def laws_toIntS.E (k : Nat) : Env := ⟨tys, [], [19], [], []⟩
@[reducible] noncomputable def laws_toIntS.s7 : List Slot := [.v 0 (.sl (.int .i64)) .z [] 0, .v 12 (.sl (.int .i64)) (.own .z) [] 0, .v 16 (.int .i64) .z [] 0]
noncomputable def laws_toIntS.pts : List (Pt (denR (outTys laws_toIntS.g.rts laws_toIntS.g.pms))) := [⟨7, laws_toIntS.s7, fun k x => laws_toIntS.p7 k x.1 x.2.1 x.2.2.1⟩]
theorem laws_toIntS.h7 (k : Nat) (x0 : (List Int)) (x1 : (List Int)) (x2 : Int) : (laws_toIntS.p7 (k + 1) x0 x1 x2 : Option (denR (outTys laws_toIntS.g.rts laws_toIntS.g.pms))) = evAt (laws_toIntS.E k) (fun κ s => lhOf k κ s laws_toIntS.pts) 7 b39 (unproj laws_toIntS.s7 (x0, x1, x2, ())) (OM.fin laws_toIntS.g Tryz.f39.results.toList) := by kernel_rfl
theorem laws_toIntS.hf (k : Nat) (a0 : (List Int)) : (laws_toIntS.f k a0 : Option (denR (outTys laws_toIntS.g.rts laws_toIntS.g.pms))) = evC (laws_toIntS.E k) (fun κ s => lhOf k κ s laws_toIntS.pts) b39 (OM.start laws_toIntS.g.pms 0 (a0, ())) (OM.fin laws_toIntS.g Tryz.f39.results.toList) := by kernel_rfl
theorem laws_toIntS.ok (k : Nat) : SmOk Tryz.prog (laws_toIntS.sm k) :=
  sm_ok mixed (E := laws_toIntS.E) (pts := laws_toIntS.pts) (fun k => ⟨⟨tysOk, by kernel_rfl⟩, forall_nil⟩) (fun _ => rfl) (fun _ => rfl)
    ⟨Tryz.func39, by kernel_rfl, by kernel_rfl, by kernel_rfl, by kernel_rfl, by kernel_rfl, by kernel_rfl⟩ (forall_cons (fun x => ⟨rfl, fun k => laws_toIntS.h7 k x.1 x.2.1 x.2.2.1⟩) (forall_nil)) (fun k x => laws_toIntS.hf k x.1) k
noncomputable def b37 : Code := Tryz.f37.body.getD .skip
theorem e37 : OM.Entry Tryz.prog 37 := ⟨_, Tryz.func37, by kernel_rfl, by kernel_rfl⟩
@[reducible] noncomputable def laws_toConfig.g : Sig := ⟨[.fz tConfig], [.v tConfig (.two (.own .z) .z)], []⟩
@[reducible] noncomputable def laws_toConfig.fk : Nat → denI laws_toConfig.g.pms → Option (denR (outTys laws_toConfig.g.rts laws_toConfig.g.pms)) := fun k x => laws_toConfig.f k x.1
@[reducible] noncomputable def laws_toConfig.sm (k : Nat) : Sm := ⟨37, laws_toConfig.g.pms, laws_toConfig.g.rts, laws_toConfig.fk k⟩
noncomputable def laws_toConfig.E (k : Nat) : Env := ⟨tys, [laws_toIntS.sm k], [9], [], []⟩
noncomputable def laws_toConfig.pts : List (Pt (denR (outTys laws_toConfig.g.rts laws_toConfig.g.pms))) := []
theorem laws_toConfig.hf (k : Nat) (a0 : Config) : (laws_toConfig.f k a0 : Option (denR (outTys laws_toConfig.g.rts laws_toConfig.g.pms))) = evC (laws_toConfig.E k) (fun κ s => lhOf k κ s laws_toConfig.pts) b37 (OM.start laws_toConfig.g.pms 0 (a0, ())) (OM.fin laws_toConfig.g Tryz.f37.results.toList) := by kernel_rfl
theorem laws_toConfig.ok (k : Nat) : SmOk Tryz.prog (laws_toConfig.sm k) :=
  sm_ok mixed (E := laws_toConfig.E) (pts := laws_toConfig.pts) (fun k => ⟨⟨tysOk, by kernel_rfl⟩, forall_cons ⟨laws_toIntS.ok k, e39⟩ (forall_nil)⟩) (fun _ => rfl) (fun _ => rfl)
    ⟨Tryz.func37, by kernel_rfl, by kernel_rfl, by kernel_rfl, by kernel_rfl, by kernel_rfl, by kernel_rfl⟩ (forall_nil) (fun k x => laws_toConfig.hf k x.1) k
noncomputable def b188 : Code := Tryz.f188.body.getD .skip
theorem e188 : OM.Entry Tryz.prog 188 := ⟨_, Tryz.func188, by kernel_rfl, by kernel_rfl⟩
@[reducible] noncomputable def laws_toEntry.g : Sig := ⟨[.fz tEntry], [.v tEntry .z], []⟩
@[reducible] noncomputable def laws_toEntry.fk : Nat → denI laws_toEntry.g.pms → Option (denR (outTys laws_toEntry.g.rts laws_toEntry.g.pms)) := fun k x => laws_toEntry.f x.1
@[reducible] noncomputable def laws_toEntry.sm (k : Nat) : Sm := ⟨188, laws_toEntry.g.pms, laws_toEntry.g.rts, laws_toEntry.fk k⟩
noncomputable def laws_toEntry.E (k : Nat) : Env := ⟨tys, [], [14], [], []⟩
noncomputable def laws_toEntry.pts : List (Pt (denR (outTys laws_toEntry.g.rts laws_toEntry.g.pms))) := []
theorem laws_toEntry.hf (k : Nat) (a0 : Entry) : (laws_toEntry.f a0 : Option (denR (outTys laws_toEntry.g.rts laws_toEntry.g.pms))) = evC (laws_toEntry.E k) (fun κ s => lhOf k κ s laws_toEntry.pts) b188 (OM.start laws_toEntry.g.pms 0 (a0, ())) (OM.fin laws_toEntry.g Tryz.f188.results.toList) := by kernel_rfl
theorem laws_toEntry.ok (k : Nat) : SmOk Tryz.prog (laws_toEntry.sm k) :=
  sm_ok mixed (E := laws_toEntry.E) (pts := laws_toEntry.pts) (fun k => ⟨⟨tysOk, by kernel_rfl⟩, forall_nil⟩) (fun _ => rfl) (fun _ => rfl)
    ⟨Tryz.func188, by kernel_rfl, by kernel_rfl, by kernel_rfl, by kernel_rfl, by kernel_rfl, by kernel_rfl⟩ (forall_nil) (fun k x => laws_toEntry.hf k x.1) k
noncomputable def b151 : Code := Tryz.f151.body.getD .skip
theorem e151 : OM.Entry Tryz.prog 151 := ⟨_, Tryz.func151, by kernel_rfl, by kernel_rfl⟩
@[reducible] noncomputable def laws_toEntryS.g : Sig := ⟨[.fz (.sl tEntry)], [.v (.sl tEntry) (.own .z)], []⟩
@[reducible] noncomputable def laws_toEntryS.fk : Nat → denI laws_toEntryS.g.pms → Option (denR (outTys laws_toEntryS.g.rts laws_toEntryS.g.pms)) := fun k x => laws_toEntryS.f k x.1
@[reducible] noncomputable def laws_toEntryS.sm (k : Nat) : Sm := ⟨151, laws_toEntryS.g.pms, laws_toEntryS.g.rts, laws_toEntryS.fk k⟩
noncomputable def laws_toEntryS.E (k : Nat) : Env := ⟨tys, [laws_toEntry.sm k], [], [], []⟩
@[reducible] noncomputable def laws_toEntryS.s7 : List Slot := [.v 0 (.sl tEntry) .z [] 0, .v 12 (.sl tEntry) (.own .z) [] 0, .v 16 (.int .i64) .z [] 0]
noncomputable def laws_toEntryS.pts : List (Pt (denR (outTys laws_toEntryS.g.rts laws_toEntryS.g.pms))) := [⟨7, laws_toEntryS.s7, fun k x => laws_toEntryS.p7 k x.1 x.2.1 x.2.2.1⟩]
theorem laws_toEntryS.h7 (k : Nat) (x0 : (List Entry)) (x1 : (List Entry)) (x2 : Int) : (laws_toEntryS.p7 (k + 1) x0 x1 x2 : Option (denR (outTys laws_toEntryS.g.rts laws_toEntryS.g.pms))) = evAt (laws_toEntryS.E k) (fun κ s => lhOf k κ s laws_toEntryS.pts) 7 b151 (unproj laws_toEntryS.s7 (x0, x1, x2, ())) (OM.fin laws_toEntryS.g Tryz.f151.results.toList) := by kernel_rfl
theorem laws_toEntryS.hf (k : Nat) (a0 : (List Entry)) : (laws_toEntryS.f k a0 : Option (denR (outTys laws_toEntryS.g.rts laws_toEntryS.g.pms))) = evC (laws_toEntryS.E k) (fun κ s => lhOf k κ s laws_toEntryS.pts) b151 (OM.start laws_toEntryS.g.pms 0 (a0, ())) (OM.fin laws_toEntryS.g Tryz.f151.results.toList) := by kernel_rfl
theorem laws_toEntryS.ok (k : Nat) : SmOk Tryz.prog (laws_toEntryS.sm k) :=
  sm_ok mixed (E := laws_toEntryS.E) (pts := laws_toEntryS.pts) (fun k => ⟨⟨tysOk, by kernel_rfl⟩, forall_cons ⟨laws_toEntry.ok k, e188⟩ (forall_nil)⟩) (fun _ => rfl) (fun _ => rfl)
    ⟨Tryz.func151, by kernel_rfl, by kernel_rfl, by kernel_rfl, by kernel_rfl, by kernel_rfl, by kernel_rfl⟩ (forall_cons (fun x => ⟨rfl, fun k => laws_toEntryS.h7 k x.1 x.2.1 x.2.2.1⟩) (forall_nil)) (fun k x => laws_toEntryS.hf k x.1) k
noncomputable def b95 : Code := Tryz.f95.body.getD .skip
theorem e95 : OM.Entry Tryz.prog 95 := ⟨_, Tryz.func95, by kernel_rfl, by kernel_rfl⟩
@[reducible] noncomputable def laws_toStore.g : Sig := ⟨[.fz tStore], [.v tStore (.two (.own .z) (.two (.own .z) .z))], []⟩
@[reducible] noncomputable def laws_toStore.fk : Nat → denI laws_toStore.g.pms → Option (denR (outTys laws_toStore.g.rts laws_toStore.g.pms)) := fun k x => laws_toStore.f k x.1
@[reducible] noncomputable def laws_toStore.sm (k : Nat) : Sm := ⟨95, laws_toStore.g.pms, laws_toStore.g.rts, laws_toStore.fk k⟩
noncomputable def laws_toStore.E (k : Nat) : Env := ⟨tys, [laws_toEntryS.sm k], [13], [], []⟩
noncomputable def laws_toStore.pts : List (Pt (denR (outTys laws_toStore.g.rts laws_toStore.g.pms))) := []
theorem laws_toStore.hf (k : Nat) (a0 : Store) : (laws_toStore.f k a0 : Option (denR (outTys laws_toStore.g.rts laws_toStore.g.pms))) = evC (laws_toStore.E k) (fun κ s => lhOf k κ s laws_toStore.pts) b95 (OM.start laws_toStore.g.pms 0 (a0, ())) (OM.fin laws_toStore.g Tryz.f95.results.toList) := by kernel_rfl
theorem laws_toStore.ok (k : Nat) : SmOk Tryz.prog (laws_toStore.sm k) :=
  sm_ok mixed (E := laws_toStore.E) (pts := laws_toStore.pts) (fun k => ⟨⟨tysOk, by kernel_rfl⟩, forall_cons ⟨laws_toEntryS.ok k, e151⟩ (forall_nil)⟩) (fun _ => rfl) (fun _ => rfl)
    ⟨Tryz.func95, by kernel_rfl, by kernel_rfl, by kernel_rfl, by kernel_rfl, by kernel_rfl, by kernel_rfl⟩ (forall_nil) (fun k x => laws_toStore.hf k x.1) k
noncomputable def b38 : Code := Tryz.f38.body.getD .skip
theorem e38 : OM.Entry Tryz.prog 38 := ⟨_, Tryz.func38, by kernel_rfl, by kernel_rfl⟩
@[reducible] noncomputable def laws_toStoreS.g : Sig := ⟨[.fz (.sl tStore)], [.v (.sl tStore) (.own (.two (.own .z) (.two (.own .z) .z)))], []⟩
@[reducible] noncomputable def laws_toStoreS.fk : Nat → denI laws_toStoreS.g.pms → Option (denR (outTys laws_toStoreS.g.rts laws_toStoreS.g.pms)) := fun k x => laws_toStoreS.f k x.1
@[reducible] noncomputable def laws_toStoreS.sm (k : Nat) : Sm := ⟨38, laws_toStoreS.g.pms, laws_toStoreS.g.rts, laws_toStoreS.fk k⟩
noncomputable def laws_toStoreS.E (k : Nat) : Env := ⟨tys, [laws_toStore.sm k], [], [], []⟩
@[reducible] noncomputable def laws_toStoreS.s7 : List Slot := [.v 0 (.sl tStore) .z [] 0, .v 12 (.sl tStore) (.own (.two (.own .z) (.two (.own .z) .z))) [] 0, .v 16 (.int .i64) .z [] 0]
noncomputable def laws_toStoreS.pts : List (Pt (denR (outTys laws_toStoreS.g.rts laws_toStoreS.g.pms))) := [⟨7, laws_toStoreS.s7, fun k x => laws_toStoreS.p7 k x.1 x.2.1 x.2.2.1⟩]
theorem laws_toStoreS.h7 (k : Nat) (x0 : (List Store)) (x1 : (List Store)) (x2 : Int) : (laws_toStoreS.p7 (k + 1) x0 x1 x2 : Option (denR (outTys laws_toStoreS.g.rts laws_toStoreS.g.pms))) = evAt (laws_toStoreS.E k) (fun κ s => lhOf k κ s laws_toStoreS.pts) 7 b38 (unproj laws_toStoreS.s7 (x0, x1, x2, ())) (OM.fin laws_toStoreS.g Tryz.f38.results.toList) := by kernel_rfl
theorem laws_toStoreS.hf (k : Nat) (a0 : (List Store)) : (laws_toStoreS.f k a0 : Option (denR (outTys laws_toStoreS.g.rts laws_toStoreS.g.pms))) = evC (laws_toStoreS.E k) (fun κ s => lhOf k κ s laws_toStoreS.pts) b38 (OM.start laws_toStoreS.g.pms 0 (a0, ())) (OM.fin laws_toStoreS.g Tryz.f38.results.toList) := by kernel_rfl
theorem laws_toStoreS.ok (k : Nat) : SmOk Tryz.prog (laws_toStoreS.sm k) :=
  sm_ok mixed (E := laws_toStoreS.E) (pts := laws_toStoreS.pts) (fun k => ⟨⟨tysOk, by kernel_rfl⟩, forall_cons ⟨laws_toStore.ok k, e95⟩ (forall_nil)⟩) (fun _ => rfl) (fun _ => rfl)
    ⟨Tryz.func38, by kernel_rfl, by kernel_rfl, by kernel_rfl, by kernel_rfl, by kernel_rfl, by kernel_rfl⟩ (forall_cons (fun x => ⟨rfl, fun k => laws_toStoreS.h7 k x.1 x.2.1 x.2.2.1⟩) (forall_nil)) (fun k x => laws_toStoreS.hf k x.1) k
noncomputable def b152 : Code := Tryz.f152.body.getD .skip
theorem e152 : OM.Entry Tryz.prog 152 := ⟨_, Tryz.func152, by kernel_rfl, by kernel_rfl⟩
@[reducible] noncomputable def laws_toEra.g : Sig := ⟨[.fz tEra], [.v tEra (.two (.own .z) .z)], []⟩
@[reducible] noncomputable def laws_toEra.fk : Nat → denI laws_toEra.g.pms → Option (denR (outTys laws_toEra.g.rts laws_toEra.g.pms)) := fun k x => laws_toEra.f k x.1
@[reducible] noncomputable def laws_toEra.sm (k : Nat) : Sm := ⟨152, laws_toEra.g.pms, laws_toEra.g.rts, laws_toEra.fk k⟩
noncomputable def laws_toEra.E (k : Nat) : Env := ⟨tys, [laws_toIntS.sm k], [12], [], []⟩
noncomputable def laws_toEra.pts : List (Pt (denR (outTys laws_toEra.g.rts laws_toEra.g.pms))) := []
theorem laws_toEra.hf (k : Nat) (a0 : Era) : (laws_toEra.f k a0 : Option (denR (outTys laws_toEra.g.rts laws_toEra.g.pms))) = evC (laws_toEra.E k) (fun κ s => lhOf k κ s laws_toEra.pts) b152 (OM.start laws_toEra.g.pms 0 (a0, ())) (OM.fin laws_toEra.g Tryz.f152.results.toList) := by kernel_rfl
theorem laws_toEra.ok (k : Nat) : SmOk Tryz.prog (laws_toEra.sm k) :=
  sm_ok mixed (E := laws_toEra.E) (pts := laws_toEra.pts) (fun k => ⟨⟨tysOk, by kernel_rfl⟩, forall_cons ⟨laws_toIntS.ok k, e39⟩ (forall_nil)⟩) (fun _ => rfl) (fun _ => rfl)
    ⟨Tryz.func152, by kernel_rfl, by kernel_rfl, by kernel_rfl, by kernel_rfl, by kernel_rfl, by kernel_rfl⟩ (forall_nil) (fun k x => laws_toEra.hf k x.1) k
noncomputable def b96 : Code := Tryz.f96.body.getD .skip
theorem e96 : OM.Entry Tryz.prog 96 := ⟨_, Tryz.func96, by kernel_rfl, by kernel_rfl⟩
@[reducible] noncomputable def laws_toEraS.g : Sig := ⟨[.fz (.sl tEra)], [.v (.sl tEra) (.own (.two (.own .z) .z))], []⟩
@[reducible] noncomputable def laws_toEraS.fk : Nat → denI laws_toEraS.g.pms → Option (denR (outTys laws_toEraS.g.rts laws_toEraS.g.pms)) := fun k x => laws_toEraS.f k x.1
@[reducible] noncomputable def laws_toEraS.sm (k : Nat) : Sm := ⟨96, laws_toEraS.g.pms, laws_toEraS.g.rts, laws_toEraS.fk k⟩
noncomputable def laws_toEraS.E (k : Nat) : Env := ⟨tys, [laws_toEra.sm k], [], [], []⟩
@[reducible] noncomputable def laws_toEraS.s7 : List Slot := [.v 0 (.sl tEra) .z [] 0, .v 12 (.sl tEra) (.own (.two (.own .z) .z)) [] 0, .v 16 (.int .i64) .z [] 0]
noncomputable def laws_toEraS.pts : List (Pt (denR (outTys laws_toEraS.g.rts laws_toEraS.g.pms))) := [⟨7, laws_toEraS.s7, fun k x => laws_toEraS.p7 k x.1 x.2.1 x.2.2.1⟩]
theorem laws_toEraS.h7 (k : Nat) (x0 : (List Era)) (x1 : (List Era)) (x2 : Int) : (laws_toEraS.p7 (k + 1) x0 x1 x2 : Option (denR (outTys laws_toEraS.g.rts laws_toEraS.g.pms))) = evAt (laws_toEraS.E k) (fun κ s => lhOf k κ s laws_toEraS.pts) 7 b96 (unproj laws_toEraS.s7 (x0, x1, x2, ())) (OM.fin laws_toEraS.g Tryz.f96.results.toList) := by kernel_rfl
theorem laws_toEraS.hf (k : Nat) (a0 : (List Era)) : (laws_toEraS.f k a0 : Option (denR (outTys laws_toEraS.g.rts laws_toEraS.g.pms))) = evC (laws_toEraS.E k) (fun κ s => lhOf k κ s laws_toEraS.pts) b96 (OM.start laws_toEraS.g.pms 0 (a0, ())) (OM.fin laws_toEraS.g Tryz.f96.results.toList) := by kernel_rfl
theorem laws_toEraS.ok (k : Nat) : SmOk Tryz.prog (laws_toEraS.sm k) :=
  sm_ok mixed (E := laws_toEraS.E) (pts := laws_toEraS.pts) (fun k => ⟨⟨tysOk, by kernel_rfl⟩, forall_cons ⟨laws_toEra.ok k, e152⟩ (forall_nil)⟩) (fun _ => rfl) (fun _ => rfl)
    ⟨Tryz.func96, by kernel_rfl, by kernel_rfl, by kernel_rfl, by kernel_rfl, by kernel_rfl, by kernel_rfl⟩ (forall_cons (fun x => ⟨rfl, fun k => laws_toEraS.h7 k x.1 x.2.1 x.2.2.1⟩) (forall_nil)) (fun k x => laws_toEraS.hf k x.1) k
noncomputable def b40 : Code := Tryz.f40.body.getD .skip
theorem e40 : OM.Entry Tryz.prog 40 := ⟨_, Tryz.func40, by kernel_rfl, by kernel_rfl⟩
@[reducible] noncomputable def laws_toRegister.g : Sig := ⟨[.fz tRegister], [.v tRegister (.two (.own (.two (.own .z) .z)) .z)], []⟩
@[reducible] noncomputable def laws_toRegister.fk : Nat → denI laws_toRegister.g.pms → Option (denR (outTys laws_toRegister.g.rts laws_toRegister.g.pms)) := fun k x => laws_toRegister.f k x.1
@[reducible] noncomputable def laws_toRegister.sm (k : Nat) : Sm := ⟨40, laws_toRegister.g.pms, laws_toRegister.g.rts, laws_toRegister.fk k⟩
noncomputable def laws_toRegister.E (k : Nat) : Env := ⟨tys, [laws_toEraS.sm k], [9], [], []⟩
noncomputable def laws_toRegister.pts : List (Pt (denR (outTys laws_toRegister.g.rts laws_toRegister.g.pms))) := []
theorem laws_toRegister.hf (k : Nat) (a0 : Register) : (laws_toRegister.f k a0 : Option (denR (outTys laws_toRegister.g.rts laws_toRegister.g.pms))) = evC (laws_toRegister.E k) (fun κ s => lhOf k κ s laws_toRegister.pts) b40 (OM.start laws_toRegister.g.pms 0 (a0, ())) (OM.fin laws_toRegister.g Tryz.f40.results.toList) := by kernel_rfl
theorem laws_toRegister.ok (k : Nat) : SmOk Tryz.prog (laws_toRegister.sm k) :=
  sm_ok mixed (E := laws_toRegister.E) (pts := laws_toRegister.pts) (fun k => ⟨⟨tysOk, by kernel_rfl⟩, forall_cons ⟨laws_toEraS.ok k, e96⟩ (forall_nil)⟩) (fun _ => rfl) (fun _ => rfl)
    ⟨Tryz.func40, by kernel_rfl, by kernel_rfl, by kernel_rfl, by kernel_rfl, by kernel_rfl, by kernel_rfl⟩ (forall_nil) (fun k x => laws_toRegister.hf k x.1) k
noncomputable def b189 : Code := Tryz.f189.body.getD .skip
theorem e189 : OM.Entry Tryz.prog 189 := ⟨_, Tryz.func189, by kernel_rfl, by kernel_rfl⟩
@[reducible] noncomputable def laws_toWord.g : Sig := ⟨[.fz tWord], [.v tWord (.two .z (.two (.own .z) .z))], []⟩
@[reducible] noncomputable def laws_toWord.fk : Nat → denI laws_toWord.g.pms → Option (denR (outTys laws_toWord.g.rts laws_toWord.g.pms)) := fun k x => laws_toWord.f k x.1
@[reducible] noncomputable def laws_toWord.sm (k : Nat) : Sm := ⟨189, laws_toWord.g.pms, laws_toWord.g.rts, laws_toWord.fk k⟩
noncomputable def laws_toWord.E (k : Nat) : Env := ⟨tys, [laws_toIntS.sm k], [12], [], []⟩
noncomputable def laws_toWord.pts : List (Pt (denR (outTys laws_toWord.g.rts laws_toWord.g.pms))) := []
theorem laws_toWord.hf (k : Nat) (a0 : Word) : (laws_toWord.f k a0 : Option (denR (outTys laws_toWord.g.rts laws_toWord.g.pms))) = evC (laws_toWord.E k) (fun κ s => lhOf k κ s laws_toWord.pts) b189 (OM.start laws_toWord.g.pms 0 (a0, ())) (OM.fin laws_toWord.g Tryz.f189.results.toList) := by kernel_rfl
theorem laws_toWord.ok (k : Nat) : SmOk Tryz.prog (laws_toWord.sm k) :=
  sm_ok mixed (E := laws_toWord.E) (pts := laws_toWord.pts) (fun k => ⟨⟨tysOk, by kernel_rfl⟩, forall_cons ⟨laws_toIntS.ok k, e39⟩ (forall_nil)⟩) (fun _ => rfl) (fun _ => rfl)
    ⟨Tryz.func189, by kernel_rfl, by kernel_rfl, by kernel_rfl, by kernel_rfl, by kernel_rfl, by kernel_rfl⟩ (forall_nil) (fun k x => laws_toWord.hf k x.1) k
noncomputable def b153 : Code := Tryz.f153.body.getD .skip
theorem e153 : OM.Entry Tryz.prog 153 := ⟨_, Tryz.func153, by kernel_rfl, by kernel_rfl⟩
@[reducible] noncomputable def laws_toWordS.g : Sig := ⟨[.fz (.sl tWord)], [.v (.sl tWord) (.own (.two .z (.two (.own .z) .z)))], []⟩
@[reducible] noncomputable def laws_toWordS.fk : Nat → denI laws_toWordS.g.pms → Option (denR (outTys laws_toWordS.g.rts laws_toWordS.g.pms)) := fun k x => laws_toWordS.f k x.1
@[reducible] noncomputable def laws_toWordS.sm (k : Nat) : Sm := ⟨153, laws_toWordS.g.pms, laws_toWordS.g.rts, laws_toWordS.fk k⟩
noncomputable def laws_toWordS.E (k : Nat) : Env := ⟨tys, [laws_toWord.sm k], [], [], []⟩
@[reducible] noncomputable def laws_toWordS.s7 : List Slot := [.v 0 (.sl tWord) .z [] 0, .v 12 (.sl tWord) (.own (.two .z (.two (.own .z) .z))) [] 0, .v 16 (.int .i64) .z [] 0]
noncomputable def laws_toWordS.pts : List (Pt (denR (outTys laws_toWordS.g.rts laws_toWordS.g.pms))) := [⟨7, laws_toWordS.s7, fun k x => laws_toWordS.p7 k x.1 x.2.1 x.2.2.1⟩]
theorem laws_toWordS.h7 (k : Nat) (x0 : (List Word)) (x1 : (List Word)) (x2 : Int) : (laws_toWordS.p7 (k + 1) x0 x1 x2 : Option (denR (outTys laws_toWordS.g.rts laws_toWordS.g.pms))) = evAt (laws_toWordS.E k) (fun κ s => lhOf k κ s laws_toWordS.pts) 7 b153 (unproj laws_toWordS.s7 (x0, x1, x2, ())) (OM.fin laws_toWordS.g Tryz.f153.results.toList) := by kernel_rfl
theorem laws_toWordS.hf (k : Nat) (a0 : (List Word)) : (laws_toWordS.f k a0 : Option (denR (outTys laws_toWordS.g.rts laws_toWordS.g.pms))) = evC (laws_toWordS.E k) (fun κ s => lhOf k κ s laws_toWordS.pts) b153 (OM.start laws_toWordS.g.pms 0 (a0, ())) (OM.fin laws_toWordS.g Tryz.f153.results.toList) := by kernel_rfl
theorem laws_toWordS.ok (k : Nat) : SmOk Tryz.prog (laws_toWordS.sm k) :=
  sm_ok mixed (E := laws_toWordS.E) (pts := laws_toWordS.pts) (fun k => ⟨⟨tysOk, by kernel_rfl⟩, forall_cons ⟨laws_toWord.ok k, e189⟩ (forall_nil)⟩) (fun _ => rfl) (fun _ => rfl)
    ⟨Tryz.func153, by kernel_rfl, by kernel_rfl, by kernel_rfl, by kernel_rfl, by kernel_rfl, by kernel_rfl⟩ (forall_cons (fun x => ⟨rfl, fun k => laws_toWordS.h7 k x.1 x.2.1 x.2.2.1⟩) (forall_nil)) (fun k x => laws_toWordS.hf k x.1) k
noncomputable def b97 : Code := Tryz.f97.body.getD .skip
theorem e97 : OM.Entry Tryz.prog 97 := ⟨_, Tryz.func97, by kernel_rfl, by kernel_rfl⟩
@[reducible] noncomputable def laws_toWriter.g : Sig := ⟨[.fz tWriter], [.v tWriter (.two .z (.two (.own (.two .z (.two (.own .z) .z))) .z))], []⟩
@[reducible] noncomputable def laws_toWriter.fk : Nat → denI laws_toWriter.g.pms → Option (denR (outTys laws_toWriter.g.rts laws_toWriter.g.pms)) := fun k x => laws_toWriter.f k x.1
@[reducible] noncomputable def laws_toWriter.sm (k : Nat) : Sm := ⟨97, laws_toWriter.g.pms, laws_toWriter.g.rts, laws_toWriter.fk k⟩
noncomputable def laws_toWriter.E (k : Nat) : Env := ⟨tys, [laws_toWordS.sm k], [], [], []⟩
noncomputable def laws_toWriter.pts : List (Pt (denR (outTys laws_toWriter.g.rts laws_toWriter.g.pms))) := []
theorem laws_toWriter.hf (k : Nat) (a0 : Writer) : (laws_toWriter.f k a0 : Option (denR (outTys laws_toWriter.g.rts laws_toWriter.g.pms))) = evC (laws_toWriter.E k) (fun κ s => lhOf k κ s laws_toWriter.pts) b97 (OM.start laws_toWriter.g.pms 0 (a0, ())) (OM.fin laws_toWriter.g Tryz.f97.results.toList) := by kernel_rfl
theorem laws_toWriter.ok (k : Nat) : SmOk Tryz.prog (laws_toWriter.sm k) :=
  sm_ok mixed (E := laws_toWriter.E) (pts := laws_toWriter.pts) (fun k => ⟨⟨tysOk, by kernel_rfl⟩, forall_cons ⟨laws_toWordS.ok k, e153⟩ (forall_nil)⟩) (fun _ => rfl) (fun _ => rfl)
    ⟨Tryz.func97, by kernel_rfl, by kernel_rfl, by kernel_rfl, by kernel_rfl, by kernel_rfl, by kernel_rfl⟩ (forall_nil) (fun k x => laws_toWriter.hf k x.1) k
noncomputable def b41 : Code := Tryz.f41.body.getD .skip
theorem e41 : OM.Entry Tryz.prog 41 := ⟨_, Tryz.func41, by kernel_rfl, by kernel_rfl⟩
@[reducible] noncomputable def laws_toWriterS.g : Sig := ⟨[.fz (.sl tWriter)], [.v (.sl tWriter) (.own (.two .z (.two (.own (.two .z (.two (.own .z) .z))) .z)))], []⟩
@[reducible] noncomputable def laws_toWriterS.fk : Nat → denI laws_toWriterS.g.pms → Option (denR (outTys laws_toWriterS.g.rts laws_toWriterS.g.pms)) := fun k x => laws_toWriterS.f k x.1
@[reducible] noncomputable def laws_toWriterS.sm (k : Nat) : Sm := ⟨41, laws_toWriterS.g.pms, laws_toWriterS.g.rts, laws_toWriterS.fk k⟩
noncomputable def laws_toWriterS.E (k : Nat) : Env := ⟨tys, [laws_toWriter.sm k], [], [], []⟩
@[reducible] noncomputable def laws_toWriterS.s7 : List Slot := [.v 0 (.sl tWriter) .z [] 0, .v 12 (.sl tWriter) (.own (.two .z (.two (.own (.two .z (.two (.own .z) .z))) .z))) [] 0, .v 16 (.int .i64) .z [] 0]
noncomputable def laws_toWriterS.pts : List (Pt (denR (outTys laws_toWriterS.g.rts laws_toWriterS.g.pms))) := [⟨7, laws_toWriterS.s7, fun k x => laws_toWriterS.p7 k x.1 x.2.1 x.2.2.1⟩]
theorem laws_toWriterS.h7 (k : Nat) (x0 : (List Writer)) (x1 : (List Writer)) (x2 : Int) : (laws_toWriterS.p7 (k + 1) x0 x1 x2 : Option (denR (outTys laws_toWriterS.g.rts laws_toWriterS.g.pms))) = evAt (laws_toWriterS.E k) (fun κ s => lhOf k κ s laws_toWriterS.pts) 7 b41 (unproj laws_toWriterS.s7 (x0, x1, x2, ())) (OM.fin laws_toWriterS.g Tryz.f41.results.toList) := by kernel_rfl
theorem laws_toWriterS.hf (k : Nat) (a0 : (List Writer)) : (laws_toWriterS.f k a0 : Option (denR (outTys laws_toWriterS.g.rts laws_toWriterS.g.pms))) = evC (laws_toWriterS.E k) (fun κ s => lhOf k κ s laws_toWriterS.pts) b41 (OM.start laws_toWriterS.g.pms 0 (a0, ())) (OM.fin laws_toWriterS.g Tryz.f41.results.toList) := by kernel_rfl
theorem laws_toWriterS.ok (k : Nat) : SmOk Tryz.prog (laws_toWriterS.sm k) :=
  sm_ok mixed (E := laws_toWriterS.E) (pts := laws_toWriterS.pts) (fun k => ⟨⟨tysOk, by kernel_rfl⟩, forall_cons ⟨laws_toWriter.ok k, e97⟩ (forall_nil)⟩) (fun _ => rfl) (fun _ => rfl)
    ⟨Tryz.func41, by kernel_rfl, by kernel_rfl, by kernel_rfl, by kernel_rfl, by kernel_rfl, by kernel_rfl⟩ (forall_cons (fun x => ⟨rfl, fun k => laws_toWriterS.h7 k x.1 x.2.1 x.2.2.1⟩) (forall_nil)) (fun k x => laws_toWriterS.hf k x.1) k
noncomputable def b154 : Code := Tryz.f154.body.getD .skip
theorem e154 : OM.Entry Tryz.prog 154 := ⟨_, Tryz.func154, by kernel_rfl, by kernel_rfl⟩
@[reducible] noncomputable def laws_toIntSS.g : Sig := ⟨[.fz (.sl (.sl (.int .i64)))], [.v (.sl (.sl (.int .i64))) (.own (.own .z))], []⟩
@[reducible] noncomputable def laws_toIntSS.fk : Nat → denI laws_toIntSS.g.pms → Option (denR (outTys laws_toIntSS.g.rts laws_toIntSS.g.pms)) := fun k x => laws_toIntSS.f k x.1
@[reducible] noncomputable def laws_toIntSS.sm (k : Nat) : Sm := ⟨154, laws_toIntSS.g.pms, laws_toIntSS.g.rts, laws_toIntSS.fk k⟩
noncomputable def laws_toIntSS.E (k : Nat) : Env := ⟨tys, [laws_toIntS.sm k], [], [], []⟩
@[reducible] noncomputable def laws_toIntSS.s7 : List Slot := [.v 0 (.sl (.sl (.int .i64))) .z [] 0, .v 12 (.sl (.sl (.int .i64))) (.own (.own .z)) [] 0, .v 16 (.int .i64) .z [] 0]
noncomputable def laws_toIntSS.pts : List (Pt (denR (outTys laws_toIntSS.g.rts laws_toIntSS.g.pms))) := [⟨7, laws_toIntSS.s7, fun k x => laws_toIntSS.p7 k x.1 x.2.1 x.2.2.1⟩]
theorem laws_toIntSS.h7 (k : Nat) (x0 : (List (List Int))) (x1 : (List (List Int))) (x2 : Int) : (laws_toIntSS.p7 (k + 1) x0 x1 x2 : Option (denR (outTys laws_toIntSS.g.rts laws_toIntSS.g.pms))) = evAt (laws_toIntSS.E k) (fun κ s => lhOf k κ s laws_toIntSS.pts) 7 b154 (unproj laws_toIntSS.s7 (x0, x1, x2, ())) (OM.fin laws_toIntSS.g Tryz.f154.results.toList) := by kernel_rfl
theorem laws_toIntSS.hf (k : Nat) (a0 : (List (List Int))) : (laws_toIntSS.f k a0 : Option (denR (outTys laws_toIntSS.g.rts laws_toIntSS.g.pms))) = evC (laws_toIntSS.E k) (fun κ s => lhOf k κ s laws_toIntSS.pts) b154 (OM.start laws_toIntSS.g.pms 0 (a0, ())) (OM.fin laws_toIntSS.g Tryz.f154.results.toList) := by kernel_rfl
theorem laws_toIntSS.ok (k : Nat) : SmOk Tryz.prog (laws_toIntSS.sm k) :=
  sm_ok mixed (E := laws_toIntSS.E) (pts := laws_toIntSS.pts) (fun k => ⟨⟨tysOk, by kernel_rfl⟩, forall_cons ⟨laws_toIntS.ok k, e39⟩ (forall_nil)⟩) (fun _ => rfl) (fun _ => rfl)
    ⟨Tryz.func154, by kernel_rfl, by kernel_rfl, by kernel_rfl, by kernel_rfl, by kernel_rfl, by kernel_rfl⟩ (forall_cons (fun x => ⟨rfl, fun k => laws_toIntSS.h7 k x.1 x.2.1 x.2.2.1⟩) (forall_nil)) (fun k x => laws_toIntSS.hf k x.1) k
noncomputable def b98 : Code := Tryz.f98.body.getD .skip
theorem e98 : OM.Entry Tryz.prog 98 := ⟨_, Tryz.func98, by kernel_rfl, by kernel_rfl⟩
@[reducible] noncomputable def laws_toMend.g : Sig := ⟨[.fz tMend], [.v tMend (.two .z (.two .z (.two (.own .z) (.two (.own .z) (.two .z (.two (.own (.own .z)) .z))))))], []⟩
@[reducible] noncomputable def laws_toMend.fk : Nat → denI laws_toMend.g.pms → Option (denR (outTys laws_toMend.g.rts laws_toMend.g.pms)) := fun k x => laws_toMend.f k x.1
@[reducible] noncomputable def laws_toMend.sm (k : Nat) : Sm := ⟨98, laws_toMend.g.pms, laws_toMend.g.rts, laws_toMend.fk k⟩
noncomputable def laws_toMend.E (k : Nat) : Env := ⟨tys, [laws_toIntS.sm k, laws_toEntryS.sm k, laws_toIntSS.sm k], [], [], []⟩
noncomputable def laws_toMend.pts : List (Pt (denR (outTys laws_toMend.g.rts laws_toMend.g.pms))) := []
theorem laws_toMend.hf (k : Nat) (a0 : Mend) : (laws_toMend.f k a0 : Option (denR (outTys laws_toMend.g.rts laws_toMend.g.pms))) = evC (laws_toMend.E k) (fun κ s => lhOf k κ s laws_toMend.pts) b98 (OM.start laws_toMend.g.pms 0 (a0, ())) (OM.fin laws_toMend.g Tryz.f98.results.toList) := by kernel_rfl
theorem laws_toMend.ok (k : Nat) : SmOk Tryz.prog (laws_toMend.sm k) :=
  sm_ok mixed (E := laws_toMend.E) (pts := laws_toMend.pts) (fun k => ⟨⟨tysOk, by kernel_rfl⟩, forall_cons ⟨laws_toIntS.ok k, e39⟩ (forall_cons ⟨laws_toEntryS.ok k, e151⟩ (forall_cons ⟨laws_toIntSS.ok k, e154⟩ (forall_nil)))⟩) (fun _ => rfl) (fun _ => rfl)
    ⟨Tryz.func98, by kernel_rfl, by kernel_rfl, by kernel_rfl, by kernel_rfl, by kernel_rfl, by kernel_rfl⟩ (forall_nil) (fun k x => laws_toMend.hf k x.1) k
noncomputable def b42 : Code := Tryz.f42.body.getD .skip
theorem e42 : OM.Entry Tryz.prog 42 := ⟨_, Tryz.func42, by kernel_rfl, by kernel_rfl⟩
@[reducible] noncomputable def laws_toMendS.g : Sig := ⟨[.fz (.sl tMend)], [.v (.sl tMend) (.own (.two .z (.two .z (.two (.own .z) (.two (.own .z) (.two .z (.two (.own (.own .z)) .z)))))))], []⟩
@[reducible] noncomputable def laws_toMendS.fk : Nat → denI laws_toMendS.g.pms → Option (denR (outTys laws_toMendS.g.rts laws_toMendS.g.pms)) := fun k x => laws_toMendS.f k x.1
@[reducible] noncomputable def laws_toMendS.sm (k : Nat) : Sm := ⟨42, laws_toMendS.g.pms, laws_toMendS.g.rts, laws_toMendS.fk k⟩
noncomputable def laws_toMendS.E (k : Nat) : Env := ⟨tys, [laws_toMend.sm k], [], [], []⟩
@[reducible] noncomputable def laws_toMendS.s7 : List Slot := [.v 0 (.sl tMend) .z [] 0, .v 12 (.sl tMend) (.own (.two .z (.two .z (.two (.own .z) (.two (.own .z) (.two .z (.two (.own (.own .z)) .z))))))) [] 0, .v 16 (.int .i64) .z [] 0]
noncomputable def laws_toMendS.pts : List (Pt (denR (outTys laws_toMendS.g.rts laws_toMendS.g.pms))) := [⟨7, laws_toMendS.s7, fun k x => laws_toMendS.p7 k x.1 x.2.1 x.2.2.1⟩]
theorem laws_toMendS.h7 (k : Nat) (x0 : (List Mend)) (x1 : (List Mend)) (x2 : Int) : (laws_toMendS.p7 (k + 1) x0 x1 x2 : Option (denR (outTys laws_toMendS.g.rts laws_toMendS.g.pms))) = evAt (laws_toMendS.E k) (fun κ s => lhOf k κ s laws_toMendS.pts) 7 b42 (unproj laws_toMendS.s7 (x0, x1, x2, ())) (OM.fin laws_toMendS.g Tryz.f42.results.toList) := by kernel_rfl
theorem laws_toMendS.hf (k : Nat) (a0 : (List Mend)) : (laws_toMendS.f k a0 : Option (denR (outTys laws_toMendS.g.rts laws_toMendS.g.pms))) = evC (laws_toMendS.E k) (fun κ s => lhOf k κ s laws_toMendS.pts) b42 (OM.start laws_toMendS.g.pms 0 (a0, ())) (OM.fin laws_toMendS.g Tryz.f42.results.toList) := by kernel_rfl
theorem laws_toMendS.ok (k : Nat) : SmOk Tryz.prog (laws_toMendS.sm k) :=
  sm_ok mixed (E := laws_toMendS.E) (pts := laws_toMendS.pts) (fun k => ⟨⟨tysOk, by kernel_rfl⟩, forall_cons ⟨laws_toMend.ok k, e98⟩ (forall_nil)⟩) (fun _ => rfl) (fun _ => rfl)
    ⟨Tryz.func42, by kernel_rfl, by kernel_rfl, by kernel_rfl, by kernel_rfl, by kernel_rfl, by kernel_rfl⟩ (forall_cons (fun x => ⟨rfl, fun k => laws_toMendS.h7 k x.1 x.2.1 x.2.2.1⟩) (forall_nil)) (fun k x => laws_toMendS.hf k x.1) k
noncomputable def b190 : Code := Tryz.f190.body.getD .skip
theorem e190 : OM.Entry Tryz.prog 190 := ⟨_, Tryz.func190, by kernel_rfl, by kernel_rfl⟩
@[reducible] noncomputable def laws_toEvent.g : Sig := ⟨[.fz tEvent], [.v tEvent .z], []⟩
@[reducible] noncomputable def laws_toEvent.fk : Nat → denI laws_toEvent.g.pms → Option (denR (outTys laws_toEvent.g.rts laws_toEvent.g.pms)) := fun k x => laws_toEvent.f x.1
@[reducible] noncomputable def laws_toEvent.sm (k : Nat) : Sm := ⟨190, laws_toEvent.g.pms, laws_toEvent.g.rts, laws_toEvent.fk k⟩
noncomputable def laws_toEvent.E (k : Nat) : Env := ⟨tys, [], [11], [], []⟩
noncomputable def laws_toEvent.pts : List (Pt (denR (outTys laws_toEvent.g.rts laws_toEvent.g.pms))) := []
theorem laws_toEvent.hf (k : Nat) (a0 : Event) : (laws_toEvent.f a0 : Option (denR (outTys laws_toEvent.g.rts laws_toEvent.g.pms))) = evC (laws_toEvent.E k) (fun κ s => lhOf k κ s laws_toEvent.pts) b190 (OM.start laws_toEvent.g.pms 0 (a0, ())) (OM.fin laws_toEvent.g Tryz.f190.results.toList) := by kernel_rfl
theorem laws_toEvent.ok (k : Nat) : SmOk Tryz.prog (laws_toEvent.sm k) :=
  sm_ok mixed (E := laws_toEvent.E) (pts := laws_toEvent.pts) (fun k => ⟨⟨tysOk, by kernel_rfl⟩, forall_nil⟩) (fun _ => rfl) (fun _ => rfl)
    ⟨Tryz.func190, by kernel_rfl, by kernel_rfl, by kernel_rfl, by kernel_rfl, by kernel_rfl, by kernel_rfl⟩ (forall_nil) (fun k x => laws_toEvent.hf k x.1) k
noncomputable def b155 : Code := Tryz.f155.body.getD .skip
theorem e155 : OM.Entry Tryz.prog 155 := ⟨_, Tryz.func155, by kernel_rfl, by kernel_rfl⟩
@[reducible] noncomputable def laws_toEventS.g : Sig := ⟨[.fz (.sl tEvent)], [.v (.sl tEvent) (.own .z)], []⟩
@[reducible] noncomputable def laws_toEventS.fk : Nat → denI laws_toEventS.g.pms → Option (denR (outTys laws_toEventS.g.rts laws_toEventS.g.pms)) := fun k x => laws_toEventS.f k x.1
@[reducible] noncomputable def laws_toEventS.sm (k : Nat) : Sm := ⟨155, laws_toEventS.g.pms, laws_toEventS.g.rts, laws_toEventS.fk k⟩
noncomputable def laws_toEventS.E (k : Nat) : Env := ⟨tys, [laws_toEvent.sm k], [], [], []⟩
@[reducible] noncomputable def laws_toEventS.s7 : List Slot := [.v 0 (.sl tEvent) .z [] 0, .v 12 (.sl tEvent) (.own .z) [] 0, .v 16 (.int .i64) .z [] 0]
noncomputable def laws_toEventS.pts : List (Pt (denR (outTys laws_toEventS.g.rts laws_toEventS.g.pms))) := [⟨7, laws_toEventS.s7, fun k x => laws_toEventS.p7 k x.1 x.2.1 x.2.2.1⟩]
theorem laws_toEventS.h7 (k : Nat) (x0 : (List Event)) (x1 : (List Event)) (x2 : Int) : (laws_toEventS.p7 (k + 1) x0 x1 x2 : Option (denR (outTys laws_toEventS.g.rts laws_toEventS.g.pms))) = evAt (laws_toEventS.E k) (fun κ s => lhOf k κ s laws_toEventS.pts) 7 b155 (unproj laws_toEventS.s7 (x0, x1, x2, ())) (OM.fin laws_toEventS.g Tryz.f155.results.toList) := by kernel_rfl
theorem laws_toEventS.hf (k : Nat) (a0 : (List Event)) : (laws_toEventS.f k a0 : Option (denR (outTys laws_toEventS.g.rts laws_toEventS.g.pms))) = evC (laws_toEventS.E k) (fun κ s => lhOf k κ s laws_toEventS.pts) b155 (OM.start laws_toEventS.g.pms 0 (a0, ())) (OM.fin laws_toEventS.g Tryz.f155.results.toList) := by kernel_rfl
theorem laws_toEventS.ok (k : Nat) : SmOk Tryz.prog (laws_toEventS.sm k) :=
  sm_ok mixed (E := laws_toEventS.E) (pts := laws_toEventS.pts) (fun k => ⟨⟨tysOk, by kernel_rfl⟩, forall_cons ⟨laws_toEvent.ok k, e190⟩ (forall_nil)⟩) (fun _ => rfl) (fun _ => rfl)
    ⟨Tryz.func155, by kernel_rfl, by kernel_rfl, by kernel_rfl, by kernel_rfl, by kernel_rfl, by kernel_rfl⟩ (forall_cons (fun x => ⟨rfl, fun k => laws_toEventS.h7 k x.1 x.2.1 x.2.2.1⟩) (forall_nil)) (fun k x => laws_toEventS.hf k x.1) k
noncomputable def b99 : Code := Tryz.f99.body.getD .skip
theorem e99 : OM.Entry Tryz.prog 99 := ⟨_, Tryz.func99, by kernel_rfl, by kernel_rfl⟩
@[reducible] noncomputable def laws_toReader.g : Sig := ⟨[.fz tReader], [.v tReader (.two .z (.two .z (.two (.own .z) .z)))], []⟩
@[reducible] noncomputable def laws_toReader.fk : Nat → denI laws_toReader.g.pms → Option (denR (outTys laws_toReader.g.rts laws_toReader.g.pms)) := fun k x => laws_toReader.f k x.1
@[reducible] noncomputable def laws_toReader.sm (k : Nat) : Sm := ⟨99, laws_toReader.g.pms, laws_toReader.g.rts, laws_toReader.fk k⟩
noncomputable def laws_toReader.E (k : Nat) : Env := ⟨tys, [laws_toEventS.sm k], [], [], []⟩
noncomputable def laws_toReader.pts : List (Pt (denR (outTys laws_toReader.g.rts laws_toReader.g.pms))) := []
theorem laws_toReader.hf (k : Nat) (a0 : Reader) : (laws_toReader.f k a0 : Option (denR (outTys laws_toReader.g.rts laws_toReader.g.pms))) = evC (laws_toReader.E k) (fun κ s => lhOf k κ s laws_toReader.pts) b99 (OM.start laws_toReader.g.pms 0 (a0, ())) (OM.fin laws_toReader.g Tryz.f99.results.toList) := by kernel_rfl
theorem laws_toReader.ok (k : Nat) : SmOk Tryz.prog (laws_toReader.sm k) :=
  sm_ok mixed (E := laws_toReader.E) (pts := laws_toReader.pts) (fun k => ⟨⟨tysOk, by kernel_rfl⟩, forall_cons ⟨laws_toEventS.ok k, e155⟩ (forall_nil)⟩) (fun _ => rfl) (fun _ => rfl)
    ⟨Tryz.func99, by kernel_rfl, by kernel_rfl, by kernel_rfl, by kernel_rfl, by kernel_rfl, by kernel_rfl⟩ (forall_nil) (fun k x => laws_toReader.hf k x.1) k
noncomputable def b43 : Code := Tryz.f43.body.getD .skip
theorem e43 : OM.Entry Tryz.prog 43 := ⟨_, Tryz.func43, by kernel_rfl, by kernel_rfl⟩
@[reducible] noncomputable def laws_toReaderS.g : Sig := ⟨[.fz (.sl tReader)], [.v (.sl tReader) (.own (.two .z (.two .z (.two (.own .z) .z))))], []⟩
@[reducible] noncomputable def laws_toReaderS.fk : Nat → denI laws_toReaderS.g.pms → Option (denR (outTys laws_toReaderS.g.rts laws_toReaderS.g.pms)) := fun k x => laws_toReaderS.f k x.1
@[reducible] noncomputable def laws_toReaderS.sm (k : Nat) : Sm := ⟨43, laws_toReaderS.g.pms, laws_toReaderS.g.rts, laws_toReaderS.fk k⟩
noncomputable def laws_toReaderS.E (k : Nat) : Env := ⟨tys, [laws_toReader.sm k], [], [], []⟩
@[reducible] noncomputable def laws_toReaderS.s7 : List Slot := [.v 0 (.sl tReader) .z [] 0, .v 12 (.sl tReader) (.own (.two .z (.two .z (.two (.own .z) .z)))) [] 0, .v 16 (.int .i64) .z [] 0]
noncomputable def laws_toReaderS.pts : List (Pt (denR (outTys laws_toReaderS.g.rts laws_toReaderS.g.pms))) := [⟨7, laws_toReaderS.s7, fun k x => laws_toReaderS.p7 k x.1 x.2.1 x.2.2.1⟩]
theorem laws_toReaderS.h7 (k : Nat) (x0 : (List Reader)) (x1 : (List Reader)) (x2 : Int) : (laws_toReaderS.p7 (k + 1) x0 x1 x2 : Option (denR (outTys laws_toReaderS.g.rts laws_toReaderS.g.pms))) = evAt (laws_toReaderS.E k) (fun κ s => lhOf k κ s laws_toReaderS.pts) 7 b43 (unproj laws_toReaderS.s7 (x0, x1, x2, ())) (OM.fin laws_toReaderS.g Tryz.f43.results.toList) := by kernel_rfl
theorem laws_toReaderS.hf (k : Nat) (a0 : (List Reader)) : (laws_toReaderS.f k a0 : Option (denR (outTys laws_toReaderS.g.rts laws_toReaderS.g.pms))) = evC (laws_toReaderS.E k) (fun κ s => lhOf k κ s laws_toReaderS.pts) b43 (OM.start laws_toReaderS.g.pms 0 (a0, ())) (OM.fin laws_toReaderS.g Tryz.f43.results.toList) := by kernel_rfl
theorem laws_toReaderS.ok (k : Nat) : SmOk Tryz.prog (laws_toReaderS.sm k) :=
  sm_ok mixed (E := laws_toReaderS.E) (pts := laws_toReaderS.pts) (fun k => ⟨⟨tysOk, by kernel_rfl⟩, forall_cons ⟨laws_toReader.ok k, e99⟩ (forall_nil)⟩) (fun _ => rfl) (fun _ => rfl)
    ⟨Tryz.func43, by kernel_rfl, by kernel_rfl, by kernel_rfl, by kernel_rfl, by kernel_rfl, by kernel_rfl⟩ (forall_cons (fun x => ⟨rfl, fun k => laws_toReaderS.h7 k x.1 x.2.1 x.2.2.1⟩) (forall_nil)) (fun k x => laws_toReaderS.hf k x.1) k
noncomputable def b100 : Code := Tryz.f100.body.getD .skip
theorem e100 : OM.Entry Tryz.prog 100 := ⟨_, Tryz.func100, by kernel_rfl, by kernel_rfl⟩
@[reducible] noncomputable def laws_toSent.g : Sig := ⟨[.fz tSent], [.v tSent .z], []⟩
@[reducible] noncomputable def laws_toSent.fk : Nat → denI laws_toSent.g.pms → Option (denR (outTys laws_toSent.g.rts laws_toSent.g.pms)) := fun k x => laws_toSent.f x.1
@[reducible] noncomputable def laws_toSent.sm (k : Nat) : Sm := ⟨100, laws_toSent.g.pms, laws_toSent.g.rts, laws_toSent.fk k⟩
noncomputable def laws_toSent.E (k : Nat) : Env := ⟨tys, [], [11], [], []⟩
noncomputable def laws_toSent.pts : List (Pt (denR (outTys laws_toSent.g.rts laws_toSent.g.pms))) := []
theorem laws_toSent.hf (k : Nat) (a0 : Sent) : (laws_toSent.f a0 : Option (denR (outTys laws_toSent.g.rts laws_toSent.g.pms))) = evC (laws_toSent.E k) (fun κ s => lhOf k κ s laws_toSent.pts) b100 (OM.start laws_toSent.g.pms 0 (a0, ())) (OM.fin laws_toSent.g Tryz.f100.results.toList) := by kernel_rfl
theorem laws_toSent.ok (k : Nat) : SmOk Tryz.prog (laws_toSent.sm k) :=
  sm_ok mixed (E := laws_toSent.E) (pts := laws_toSent.pts) (fun k => ⟨⟨tysOk, by kernel_rfl⟩, forall_nil⟩) (fun _ => rfl) (fun _ => rfl)
    ⟨Tryz.func100, by kernel_rfl, by kernel_rfl, by kernel_rfl, by kernel_rfl, by kernel_rfl, by kernel_rfl⟩ (forall_nil) (fun k x => laws_toSent.hf k x.1) k
noncomputable def b44 : Code := Tryz.f44.body.getD .skip
theorem e44 : OM.Entry Tryz.prog 44 := ⟨_, Tryz.func44, by kernel_rfl, by kernel_rfl⟩
@[reducible] noncomputable def laws_toSentS.g : Sig := ⟨[.fz (.sl tSent)], [.v (.sl tSent) (.own .z)], []⟩
@[reducible] noncomputable def laws_toSentS.fk : Nat → denI laws_toSentS.g.pms → Option (denR (outTys laws_toSentS.g.rts laws_toSentS.g.pms)) := fun k x => laws_toSentS.f k x.1
@[reducible] noncomputable def laws_toSentS.sm (k : Nat) : Sm := ⟨44, laws_toSentS.g.pms, laws_toSentS.g.rts, laws_toSentS.fk k⟩
noncomputable def laws_toSentS.E (k : Nat) : Env := ⟨tys, [laws_toSent.sm k], [], [], []⟩
@[reducible] noncomputable def laws_toSentS.s7 : List Slot := [.v 0 (.sl tSent) .z [] 0, .v 12 (.sl tSent) (.own .z) [] 0, .v 16 (.int .i64) .z [] 0]
noncomputable def laws_toSentS.pts : List (Pt (denR (outTys laws_toSentS.g.rts laws_toSentS.g.pms))) := [⟨7, laws_toSentS.s7, fun k x => laws_toSentS.p7 k x.1 x.2.1 x.2.2.1⟩]
theorem laws_toSentS.h7 (k : Nat) (x0 : (List Sent)) (x1 : (List Sent)) (x2 : Int) : (laws_toSentS.p7 (k + 1) x0 x1 x2 : Option (denR (outTys laws_toSentS.g.rts laws_toSentS.g.pms))) = evAt (laws_toSentS.E k) (fun κ s => lhOf k κ s laws_toSentS.pts) 7 b44 (unproj laws_toSentS.s7 (x0, x1, x2, ())) (OM.fin laws_toSentS.g Tryz.f44.results.toList) := by kernel_rfl
theorem laws_toSentS.hf (k : Nat) (a0 : (List Sent)) : (laws_toSentS.f k a0 : Option (denR (outTys laws_toSentS.g.rts laws_toSentS.g.pms))) = evC (laws_toSentS.E k) (fun κ s => lhOf k κ s laws_toSentS.pts) b44 (OM.start laws_toSentS.g.pms 0 (a0, ())) (OM.fin laws_toSentS.g Tryz.f44.results.toList) := by kernel_rfl
theorem laws_toSentS.ok (k : Nat) : SmOk Tryz.prog (laws_toSentS.sm k) :=
  sm_ok mixed (E := laws_toSentS.E) (pts := laws_toSentS.pts) (fun k => ⟨⟨tysOk, by kernel_rfl⟩, forall_cons ⟨laws_toSent.ok k, e100⟩ (forall_nil)⟩) (fun _ => rfl) (fun _ => rfl)
    ⟨Tryz.func44, by kernel_rfl, by kernel_rfl, by kernel_rfl, by kernel_rfl, by kernel_rfl, by kernel_rfl⟩ (forall_cons (fun x => ⟨rfl, fun k => laws_toSentS.h7 k x.1 x.2.1 x.2.2.1⟩) (forall_nil)) (fun k x => laws_toSentS.hf k x.1) k
noncomputable def b8 : Code := Tryz.f8.body.getD .skip
theorem e8 : OM.Entry Tryz.prog 8 := ⟨_, Tryz.func8, by kernel_rfl, by kernel_rfl⟩
@[reducible] noncomputable def laws_toWorld.g : Sig := ⟨[.fz tWorld], [.v tWorld (.two (.two (.own .z) .z) (.two (.own (.two (.own .z) (.two (.own .z) .z))) (.two (.own .z) (.two (.two (.own (.two (.own .z) .z)) .z) (.two (.own (.two .z (.two (.own (.two .z (.two (.own .z) .z))) .z))) (.two (.own (.two .z (.two .z (.two (.own .z) (.two (.own .z) (.two .z (.two (.own (.own .z)) .z))))))) (.two (.own (.two .z (.two .z (.two (.own .z) .z)))) (.two (.own .z) .z))))))))], []⟩
@[reducible] noncomputable def laws_toWorld.fk : Nat → denI laws_toWorld.g.pms → Option (denR (outTys laws_toWorld.g.rts laws_toWorld.g.pms)) := fun k x => laws_toWorld.f k x.1
@[reducible] noncomputable def laws_toWorld.sm (k : Nat) : Sm := ⟨8, laws_toWorld.g.pms, laws_toWorld.g.rts, laws_toWorld.fk k⟩
noncomputable def laws_toWorld.E (k : Nat) : Env := ⟨tys, [laws_toIntS.sm k, laws_toConfig.sm k, laws_toStoreS.sm k, laws_toRegister.sm k, laws_toWriterS.sm k, laws_toMendS.sm k, laws_toReaderS.sm k, laws_toSentS.sm k], [37], [], []⟩
noncomputable def laws_toWorld.pts : List (Pt (denR (outTys laws_toWorld.g.rts laws_toWorld.g.pms))) := []
theorem laws_toWorld.hf (k : Nat) (a0 : World) : (laws_toWorld.f k a0 : Option (denR (outTys laws_toWorld.g.rts laws_toWorld.g.pms))) = evC (laws_toWorld.E k) (fun κ s => lhOf k κ s laws_toWorld.pts) b8 (OM.start laws_toWorld.g.pms 0 (a0, ())) (OM.fin laws_toWorld.g Tryz.f8.results.toList) := by kernel_rfl
theorem laws_toWorld.ok (k : Nat) : SmOk Tryz.prog (laws_toWorld.sm k) :=
  sm_ok mixed (E := laws_toWorld.E) (pts := laws_toWorld.pts) (fun k => ⟨⟨tysOk, by kernel_rfl⟩, forall_cons ⟨laws_toIntS.ok k, e39⟩ (forall_cons ⟨laws_toConfig.ok k, e37⟩ (forall_cons ⟨laws_toStoreS.ok k, e38⟩ (forall_cons ⟨laws_toRegister.ok k, e40⟩ (forall_cons ⟨laws_toWriterS.ok k, e41⟩ (forall_cons ⟨laws_toMendS.ok k, e42⟩ (forall_cons ⟨laws_toReaderS.ok k, e43⟩ (forall_cons ⟨laws_toSentS.ok k, e44⟩ (forall_nil))))))))⟩) (fun _ => rfl) (fun _ => rfl)
    ⟨Tryz.func8, by kernel_rfl, by kernel_rfl, by kernel_rfl, by kernel_rfl, by kernel_rfl, by kernel_rfl⟩ (forall_nil) (fun k x => laws_toWorld.hf k x.1) k
noncomputable def b92 : Code := Tryz.f92.body.getD .skip
theorem e92 : OM.Entry Tryz.prog 92 := ⟨_, Tryz.func92, by kernel_rfl, by kernel_rfl⟩
@[reducible] noncomputable def spec_l1In.g : Sig := ⟨[.fz (.int .i64), .fz (.int .i64), .fz (.int .i64)], [.v .bool .z], []⟩
@[reducible] noncomputable def spec_l1In.fk : Nat → denI spec_l1In.g.pms → Option (denR (outTys spec_l1In.g.rts spec_l1In.g.pms)) := fun k x => spec_l1In.f x.1 x.2.1 x.2.2.1
@[reducible] noncomputable def spec_l1In.sm (k : Nat) : Sm := ⟨92, spec_l1In.g.pms, spec_l1In.g.rts, spec_l1In.fk k⟩
noncomputable def spec_l1In.E (k : Nat) : Env := ⟨tys, [], [], [], []⟩
noncomputable def spec_l1In.pts : List (Pt (denR (outTys spec_l1In.g.rts spec_l1In.g.pms))) := []
theorem spec_l1In.hf (k : Nat) (a0 : Int) (a1 : Int) (a2 : Int) : (spec_l1In.f a0 a1 a2 : Option (denR (outTys spec_l1In.g.rts spec_l1In.g.pms))) = evC (spec_l1In.E k) (fun κ s => lhOf k κ s spec_l1In.pts) b92 (OM.start spec_l1In.g.pms 0 (a0, a1, a2, ())) (OM.fin spec_l1In.g Tryz.f92.results.toList) := by kernel_rfl
theorem spec_l1In.ok (k : Nat) : SmOk Tryz.prog (spec_l1In.sm k) :=
  sm_ok mixed (E := spec_l1In.E) (pts := spec_l1In.pts) (fun k => ⟨⟨tysOk, by kernel_rfl⟩, forall_nil⟩) (fun _ => rfl) (fun _ => rfl)
    ⟨Tryz.func92, by kernel_rfl, by kernel_rfl, by kernel_rfl, by kernel_rfl, by kernel_rfl, by kernel_rfl⟩ (forall_nil) (fun k x => spec_l1In.hf k x.1 x.2.1 x.2.2.1) k
noncomputable def b82 : Code := Tryz.f82.body.getD .skip
theorem e82 : OM.Entry Tryz.prog 82 := ⟨_, Tryz.func82, by kernel_rfl, by kernel_rfl⟩
@[reducible] noncomputable def spec_ConfigOk.g : Sig := ⟨[.fz tConfig], [.v .bool .z], []⟩
@[reducible] noncomputable def spec_ConfigOk.fk : Nat → denI spec_ConfigOk.g.pms → Option (denR (outTys spec_ConfigOk.g.rts spec_ConfigOk.g.pms)) := fun k x => spec_ConfigOk.f k x.1
@[reducible] noncomputable def spec_ConfigOk.sm (k : Nat) : Sm := ⟨82, spec_ConfigOk.g.pms, spec_ConfigOk.g.rts, spec_ConfigOk.fk k⟩
noncomputable def spec_ConfigOk.E (k : Nat) : Env := ⟨tys, [spec_l1In.sm k], [], [], []⟩
@[reducible] noncomputable def spec_ConfigOk.s9 : List Slot := [.r 4 5 [] tConfig, .v 12 (.int .i64) .z [] 0, .v 5 tConfig .z [] 0]
noncomputable def spec_ConfigOk.pts : List (Pt (denR (outTys spec_ConfigOk.g.rts spec_ConfigOk.g.pms))) := [⟨9, spec_ConfigOk.s9, fun k x => spec_ConfigOk.p9 k x.1 x.2.1⟩]
theorem spec_ConfigOk.h9 (k : Nat) (x0 : Int) (x1 : Config) : (spec_ConfigOk.p9 (k + 1) x0 x1 : Option (denR (outTys spec_ConfigOk.g.rts spec_ConfigOk.g.pms))) = evAt (spec_ConfigOk.E k) (fun κ s => lhOf k κ s spec_ConfigOk.pts) 9 b82 (unproj spec_ConfigOk.s9 (x0, x1, ())) (OM.fin spec_ConfigOk.g Tryz.f82.results.toList) := by kernel_rfl
theorem spec_ConfigOk.hf (k : Nat) (a0 : Config) : (spec_ConfigOk.f k a0 : Option (denR (outTys spec_ConfigOk.g.rts spec_ConfigOk.g.pms))) = evC (spec_ConfigOk.E k) (fun κ s => lhOf k κ s spec_ConfigOk.pts) b82 (OM.start spec_ConfigOk.g.pms 0 (a0, ())) (OM.fin spec_ConfigOk.g Tryz.f82.results.toList) := by kernel_rfl
theorem spec_ConfigOk.ok (k : Nat) : SmOk Tryz.prog (spec_ConfigOk.sm k) :=
  sm_ok mixed (E := spec_ConfigOk.E) (pts := spec_ConfigOk.pts) (fun k => ⟨⟨tysOk, by kernel_rfl⟩, forall_cons ⟨spec_l1In.ok k, e92⟩ (forall_nil)⟩) (fun _ => rfl) (fun _ => rfl)
    ⟨Tryz.func82, by kernel_rfl, by kernel_rfl, by kernel_rfl, by kernel_rfl, by kernel_rfl, by kernel_rfl⟩ (forall_cons (fun x => ⟨rfl, fun k => spec_ConfigOk.h9 k x.1 x.2.1⟩) (forall_nil)) (fun k x => spec_ConfigOk.hf k x.1) k
noncomputable def b145 : Code := Tryz.f145.body.getD .skip
theorem e145 : OM.Entry Tryz.prog 145 := ⟨_, Tryz.func145, by kernel_rfl, by kernel_rfl⟩
@[reducible] noncomputable def spec_l4Asc.g : Sig := ⟨[.fz (.sl (.int .i64)), .fz (.int .i64), .fz (.int .i64)], [.v .bool .z], []⟩
@[reducible] noncomputable def spec_l4Asc.fk : Nat → denI spec_l4Asc.g.pms → Option (denR (outTys spec_l4Asc.g.rts spec_l4Asc.g.pms)) := fun k x => spec_l4Asc.f k x.1 x.2.1 x.2.2.1
@[reducible] noncomputable def spec_l4Asc.sm (k : Nat) : Sm := ⟨145, spec_l4Asc.g.pms, spec_l4Asc.g.rts, spec_l4Asc.fk k⟩
noncomputable def spec_l4Asc.E (k : Nat) : Env := ⟨tys, [spec_l1In.sm k], [], [], []⟩
@[reducible] noncomputable def spec_l4Asc.s5 : List Slot := [.v 0 (.sl (.int .i64)) .z [] 0, .v 4 (.int .i64) .z [] 0, .v 8 (.int .i64) .z [] 0, .v 28 (.int .i64) .z [] 0]
noncomputable def spec_l4Asc.pts : List (Pt (denR (outTys spec_l4Asc.g.rts spec_l4Asc.g.pms))) := [⟨5, spec_l4Asc.s5, fun k x => spec_l4Asc.p5 k x.1 x.2.1 x.2.2.1 x.2.2.2.1⟩]
theorem spec_l4Asc.h5 (k : Nat) (x0 : (List Int)) (x1 : Int) (x2 : Int) (x3 : Int) : (spec_l4Asc.p5 (k + 1) x0 x1 x2 x3 : Option (denR (outTys spec_l4Asc.g.rts spec_l4Asc.g.pms))) = evAt (spec_l4Asc.E k) (fun κ s => lhOf k κ s spec_l4Asc.pts) 5 b145 (unproj spec_l4Asc.s5 (x0, x1, x2, x3, ())) (OM.fin spec_l4Asc.g Tryz.f145.results.toList) := by kernel_rfl
theorem spec_l4Asc.hf (k : Nat) (a0 : (List Int)) (a1 : Int) (a2 : Int) : (spec_l4Asc.f k a0 a1 a2 : Option (denR (outTys spec_l4Asc.g.rts spec_l4Asc.g.pms))) = evC (spec_l4Asc.E k) (fun κ s => lhOf k κ s spec_l4Asc.pts) b145 (OM.start spec_l4Asc.g.pms 0 (a0, a1, a2, ())) (OM.fin spec_l4Asc.g Tryz.f145.results.toList) := by kernel_rfl
theorem spec_l4Asc.ok (k : Nat) : SmOk Tryz.prog (spec_l4Asc.sm k) :=
  sm_ok mixed (E := spec_l4Asc.E) (pts := spec_l4Asc.pts) (fun k => ⟨⟨tysOk, by kernel_rfl⟩, forall_cons ⟨spec_l1In.ok k, e92⟩ (forall_nil)⟩) (fun _ => rfl) (fun _ => rfl)
    ⟨Tryz.func145, by kernel_rfl, by kernel_rfl, by kernel_rfl, by kernel_rfl, by kernel_rfl, by kernel_rfl⟩ (forall_cons (fun x => ⟨rfl, fun k => spec_l4Asc.h5 k x.1 x.2.1 x.2.2.1 x.2.2.2.1⟩) (forall_nil)) (fun k x => spec_l4Asc.hf k x.1 x.2.1 x.2.2.1) k
noncomputable def b83 : Code := Tryz.f83.body.getD .skip
theorem e83 : OM.Entry Tryz.prog 83 := ⟨_, Tryz.func83, by kernel_rfl, by kernel_rfl⟩
@[reducible] noncomputable def spec_NodesOk.g : Sig := ⟨[.fz tConfig, .fz (.sl (.int .i64))], [.v .bool .z], []⟩
@[reducible] noncomputable def spec_NodesOk.fk : Nat → denI spec_NodesOk.g.pms → Option (denR (outTys spec_NodesOk.g.rts spec_NodesOk.g.pms)) := fun k x => spec_NodesOk.f k x.1 x.2.1
@[reducible] noncomputable def spec_NodesOk.sm (k : Nat) : Sm := ⟨83, spec_NodesOk.g.pms, spec_NodesOk.g.rts, spec_NodesOk.fk k⟩
noncomputable def spec_NodesOk.E (k : Nat) : Env := ⟨tys, [spec_ConfigOk.sm k, spec_l4Asc.sm k], [], [], []⟩
noncomputable def spec_NodesOk.pts : List (Pt (denR (outTys spec_NodesOk.g.rts spec_NodesOk.g.pms))) := []
theorem spec_NodesOk.hf (k : Nat) (a0 : Config) (a1 : (List Int)) : (spec_NodesOk.f k a0 a1 : Option (denR (outTys spec_NodesOk.g.rts spec_NodesOk.g.pms))) = evC (spec_NodesOk.E k) (fun κ s => lhOf k κ s spec_NodesOk.pts) b83 (OM.start spec_NodesOk.g.pms 0 (a0, a1, ())) (OM.fin spec_NodesOk.g Tryz.f83.results.toList) := by kernel_rfl
theorem spec_NodesOk.ok (k : Nat) : SmOk Tryz.prog (spec_NodesOk.sm k) :=
  sm_ok mixed (E := spec_NodesOk.E) (pts := spec_NodesOk.pts) (fun k => ⟨⟨tysOk, by kernel_rfl⟩, forall_cons ⟨spec_ConfigOk.ok k, e82⟩ (forall_cons ⟨spec_l4Asc.ok k, e145⟩ (forall_nil))⟩) (fun _ => rfl) (fun _ => rfl)
    ⟨Tryz.func83, by kernel_rfl, by kernel_rfl, by kernel_rfl, by kernel_rfl, by kernel_rfl, by kernel_rfl⟩ (forall_nil) (fun k x => spec_NodesOk.hf k x.1 x.2.1) k
noncomputable def b146 : Code := Tryz.f146.body.getD .skip
theorem e146 : OM.Entry Tryz.prog 146 := ⟨_, Tryz.func146, by kernel_rfl, by kernel_rfl⟩
@[reducible] noncomputable def spec_l4Span.g : Sig := ⟨[.fz tConfig, .fz (.sl (.int .i64))], [.v (.int .i64) .z], []⟩
@[reducible] noncomputable def spec_l4Span.fk : Nat → denI spec_l4Span.g.pms → Option (denR (outTys spec_l4Span.g.rts spec_l4Span.g.pms)) := fun k x => spec_l4Span.f k x.1 x.2.1
@[reducible] noncomputable def spec_l4Span.sm (k : Nat) : Sm := ⟨146, spec_l4Span.g.pms, spec_l4Span.g.rts, spec_l4Span.fk k⟩
noncomputable def spec_l4Span.E (k : Nat) : Env := ⟨tys, [], [23], [], []⟩
@[reducible] noncomputable def spec_l4Span.s9 : List Slot := [.v 4 (.sl (.int .i64)) .z [] 0, .r 8 9 [] tConfig, .v 20 (.sl .bool) (.own .z) [] 0, .v 24 (.int .i64) .z [] 0, .v 28 (.int .i64) .z [] 0, .v 9 tConfig .z [] 0]
noncomputable def spec_l4Span.pts : List (Pt (denR (outTys spec_l4Span.g.rts spec_l4Span.g.pms))) := [⟨9, spec_l4Span.s9, fun k x => spec_l4Span.p9 k x.1 x.2.1 x.2.2.1 x.2.2.2.1 x.2.2.2.2.1⟩]
theorem spec_l4Span.h9 (k : Nat) (x0 : (List Int)) (x1 : (List Bool)) (x2 : Int) (x3 : Int) (x4 : Config) : (spec_l4Span.p9 (k + 1) x0 x1 x2 x3 x4 : Option (denR (outTys spec_l4Span.g.rts spec_l4Span.g.pms))) = evAt (spec_l4Span.E k) (fun κ s => lhOf k κ s spec_l4Span.pts) 9 b146 (unproj spec_l4Span.s9 (x0, x1, x2, x3, x4, ())) (OM.fin spec_l4Span.g Tryz.f146.results.toList) := by kernel_rfl
theorem spec_l4Span.hf (k : Nat) (a0 : Config) (a1 : (List Int)) : (spec_l4Span.f k a0 a1 : Option (denR (outTys spec_l4Span.g.rts spec_l4Span.g.pms))) = evC (spec_l4Span.E k) (fun κ s => lhOf k κ s spec_l4Span.pts) b146 (OM.start spec_l4Span.g.pms 0 (a0, a1, ())) (OM.fin spec_l4Span.g Tryz.f146.results.toList) := by kernel_rfl
theorem spec_l4Span.ok (k : Nat) : SmOk Tryz.prog (spec_l4Span.sm k) :=
  sm_ok mixed (E := spec_l4Span.E) (pts := spec_l4Span.pts) (fun k => ⟨⟨tysOk, by kernel_rfl⟩, forall_nil⟩) (fun _ => rfl) (fun _ => rfl)
    ⟨Tryz.func146, by kernel_rfl, by kernel_rfl, by kernel_rfl, by kernel_rfl, by kernel_rfl, by kernel_rfl⟩ (forall_cons (fun x => ⟨rfl, fun k => spec_l4Span.h9 k x.1 x.2.1 x.2.2.1 x.2.2.2.1 x.2.2.2.2.1⟩) (forall_nil)) (fun k x => spec_l4Span.hf k x.1 x.2.1) k
noncomputable def b84 : Code := Tryz.f84.body.getD .skip
theorem e84 : OM.Entry Tryz.prog 84 := ⟨_, Tryz.func84, by kernel_rfl, by kernel_rfl⟩
@[reducible] noncomputable def spec_Holds.g : Sig := ⟨[.fz tConfig, .fz (.sl (.int .i64))], [.v .bool .z], []⟩
@[reducible] noncomputable def spec_Holds.fk : Nat → denI spec_Holds.g.pms → Option (denR (outTys spec_Holds.g.rts spec_Holds.g.pms)) := fun k x => spec_Holds.f k x.1 x.2.1
@[reducible] noncomputable def spec_Holds.sm (k : Nat) : Sm := ⟨84, spec_Holds.g.pms, spec_Holds.g.rts, spec_Holds.fk k⟩
noncomputable def spec_Holds.E (k : Nat) : Env := ⟨tys, [spec_NodesOk.sm k, spec_l4Span.sm k], [], [], []⟩
noncomputable def spec_Holds.pts : List (Pt (denR (outTys spec_Holds.g.rts spec_Holds.g.pms))) := []
theorem spec_Holds.hf (k : Nat) (a0 : Config) (a1 : (List Int)) : (spec_Holds.f k a0 a1 : Option (denR (outTys spec_Holds.g.rts spec_Holds.g.pms))) = evC (spec_Holds.E k) (fun κ s => lhOf k κ s spec_Holds.pts) b84 (OM.start spec_Holds.g.pms 0 (a0, a1, ())) (OM.fin spec_Holds.g Tryz.f84.results.toList) := by kernel_rfl
theorem spec_Holds.ok (k : Nat) : SmOk Tryz.prog (spec_Holds.sm k) :=
  sm_ok mixed (E := spec_Holds.E) (pts := spec_Holds.pts) (fun k => ⟨⟨tysOk, by kernel_rfl⟩, forall_cons ⟨spec_NodesOk.ok k, e83⟩ (forall_cons ⟨spec_l4Span.ok k, e146⟩ (forall_nil))⟩) (fun _ => rfl) (fun _ => rfl)
    ⟨Tryz.func84, by kernel_rfl, by kernel_rfl, by kernel_rfl, by kernel_rfl, by kernel_rfl, by kernel_rfl⟩ (forall_nil) (fun k x => spec_Holds.hf k x.1 x.2.1) k
noncomputable def b93 : Code := Tryz.f93.body.getD .skip
theorem e93 : OM.Entry Tryz.prog 93 := ⟨_, Tryz.func93, by kernel_rfl, by kernel_rfl⟩
@[reducible] noncomputable def spec_PlaceOk.g : Sig := ⟨[.fz (.int .i64)], [.v .bool .z], []⟩
@[reducible] noncomputable def spec_PlaceOk.fk : Nat → denI spec_PlaceOk.g.pms → Option (denR (outTys spec_PlaceOk.g.rts spec_PlaceOk.g.pms)) := fun k x => spec_PlaceOk.f x.1
@[reducible] noncomputable def spec_PlaceOk.sm (k : Nat) : Sm := ⟨93, spec_PlaceOk.g.pms, spec_PlaceOk.g.rts, spec_PlaceOk.fk k⟩
noncomputable def spec_PlaceOk.E (k : Nat) : Env := ⟨tys, [spec_l1In.sm k], [], [], []⟩
noncomputable def spec_PlaceOk.pts : List (Pt (denR (outTys spec_PlaceOk.g.rts spec_PlaceOk.g.pms))) := []
theorem spec_PlaceOk.hf (k : Nat) (a0 : Int) : (spec_PlaceOk.f a0 : Option (denR (outTys spec_PlaceOk.g.rts spec_PlaceOk.g.pms))) = evC (spec_PlaceOk.E k) (fun κ s => lhOf k κ s spec_PlaceOk.pts) b93 (OM.start spec_PlaceOk.g.pms 0 (a0, ())) (OM.fin spec_PlaceOk.g Tryz.f93.results.toList) := by kernel_rfl
theorem spec_PlaceOk.ok (k : Nat) : SmOk Tryz.prog (spec_PlaceOk.sm k) :=
  sm_ok mixed (E := spec_PlaceOk.E) (pts := spec_PlaceOk.pts) (fun k => ⟨⟨tysOk, by kernel_rfl⟩, forall_cons ⟨spec_l1In.ok k, e92⟩ (forall_nil)⟩) (fun _ => rfl) (fun _ => rfl)
    ⟨Tryz.func93, by kernel_rfl, by kernel_rfl, by kernel_rfl, by kernel_rfl, by kernel_rfl, by kernel_rfl⟩ (forall_nil) (fun k x => spec_PlaceOk.hf k x.1) k
noncomputable def b94 : Code := Tryz.f94.body.getD .skip
theorem e94 : OM.Entry Tryz.prog 94 := ⟨_, Tryz.func94, by kernel_rfl, by kernel_rfl⟩
@[reducible] noncomputable def spec_EpochOf.g : Sig := ⟨[.fz (.int .i64)], [.v (.int .i64) .z], []⟩
@[reducible] noncomputable def spec_EpochOf.fk : Nat → denI spec_EpochOf.g.pms → Option (denR (outTys spec_EpochOf.g.rts spec_EpochOf.g.pms)) := fun k x => spec_EpochOf.f x.1
@[reducible] noncomputable def spec_EpochOf.sm (k : Nat) : Sm := ⟨94, spec_EpochOf.g.pms, spec_EpochOf.g.rts, spec_EpochOf.fk k⟩
noncomputable def spec_EpochOf.E (k : Nat) : Env := ⟨tys, [spec_PlaceOk.sm k], [], [], []⟩
noncomputable def spec_EpochOf.pts : List (Pt (denR (outTys spec_EpochOf.g.rts spec_EpochOf.g.pms))) := []
theorem spec_EpochOf.hf (k : Nat) (a0 : Int) : (spec_EpochOf.f a0 : Option (denR (outTys spec_EpochOf.g.rts spec_EpochOf.g.pms))) = evC (spec_EpochOf.E k) (fun κ s => lhOf k κ s spec_EpochOf.pts) b94 (OM.start spec_EpochOf.g.pms 0 (a0, ())) (OM.fin spec_EpochOf.g Tryz.f94.results.toList) := by kernel_rfl
theorem spec_EpochOf.ok (k : Nat) : SmOk Tryz.prog (spec_EpochOf.sm k) :=
  sm_ok mixed (E := spec_EpochOf.E) (pts := spec_EpochOf.pts) (fun k => ⟨⟨tysOk, by kernel_rfl⟩, forall_cons ⟨spec_PlaceOk.ok k, e93⟩ (forall_nil)⟩) (fun _ => rfl) (fun _ => rfl)
    ⟨Tryz.func94, by kernel_rfl, by kernel_rfl, by kernel_rfl, by kernel_rfl, by kernel_rfl, by kernel_rfl⟩ (forall_nil) (fun k x => spec_EpochOf.hf k x.1) k
noncomputable def b149 : Code := Tryz.f149.body.getD .skip
theorem e149 : OM.Entry Tryz.prog 149 := ⟨_, Tryz.func149, by kernel_rfl, by kernel_rfl⟩
@[reducible] noncomputable def spec_EntryOk.g : Sig := ⟨[.fz tEntry], [.v .bool .z], []⟩
@[reducible] noncomputable def spec_EntryOk.fk : Nat → denI spec_EntryOk.g.pms → Option (denR (outTys spec_EntryOk.g.rts spec_EntryOk.g.pms)) := fun k x => spec_EntryOk.f k x.1
@[reducible] noncomputable def spec_EntryOk.sm (k : Nat) : Sm := ⟨149, spec_EntryOk.g.pms, spec_EntryOk.g.rts, spec_EntryOk.fk k⟩
noncomputable def spec_EntryOk.E (k : Nat) : Env := ⟨tys, [spec_l1In.sm k, spec_PlaceOk.sm k, spec_EpochOf.sm k], [], [3], []⟩
@[reducible] noncomputable def spec_EntryOk.s6 : List Slot := [.r 4 5 [] tEntry, .v 5 tEntry .z [] 0]
noncomputable def spec_EntryOk.pts : List (Pt (denR (outTys spec_EntryOk.g.rts spec_EntryOk.g.pms))) := [⟨6, spec_EntryOk.s6, fun k x => spec_EntryOk.p6 k x.1⟩]
theorem spec_EntryOk.h6 (k : Nat) (x0 : Entry) : (spec_EntryOk.p6 (k + 1) x0 : Option (denR (outTys spec_EntryOk.g.rts spec_EntryOk.g.pms))) = evAt (spec_EntryOk.E k) (fun κ s => lhOf k κ s spec_EntryOk.pts) 6 b149 (unproj spec_EntryOk.s6 (x0, ())) (OM.fin spec_EntryOk.g Tryz.f149.results.toList) := by kernel_rfl
theorem spec_EntryOk.hf (k : Nat) (a0 : Entry) : (spec_EntryOk.f k a0 : Option (denR (outTys spec_EntryOk.g.rts spec_EntryOk.g.pms))) = evC (spec_EntryOk.E k) (fun κ s => lhOf k κ s spec_EntryOk.pts) b149 (OM.start spec_EntryOk.g.pms 0 (a0, ())) (OM.fin spec_EntryOk.g Tryz.f149.results.toList) := by kernel_rfl
theorem spec_EntryOk.ok (k : Nat) : SmOk Tryz.prog (spec_EntryOk.sm k) :=
  sm_ok mixed (E := spec_EntryOk.E) (pts := spec_EntryOk.pts) (fun k => ⟨⟨tysOk, by kernel_rfl⟩, forall_cons ⟨spec_l1In.ok k, e92⟩ (forall_cons ⟨spec_PlaceOk.ok k, e93⟩ (forall_cons ⟨spec_EpochOf.ok k, e94⟩ (forall_nil)))⟩) (fun _ => rfl) (fun _ => rfl)
    ⟨Tryz.func149, by kernel_rfl, by kernel_rfl, by kernel_rfl, by kernel_rfl, by kernel_rfl, by kernel_rfl⟩ (forall_cons (fun x => ⟨rfl, fun k => spec_EntryOk.h6 k x.1⟩) (forall_nil)) (fun k x => spec_EntryOk.hf k x.1) k
noncomputable def b147 : Code := Tryz.f147.body.getD .skip
theorem e147 : OM.Entry Tryz.prog 147 := ⟨_, Tryz.func147, by kernel_rfl, by kernel_rfl⟩
@[reducible] noncomputable def spec_l6List.g : Sig := ⟨[.fz (.sl tEntry), .fz (.int .i64)], [.v .bool .z], []⟩
@[reducible] noncomputable def spec_l6List.fk : Nat → denI spec_l6List.g.pms → Option (denR (outTys spec_l6List.g.rts spec_l6List.g.pms)) := fun k x => spec_l6List.f k x.1 x.2.1
@[reducible] noncomputable def spec_l6List.sm (k : Nat) : Sm := ⟨147, spec_l6List.g.pms, spec_l6List.g.rts, spec_l6List.fk k⟩
noncomputable def spec_l6List.E (k : Nat) : Env := ⟨tys, [spec_EntryOk.sm k], [], [], []⟩
@[reducible] noncomputable def spec_l6List.s9 : List Slot := [.v 0 (.sl tEntry) .z [] 0, .v 20 (.int .i64) .z [] 0]
noncomputable def spec_l6List.pts : List (Pt (denR (outTys spec_l6List.g.rts spec_l6List.g.pms))) := [⟨9, spec_l6List.s9, fun k x => spec_l6List.p9 k x.1 x.2.1⟩]
theorem spec_l6List.h9 (k : Nat) (x0 : (List Entry)) (x1 : Int) : (spec_l6List.p9 (k + 1) x0 x1 : Option (denR (outTys spec_l6List.g.rts spec_l6List.g.pms))) = evAt (spec_l6List.E k) (fun κ s => lhOf k κ s spec_l6List.pts) 9 b147 (unproj spec_l6List.s9 (x0, x1, ())) (OM.fin spec_l6List.g Tryz.f147.results.toList) := by kernel_rfl
theorem spec_l6List.hf (k : Nat) (a0 : (List Entry)) (a1 : Int) : (spec_l6List.f k a0 a1 : Option (denR (outTys spec_l6List.g.rts spec_l6List.g.pms))) = evC (spec_l6List.E k) (fun κ s => lhOf k κ s spec_l6List.pts) b147 (OM.start spec_l6List.g.pms 0 (a0, a1, ())) (OM.fin spec_l6List.g Tryz.f147.results.toList) := by kernel_rfl
theorem spec_l6List.ok (k : Nat) : SmOk Tryz.prog (spec_l6List.sm k) :=
  sm_ok mixed (E := spec_l6List.E) (pts := spec_l6List.pts) (fun k => ⟨⟨tysOk, by kernel_rfl⟩, forall_cons ⟨spec_EntryOk.ok k, e149⟩ (forall_nil)⟩) (fun _ => rfl) (fun _ => rfl)
    ⟨Tryz.func147, by kernel_rfl, by kernel_rfl, by kernel_rfl, by kernel_rfl, by kernel_rfl, by kernel_rfl⟩ (forall_cons (fun x => ⟨rfl, fun k => spec_l6List.h9 k x.1 x.2.1⟩) (forall_nil)) (fun k x => spec_l6List.hf k x.1 x.2.1) k
noncomputable def b148 : Code := Tryz.f148.body.getD .skip
theorem e148 : OM.Entry Tryz.prog 148 := ⟨_, Tryz.func148, by kernel_rfl, by kernel_rfl⟩
@[reducible] noncomputable def spec_l6Asc.g : Sig := ⟨[.fz (.sl tEntry)], [.v .bool .z], []⟩
@[reducible] noncomputable def spec_l6Asc.fk : Nat → denI spec_l6Asc.g.pms → Option (denR (outTys spec_l6Asc.g.rts spec_l6Asc.g.pms)) := fun k x => spec_l6Asc.f k x.1
@[reducible] noncomputable def spec_l6Asc.sm (k : Nat) : Sm := ⟨148, spec_l6Asc.g.pms, spec_l6Asc.g.rts, spec_l6Asc.fk k⟩
noncomputable def spec_l6Asc.E (k : Nat) : Env := ⟨tys, [], [], [], []⟩
@[reducible] noncomputable def spec_l6Asc.s5 : List Slot := [.v 0 (.sl tEntry) .z [] 0, .v 12 (.int .i64) .z [] 0]
noncomputable def spec_l6Asc.pts : List (Pt (denR (outTys spec_l6Asc.g.rts spec_l6Asc.g.pms))) := [⟨5, spec_l6Asc.s5, fun k x => spec_l6Asc.p5 k x.1 x.2.1⟩]
theorem spec_l6Asc.h5 (k : Nat) (x0 : (List Entry)) (x1 : Int) : (spec_l6Asc.p5 (k + 1) x0 x1 : Option (denR (outTys spec_l6Asc.g.rts spec_l6Asc.g.pms))) = evAt (spec_l6Asc.E k) (fun κ s => lhOf k κ s spec_l6Asc.pts) 5 b148 (unproj spec_l6Asc.s5 (x0, x1, ())) (OM.fin spec_l6Asc.g Tryz.f148.results.toList) := by kernel_rfl
theorem spec_l6Asc.hf (k : Nat) (a0 : (List Entry)) : (spec_l6Asc.f k a0 : Option (denR (outTys spec_l6Asc.g.rts spec_l6Asc.g.pms))) = evC (spec_l6Asc.E k) (fun κ s => lhOf k κ s spec_l6Asc.pts) b148 (OM.start spec_l6Asc.g.pms 0 (a0, ())) (OM.fin spec_l6Asc.g Tryz.f148.results.toList) := by kernel_rfl
theorem spec_l6Asc.ok (k : Nat) : SmOk Tryz.prog (spec_l6Asc.sm k) :=
  sm_ok mixed (E := spec_l6Asc.E) (pts := spec_l6Asc.pts) (fun k => ⟨⟨tysOk, by kernel_rfl⟩, forall_nil⟩) (fun _ => rfl) (fun _ => rfl)
    ⟨Tryz.func148, by kernel_rfl, by kernel_rfl, by kernel_rfl, by kernel_rfl, by kernel_rfl, by kernel_rfl⟩ (forall_cons (fun x => ⟨rfl, fun k => spec_l6Asc.h5 k x.1 x.2.1⟩) (forall_nil)) (fun k x => spec_l6Asc.hf k x.1) k
noncomputable def b85 : Code := Tryz.f85.body.getD .skip
theorem e85 : OM.Entry Tryz.prog 85 := ⟨_, Tryz.func85, by kernel_rfl, by kernel_rfl⟩
@[reducible] noncomputable def spec_StoreOk.g : Sig := ⟨[.fz tStore], [.v .bool .z], []⟩
@[reducible] noncomputable def spec_StoreOk.fk : Nat → denI spec_StoreOk.g.pms → Option (denR (outTys spec_StoreOk.g.rts spec_StoreOk.g.pms)) := fun k x => spec_StoreOk.f k x.1
@[reducible] noncomputable def spec_StoreOk.sm (k : Nat) : Sm := ⟨85, spec_StoreOk.g.pms, spec_StoreOk.g.rts, spec_StoreOk.fk k⟩
noncomputable def spec_StoreOk.E (k : Nat) : Env := ⟨tys, [spec_l1In.sm k, spec_l6List.sm k, spec_l6Asc.sm k], [], [], []⟩
noncomputable def spec_StoreOk.pts : List (Pt (denR (outTys spec_StoreOk.g.rts spec_StoreOk.g.pms))) := []
theorem spec_StoreOk.hf (k : Nat) (a0 : Store) : (spec_StoreOk.f k a0 : Option (denR (outTys spec_StoreOk.g.rts spec_StoreOk.g.pms))) = evC (spec_StoreOk.E k) (fun κ s => lhOf k κ s spec_StoreOk.pts) b85 (OM.start spec_StoreOk.g.pms 0 (a0, ())) (OM.fin spec_StoreOk.g Tryz.f85.results.toList) := by kernel_rfl
theorem spec_StoreOk.ok (k : Nat) : SmOk Tryz.prog (spec_StoreOk.sm k) :=
  sm_ok mixed (E := spec_StoreOk.E) (pts := spec_StoreOk.pts) (fun k => ⟨⟨tysOk, by kernel_rfl⟩, forall_cons ⟨spec_l1In.ok k, e92⟩ (forall_cons ⟨spec_l6List.ok k, e147⟩ (forall_cons ⟨spec_l6Asc.ok k, e148⟩ (forall_nil)))⟩) (fun _ => rfl) (fun _ => rfl)
    ⟨Tryz.func85, by kernel_rfl, by kernel_rfl, by kernel_rfl, by kernel_rfl, by kernel_rfl, by kernel_rfl⟩ (forall_nil) (fun k x => spec_StoreOk.hf k x.1) k
noncomputable def b86 : Code := Tryz.f86.body.getD .skip
theorem e86 : OM.Entry Tryz.prog 86 := ⟨_, Tryz.func86, by kernel_rfl, by kernel_rfl⟩
@[reducible] noncomputable def spec_l4Has.g : Sig := ⟨[.fz (.sl (.int .i64)), .fz (.int .i64)], [.v .bool .z], []⟩
@[reducible] noncomputable def spec_l4Has.fk : Nat → denI spec_l4Has.g.pms → Option (denR (outTys spec_l4Has.g.rts spec_l4Has.g.pms)) := fun k x => spec_l4Has.f k x.1 x.2.1
@[reducible] noncomputable def spec_l4Has.sm (k : Nat) : Sm := ⟨86, spec_l4Has.g.pms, spec_l4Has.g.rts, spec_l4Has.fk k⟩
noncomputable def spec_l4Has.E (k : Nat) : Env := ⟨tys, [], [], [], []⟩
@[reducible] noncomputable def spec_l4Has.s5 : List Slot := [.v 0 (.sl (.int .i64)) .z [] 0, .v 4 (.int .i64) .z [] 0, .v 20 (.int .i64) .z [] 0]
noncomputable def spec_l4Has.pts : List (Pt (denR (outTys spec_l4Has.g.rts spec_l4Has.g.pms))) := [⟨5, spec_l4Has.s5, fun k x => spec_l4Has.p5 k x.1 x.2.1 x.2.2.1⟩]
theorem spec_l4Has.h5 (k : Nat) (x0 : (List Int)) (x1 : Int) (x2 : Int) : (spec_l4Has.p5 (k + 1) x0 x1 x2 : Option (denR (outTys spec_l4Has.g.rts spec_l4Has.g.pms))) = evAt (spec_l4Has.E k) (fun κ s => lhOf k κ s spec_l4Has.pts) 5 b86 (unproj spec_l4Has.s5 (x0, x1, x2, ())) (OM.fin spec_l4Has.g Tryz.f86.results.toList) := by kernel_rfl
theorem spec_l4Has.hf (k : Nat) (a0 : (List Int)) (a1 : Int) : (spec_l4Has.f k a0 a1 : Option (denR (outTys spec_l4Has.g.rts spec_l4Has.g.pms))) = evC (spec_l4Has.E k) (fun κ s => lhOf k κ s spec_l4Has.pts) b86 (OM.start spec_l4Has.g.pms 0 (a0, a1, ())) (OM.fin spec_l4Has.g Tryz.f86.results.toList) := by kernel_rfl
theorem spec_l4Has.ok (k : Nat) : SmOk Tryz.prog (spec_l4Has.sm k) :=
  sm_ok mixed (E := spec_l4Has.E) (pts := spec_l4Has.pts) (fun k => ⟨⟨tysOk, by kernel_rfl⟩, forall_nil⟩) (fun _ => rfl) (fun _ => rfl)
    ⟨Tryz.func86, by kernel_rfl, by kernel_rfl, by kernel_rfl, by kernel_rfl, by kernel_rfl, by kernel_rfl⟩ (forall_cons (fun x => ⟨rfl, fun k => spec_l4Has.h5 k x.1 x.2.1 x.2.2.1⟩) (forall_nil)) (fun k x => spec_l4Has.hf k x.1 x.2.1) k
noncomputable def b87 : Code := Tryz.f87.body.getD .skip
theorem e87 : OM.Entry Tryz.prog 87 := ⟨_, Tryz.func87, by kernel_rfl, by kernel_rfl⟩
@[reducible] noncomputable def spec_l12Zero.g : Sig := ⟨[.fz tStore], [.v .bool .z], []⟩
@[reducible] noncomputable def spec_l12Zero.fk : Nat → denI spec_l12Zero.g.pms → Option (denR (outTys spec_l12Zero.g.rts spec_l12Zero.g.pms)) := fun k x => spec_l12Zero.f x.1
@[reducible] noncomputable def spec_l12Zero.sm (k : Nat) : Sm := ⟨87, spec_l12Zero.g.pms, spec_l12Zero.g.rts, spec_l12Zero.fk k⟩
noncomputable def spec_l12Zero.E (k : Nat) : Env := ⟨tys, [], [], [], []⟩
noncomputable def spec_l12Zero.pts : List (Pt (denR (outTys spec_l12Zero.g.rts spec_l12Zero.g.pms))) := []
theorem spec_l12Zero.hf (k : Nat) (a0 : Store) : (spec_l12Zero.f a0 : Option (denR (outTys spec_l12Zero.g.rts spec_l12Zero.g.pms))) = evC (spec_l12Zero.E k) (fun κ s => lhOf k κ s spec_l12Zero.pts) b87 (OM.start spec_l12Zero.g.pms 0 (a0, ())) (OM.fin spec_l12Zero.g Tryz.f87.results.toList) := by kernel_rfl
theorem spec_l12Zero.ok (k : Nat) : SmOk Tryz.prog (spec_l12Zero.sm k) :=
  sm_ok mixed (E := spec_l12Zero.E) (pts := spec_l12Zero.pts) (fun k => ⟨⟨tysOk, by kernel_rfl⟩, forall_nil⟩) (fun _ => rfl) (fun _ => rfl)
    ⟨Tryz.func87, by kernel_rfl, by kernel_rfl, by kernel_rfl, by kernel_rfl, by kernel_rfl, by kernel_rfl⟩ (forall_nil) (fun k x => spec_l12Zero.hf k x.1) k
noncomputable def b33 : Code := Tryz.f33.body.getD .skip
theorem e33 : OM.Entry Tryz.prog 33 := ⟨_, Tryz.func33, by kernel_rfl, by kernel_rfl⟩
@[reducible] noncomputable def spec_l12Nodes.g : Sig := ⟨[.fz tWorld], [.v .bool .z], []⟩
@[reducible] noncomputable def spec_l12Nodes.fk : Nat → denI spec_l12Nodes.g.pms → Option (denR (outTys spec_l12Nodes.g.rts spec_l12Nodes.g.pms)) := fun k x => spec_l12Nodes.f k x.1
@[reducible] noncomputable def spec_l12Nodes.sm (k : Nat) : Sm := ⟨33, spec_l12Nodes.g.pms, spec_l12Nodes.g.rts, spec_l12Nodes.fk k⟩
noncomputable def spec_l12Nodes.E (k : Nat) : Env := ⟨tys, [spec_ConfigOk.sm k, spec_NodesOk.sm k, spec_Holds.sm k, spec_StoreOk.sm k, spec_l4Has.sm k, spec_l12Zero.sm k], [], [3], []⟩
@[reducible] noncomputable def spec_l12Nodes.s6 : List Slot := [.r 4 5 [] tWorld, .v 5 tWorld .z [] 0]
@[reducible] noncomputable def spec_l12Nodes.s9 : List Slot := [.r 4 5 [] tWorld, .v 12 (.int .i64) .z [] 0, .v 5 tWorld .z [] 0]
noncomputable def spec_l12Nodes.pts : List (Pt (denR (outTys spec_l12Nodes.g.rts spec_l12Nodes.g.pms))) := [⟨6, spec_l12Nodes.s6, fun k x => spec_l12Nodes.p6 k x.1⟩, ⟨9, spec_l12Nodes.s9, fun k x => spec_l12Nodes.p9 k x.1 x.2.1⟩]
theorem spec_l12Nodes.h6 (k : Nat) (x0 : World) : (spec_l12Nodes.p6 (k + 1) x0 : Option (denR (outTys spec_l12Nodes.g.rts spec_l12Nodes.g.pms))) = evAt (spec_l12Nodes.E k) (fun κ s => lhOf k κ s spec_l12Nodes.pts) 6 b33 (unproj spec_l12Nodes.s6 (x0, ())) (OM.fin spec_l12Nodes.g Tryz.f33.results.toList) := by kernel_rfl
theorem spec_l12Nodes.h9 (k : Nat) (x0 : Int) (x1 : World) : (spec_l12Nodes.p9 (k + 1) x0 x1 : Option (denR (outTys spec_l12Nodes.g.rts spec_l12Nodes.g.pms))) = evAt (spec_l12Nodes.E k) (fun κ s => lhOf k κ s spec_l12Nodes.pts) 9 b33 (unproj spec_l12Nodes.s9 (x0, x1, ())) (OM.fin spec_l12Nodes.g Tryz.f33.results.toList) := by kernel_rfl
theorem spec_l12Nodes.hf (k : Nat) (a0 : World) : (spec_l12Nodes.f k a0 : Option (denR (outTys spec_l12Nodes.g.rts spec_l12Nodes.g.pms))) = evC (spec_l12Nodes.E k) (fun κ s => lhOf k κ s spec_l12Nodes.pts) b33 (OM.start spec_l12Nodes.g.pms 0 (a0, ())) (OM.fin spec_l12Nodes.g Tryz.f33.results.toList) := by kernel_rfl
theorem spec_l12Nodes.ok (k : Nat) : SmOk Tryz.prog (spec_l12Nodes.sm k) :=
  sm_ok mixed (E := spec_l12Nodes.E) (pts := spec_l12Nodes.pts) (fun k => ⟨⟨tysOk, by kernel_rfl⟩, forall_cons ⟨spec_ConfigOk.ok k, e82⟩ (forall_cons ⟨spec_NodesOk.ok k, e83⟩ (forall_cons ⟨spec_Holds.ok k, e84⟩ (forall_cons ⟨spec_StoreOk.ok k, e85⟩ (forall_cons ⟨spec_l4Has.ok k, e86⟩ (forall_cons ⟨spec_l12Zero.ok k, e87⟩ (forall_nil))))))⟩) (fun _ => rfl) (fun _ => rfl)
    ⟨Tryz.func33, by kernel_rfl, by kernel_rfl, by kernel_rfl, by kernel_rfl, by kernel_rfl, by kernel_rfl⟩ (forall_cons (fun x => ⟨rfl, fun k => spec_l12Nodes.h6 k x.1⟩) (forall_cons (fun x => ⟨rfl, fun k => spec_l12Nodes.h9 k x.1 x.2.1⟩) (forall_nil))) (fun k x => spec_l12Nodes.hf k x.1) k
noncomputable def b88 : Code := Tryz.f88.body.getD .skip
theorem e88 : OM.Entry Tryz.prog 88 := ⟨_, Tryz.func88, by kernel_rfl, by kernel_rfl⟩
@[reducible] noncomputable def spec_RegOk.g : Sig := ⟨[.fz tConfig, .fz tRegister], [.v .bool .z], []⟩
@[reducible] noncomputable def spec_RegOk.fk : Nat → denI spec_RegOk.g.pms → Option (denR (outTys spec_RegOk.g.rts spec_RegOk.g.pms)) := fun k x => spec_RegOk.f k x.1 x.2.1
@[reducible] noncomputable def spec_RegOk.sm (k : Nat) : Sm := ⟨88, spec_RegOk.g.pms, spec_RegOk.g.rts, spec_RegOk.fk k⟩
noncomputable def spec_RegOk.E (k : Nat) : Env := ⟨tys, [spec_l1In.sm k, spec_ConfigOk.sm k, spec_Holds.sm k, spec_PlaceOk.sm k, spec_EpochOf.sm k], [45], [4, 10], []⟩
@[reducible] noncomputable def spec_RegOk.s8 : List Slot := [.r 8 9 [] tConfig, .r 12 13 [] tRegister, .v 20 (.int .i64) .z [] 0, .v 9 tConfig .z [] 0, .v 13 tRegister .z [] 0]
@[reducible] noncomputable def spec_RegOk.s11 : List Slot := [.r 8 9 [] tConfig, .r 12 13 [] tRegister, .v 20 (.int .i64) .z [] 0, .v 24 (.int .i64) .z [] 0, .v 9 tConfig .z [] 0, .v 13 tRegister .z [] 0]
@[reducible] noncomputable def spec_RegOk.s20 : List Slot := [.r 8 9 [] tConfig, .r 12 13 [] tRegister, .v 20 (.int .i64) .z [] 0, .v 24 (.int .i64) .z [] 0, .r 28 29 [] tEra, .r 208 29 [.snd, .snd, .fst] (.int .i64), .v 212 (.int .i64) .z [] 0, .v 216 .bool .z [] 0, .v 220 .bool .z [] 0, .r 232 29 [.snd, .fst] .bool, .v 236 .bool .z [] 0, .v 240 .bool .z [] 0, .v 244 .bool .z [] 0, .v 260 .bool .z [] 0, .v 9 tConfig .z [] 0, .v 13 tRegister .z [] 0, .v 29 tEra .z [] 0]
noncomputable def spec_RegOk.pts : List (Pt (denR (outTys spec_RegOk.g.rts spec_RegOk.g.pms))) := [⟨8, spec_RegOk.s8, fun k x => spec_RegOk.p8 k x.1 x.2.1 x.2.2.1⟩, ⟨11, spec_RegOk.s11, fun k x => spec_RegOk.p11 k x.1 x.2.1 x.2.2.1 x.2.2.2.1⟩, ⟨20, spec_RegOk.s20, fun k x => spec_RegOk.p20 k x.1 x.2.1 x.2.2.1 x.2.2.2.1 x.2.2.2.2.1 x.2.2.2.2.2.1 x.2.2.2.2.2.2.1 x.2.2.2.2.2.2.2.1 x.2.2.2.2.2.2.2.2.1 x.2.2.2.2.2.2.2.2.2.1 x.2.2.2.2.2.2.2.2.2.2.1 x.2.2.2.2.2.2.2.2.2.2.2.1⟩]
theorem spec_RegOk.h8 (k : Nat) (x0 : Int) (x1 : Config) (x2 : Register) : (spec_RegOk.p8 (k + 1) x0 x1 x2 : Option (denR (outTys spec_RegOk.g.rts spec_RegOk.g.pms))) = evAt (spec_RegOk.E k) (fun κ s => lhOf k κ s spec_RegOk.pts) 8 b88 (unproj spec_RegOk.s8 (x0, x1, x2, ())) (OM.fin spec_RegOk.g Tryz.f88.results.toList) := by kernel_rfl
theorem spec_RegOk.h11 (k : Nat) (x0 : Int) (x1 : Int) (x2 : Config) (x3 : Register) : (spec_RegOk.p11 (k + 1) x0 x1 x2 x3 : Option (denR (outTys spec_RegOk.g.rts spec_RegOk.g.pms))) = evAt (spec_RegOk.E k) (fun κ s => lhOf k κ s spec_RegOk.pts) 11 b88 (unproj spec_RegOk.s11 (x0, x1, x2, x3, ())) (OM.fin spec_RegOk.g Tryz.f88.results.toList) := by kernel_rfl
theorem spec_RegOk.h20 (k : Nat) (x0 : Int) (x1 : Int) (x2 : Int) (x3 : Bool) (x4 : Bool) (x5 : Bool) (x6 : Bool) (x7 : Bool) (x8 : Bool) (x9 : Config) (x10 : Register) (x11 : Era) : (spec_RegOk.p20 (k + 1) x0 x1 x2 x3 x4 x5 x6 x7 x8 x9 x10 x11 : Option (denR (outTys spec_RegOk.g.rts spec_RegOk.g.pms))) = evAt (spec_RegOk.E k) (fun κ s => lhOf k κ s spec_RegOk.pts) 20 b88 (unproj spec_RegOk.s20 (x0, x1, x2, x3, x4, x5, x6, x7, x8, x9, x10, x11, ())) (OM.fin spec_RegOk.g Tryz.f88.results.toList) := by kernel_rfl
theorem spec_RegOk.hf (k : Nat) (a0 : Config) (a1 : Register) : (spec_RegOk.f k a0 a1 : Option (denR (outTys spec_RegOk.g.rts spec_RegOk.g.pms))) = evC (spec_RegOk.E k) (fun κ s => lhOf k κ s spec_RegOk.pts) b88 (OM.start spec_RegOk.g.pms 0 (a0, a1, ())) (OM.fin spec_RegOk.g Tryz.f88.results.toList) := by kernel_rfl
theorem spec_RegOk.ok (k : Nat) : SmOk Tryz.prog (spec_RegOk.sm k) :=
  sm_ok mixed (E := spec_RegOk.E) (pts := spec_RegOk.pts) (fun k => ⟨⟨tysOk, by kernel_rfl⟩, forall_cons ⟨spec_l1In.ok k, e92⟩ (forall_cons ⟨spec_ConfigOk.ok k, e82⟩ (forall_cons ⟨spec_Holds.ok k, e84⟩ (forall_cons ⟨spec_PlaceOk.ok k, e93⟩ (forall_cons ⟨spec_EpochOf.ok k, e94⟩ (forall_nil)))))⟩) (fun _ => rfl) (fun _ => rfl)
    ⟨Tryz.func88, by kernel_rfl, by kernel_rfl, by kernel_rfl, by kernel_rfl, by kernel_rfl, by kernel_rfl⟩ (forall_cons (fun x => ⟨rfl, fun k => spec_RegOk.h8 k x.1 x.2.1 x.2.2.1⟩) (forall_cons (fun x => ⟨rfl, fun k => spec_RegOk.h11 k x.1 x.2.1 x.2.2.1 x.2.2.2.1⟩) (forall_cons (fun x => ⟨rfl, fun k => spec_RegOk.h20 k x.1 x.2.1 x.2.2.1 x.2.2.2.1 x.2.2.2.2.1 x.2.2.2.2.2.1 x.2.2.2.2.2.2.1 x.2.2.2.2.2.2.2.1 x.2.2.2.2.2.2.2.2.1 x.2.2.2.2.2.2.2.2.2.1 x.2.2.2.2.2.2.2.2.2.2.1 x.2.2.2.2.2.2.2.2.2.2.2.1⟩) (forall_nil)))) (fun k x => spec_RegOk.hf k x.1 x.2.1) k
noncomputable def b89 : Code := Tryz.f89.body.getD .skip
theorem e89 : OM.Entry Tryz.prog 89 := ⟨_, Tryz.func89, by kernel_rfl, by kernel_rfl⟩
@[reducible] noncomputable def spec_WriterOk.g : Sig := ⟨[.fz tConfig, .fz tWriter], [.v .bool .z], []⟩
@[reducible] noncomputable def spec_WriterOk.fk : Nat → denI spec_WriterOk.g.pms → Option (denR (outTys spec_WriterOk.g.rts spec_WriterOk.g.pms)) := fun k x => spec_WriterOk.f k x.1 x.2.1
@[reducible] noncomputable def spec_WriterOk.sm (k : Nat) : Sm := ⟨89, spec_WriterOk.g.pms, spec_WriterOk.g.rts, spec_WriterOk.fk k⟩
noncomputable def spec_WriterOk.E (k : Nat) : Env := ⟨tys, [spec_l1In.sm k, spec_ConfigOk.sm k, spec_NodesOk.sm k, spec_Holds.sm k], [34], [], [4]⟩
@[reducible] noncomputable def spec_WriterOk.s11 : List Slot := [.r 8 9 [] tConfig, .r 12 13 [] tWriter, .v 20 (.int .i64) .z [] 0, .v 24 (.int .i64) .z [] 0, .v 9 tConfig .z [] 0, .v 13 tWriter .z [] 0]
noncomputable def spec_WriterOk.pts : List (Pt (denR (outTys spec_WriterOk.g.rts spec_WriterOk.g.pms))) := [⟨11, spec_WriterOk.s11, fun k x => spec_WriterOk.p11 k x.1 x.2.1 x.2.2.1 x.2.2.2.1⟩]
theorem spec_WriterOk.h11 (k : Nat) (x0 : Int) (x1 : Int) (x2 : Config) (x3 : Writer) : (spec_WriterOk.p11 (k + 1) x0 x1 x2 x3 : Option (denR (outTys spec_WriterOk.g.rts spec_WriterOk.g.pms))) = evAt (spec_WriterOk.E k) (fun κ s => lhOf k κ s spec_WriterOk.pts) 11 b89 (unproj spec_WriterOk.s11 (x0, x1, x2, x3, ())) (OM.fin spec_WriterOk.g Tryz.f89.results.toList) := by kernel_rfl
theorem spec_WriterOk.hf (k : Nat) (a0 : Config) (a1 : Writer) : (spec_WriterOk.f k a0 a1 : Option (denR (outTys spec_WriterOk.g.rts spec_WriterOk.g.pms))) = evC (spec_WriterOk.E k) (fun κ s => lhOf k κ s spec_WriterOk.pts) b89 (OM.start spec_WriterOk.g.pms 0 (a0, a1, ())) (OM.fin spec_WriterOk.g Tryz.f89.results.toList) := by kernel_rfl
theorem spec_WriterOk.ok (k : Nat) : SmOk Tryz.prog (spec_WriterOk.sm k) :=
  sm_ok mixed (E := spec_WriterOk.E) (pts := spec_WriterOk.pts) (fun k => ⟨⟨tysOk, by kernel_rfl⟩, forall_cons ⟨spec_l1In.ok k, e92⟩ (forall_cons ⟨spec_ConfigOk.ok k, e82⟩ (forall_cons ⟨spec_NodesOk.ok k, e83⟩ (forall_cons ⟨spec_Holds.ok k, e84⟩ (forall_nil))))⟩) (fun _ => rfl) (fun _ => rfl)
    ⟨Tryz.func89, by kernel_rfl, by kernel_rfl, by kernel_rfl, by kernel_rfl, by kernel_rfl, by kernel_rfl⟩ (forall_cons (fun x => ⟨rfl, fun k => spec_WriterOk.h11 k x.1 x.2.1 x.2.2.1 x.2.2.2.1⟩) (forall_nil)) (fun k x => spec_WriterOk.hf k x.1 x.2.1) k
noncomputable def b187 : Code := Tryz.f187.body.getD .skip
theorem e187 : OM.Entry Tryz.prog 187 := ⟨_, Tryz.func187, by kernel_rfl, by kernel_rfl⟩
@[reducible] noncomputable def spec_OffOf.g : Sig := ⟨[.fz (.int .i64)], [.v (.int .i64) .z], []⟩
@[reducible] noncomputable def spec_OffOf.fk : Nat → denI spec_OffOf.g.pms → Option (denR (outTys spec_OffOf.g.rts spec_OffOf.g.pms)) := fun k x => spec_OffOf.f x.1
@[reducible] noncomputable def spec_OffOf.sm (k : Nat) : Sm := ⟨187, spec_OffOf.g.pms, spec_OffOf.g.rts, spec_OffOf.fk k⟩
noncomputable def spec_OffOf.E (k : Nat) : Env := ⟨tys, [spec_PlaceOk.sm k], [], [], []⟩
noncomputable def spec_OffOf.pts : List (Pt (denR (outTys spec_OffOf.g.rts spec_OffOf.g.pms))) := []
theorem spec_OffOf.hf (k : Nat) (a0 : Int) : (spec_OffOf.f a0 : Option (denR (outTys spec_OffOf.g.rts spec_OffOf.g.pms))) = evC (spec_OffOf.E k) (fun κ s => lhOf k κ s spec_OffOf.pts) b187 (OM.start spec_OffOf.g.pms 0 (a0, ())) (OM.fin spec_OffOf.g Tryz.f187.results.toList) := by kernel_rfl
theorem spec_OffOf.ok (k : Nat) : SmOk Tryz.prog (spec_OffOf.sm k) :=
  sm_ok mixed (E := spec_OffOf.E) (pts := spec_OffOf.pts) (fun k => ⟨⟨tysOk, by kernel_rfl⟩, forall_cons ⟨spec_PlaceOk.ok k, e93⟩ (forall_nil)⟩) (fun _ => rfl) (fun _ => rfl)
    ⟨Tryz.func187, by kernel_rfl, by kernel_rfl, by kernel_rfl, by kernel_rfl, by kernel_rfl, by kernel_rfl⟩ (forall_nil) (fun k x => spec_OffOf.hf k x.1) k
noncomputable def b150 : Code := Tryz.f150.body.getD .skip
theorem e150 : OM.Entry Tryz.prog 150 := ⟨_, Tryz.func150, by kernel_rfl, by kernel_rfl⟩
@[reducible] noncomputable def spec_l9Last.g : Sig := ⟨[.fz tMend], [.v (.int .i64) .z], []⟩
@[reducible] noncomputable def spec_l9Last.fk : Nat → denI spec_l9Last.g.pms → Option (denR (outTys spec_l9Last.g.rts spec_l9Last.g.pms)) := fun k x => spec_l9Last.f x.1
@[reducible] noncomputable def spec_l9Last.sm (k : Nat) : Sm := ⟨150, spec_l9Last.g.pms, spec_l9Last.g.rts, spec_l9Last.fk k⟩
noncomputable def spec_l9Last.E (k : Nat) : Env := ⟨tys, [spec_OffOf.sm k], [], [], []⟩
noncomputable def spec_l9Last.pts : List (Pt (denR (outTys spec_l9Last.g.rts spec_l9Last.g.pms))) := []
theorem spec_l9Last.hf (k : Nat) (a0 : Mend) : (spec_l9Last.f a0 : Option (denR (outTys spec_l9Last.g.rts spec_l9Last.g.pms))) = evC (spec_l9Last.E k) (fun κ s => lhOf k κ s spec_l9Last.pts) b150 (OM.start spec_l9Last.g.pms 0 (a0, ())) (OM.fin spec_l9Last.g Tryz.f150.results.toList) := by kernel_rfl
theorem spec_l9Last.ok (k : Nat) : SmOk Tryz.prog (spec_l9Last.sm k) :=
  sm_ok mixed (E := spec_l9Last.E) (pts := spec_l9Last.pts) (fun k => ⟨⟨tysOk, by kernel_rfl⟩, forall_cons ⟨spec_OffOf.ok k, e187⟩ (forall_nil)⟩) (fun _ => rfl) (fun _ => rfl)
    ⟨Tryz.func150, by kernel_rfl, by kernel_rfl, by kernel_rfl, by kernel_rfl, by kernel_rfl, by kernel_rfl⟩ (forall_nil) (fun k x => spec_l9Last.hf k x.1) k
noncomputable def b90 : Code := Tryz.f90.body.getD .skip
theorem e90 : OM.Entry Tryz.prog 90 := ⟨_, Tryz.func90, by kernel_rfl, by kernel_rfl⟩
@[reducible] noncomputable def spec_MendOk.g : Sig := ⟨[.fz tConfig, .fz tMend], [.v .bool .z], []⟩
@[reducible] noncomputable def spec_MendOk.fk : Nat → denI spec_MendOk.g.pms → Option (denR (outTys spec_MendOk.g.rts spec_MendOk.g.pms)) := fun k x => spec_MendOk.f k x.1 x.2.1
@[reducible] noncomputable def spec_MendOk.sm (k : Nat) : Sm := ⟨90, spec_MendOk.g.pms, spec_MendOk.g.rts, spec_MendOk.fk k⟩
noncomputable def spec_MendOk.E (k : Nat) : Env := ⟨tys, [spec_l1In.sm k, spec_ConfigOk.sm k, spec_NodesOk.sm k, spec_EpochOf.sm k, spec_EntryOk.sm k, spec_l6Asc.sm k, spec_l9Last.sm k], [], [], []⟩
@[reducible] noncomputable def spec_MendOk.s9 : List Slot := [.r 8 9 [] tConfig, .r 12 13 [] tMend, .v 20 (.int .i64) .z [] 0, .v 9 tConfig .z [] 0, .v 13 tMend .z [] 0]
@[reducible] noncomputable def spec_MendOk.s19 : List Slot := [.r 8 9 [] tConfig, .r 12 13 [] tMend, .v 24 (.int .i64) .z [] 0, .v 9 tConfig .z [] 0, .v 13 tMend .z [] 0]
noncomputable def spec_MendOk.pts : List (Pt (denR (outTys spec_MendOk.g.rts spec_MendOk.g.pms))) := [⟨9, spec_MendOk.s9, fun k x => spec_MendOk.p9 k x.1 x.2.1 x.2.2.1⟩, ⟨19, spec_MendOk.s19, fun k x => spec_MendOk.p19 k x.1 x.2.1 x.2.2.1⟩]
theorem spec_MendOk.h9 (k : Nat) (x0 : Int) (x1 : Config) (x2 : Mend) : (spec_MendOk.p9 (k + 1) x0 x1 x2 : Option (denR (outTys spec_MendOk.g.rts spec_MendOk.g.pms))) = evAt (spec_MendOk.E k) (fun κ s => lhOf k κ s spec_MendOk.pts) 9 b90 (unproj spec_MendOk.s9 (x0, x1, x2, ())) (OM.fin spec_MendOk.g Tryz.f90.results.toList) := by kernel_rfl
theorem spec_MendOk.h19 (k : Nat) (x0 : Int) (x1 : Config) (x2 : Mend) : (spec_MendOk.p19 (k + 1) x0 x1 x2 : Option (denR (outTys spec_MendOk.g.rts spec_MendOk.g.pms))) = evAt (spec_MendOk.E k) (fun κ s => lhOf k κ s spec_MendOk.pts) 19 b90 (unproj spec_MendOk.s19 (x0, x1, x2, ())) (OM.fin spec_MendOk.g Tryz.f90.results.toList) := by kernel_rfl
theorem spec_MendOk.hf (k : Nat) (a0 : Config) (a1 : Mend) : (spec_MendOk.f k a0 a1 : Option (denR (outTys spec_MendOk.g.rts spec_MendOk.g.pms))) = evC (spec_MendOk.E k) (fun κ s => lhOf k κ s spec_MendOk.pts) b90 (OM.start spec_MendOk.g.pms 0 (a0, a1, ())) (OM.fin spec_MendOk.g Tryz.f90.results.toList) := by kernel_rfl
theorem spec_MendOk.ok (k : Nat) : SmOk Tryz.prog (spec_MendOk.sm k) :=
  sm_ok mixed (E := spec_MendOk.E) (pts := spec_MendOk.pts) (fun k => ⟨⟨tysOk, by kernel_rfl⟩, forall_cons ⟨spec_l1In.ok k, e92⟩ (forall_cons ⟨spec_ConfigOk.ok k, e82⟩ (forall_cons ⟨spec_NodesOk.ok k, e83⟩ (forall_cons ⟨spec_EpochOf.ok k, e94⟩ (forall_cons ⟨spec_EntryOk.ok k, e149⟩ (forall_cons ⟨spec_l6Asc.ok k, e148⟩ (forall_cons ⟨spec_l9Last.ok k, e150⟩ (forall_nil)))))))⟩) (fun _ => rfl) (fun _ => rfl)
    ⟨Tryz.func90, by kernel_rfl, by kernel_rfl, by kernel_rfl, by kernel_rfl, by kernel_rfl, by kernel_rfl⟩ (forall_cons (fun x => ⟨rfl, fun k => spec_MendOk.h9 k x.1 x.2.1 x.2.2.1⟩) (forall_cons (fun x => ⟨rfl, fun k => spec_MendOk.h19 k x.1 x.2.1 x.2.2.1⟩) (forall_nil))) (fun k x => spec_MendOk.hf k x.1 x.2.1) k
noncomputable def b91 : Code := Tryz.f91.body.getD .skip
theorem e91 : OM.Entry Tryz.prog 91 := ⟨_, Tryz.func91, by kernel_rfl, by kernel_rfl⟩
@[reducible] noncomputable def spec_FirstOpen.g : Sig := ⟨[.fz tRegister], [.v (.int .i64) .z], []⟩
@[reducible] noncomputable def spec_FirstOpen.fk : Nat → denI spec_FirstOpen.g.pms → Option (denR (outTys spec_FirstOpen.g.rts spec_FirstOpen.g.pms)) := fun k x => spec_FirstOpen.f k x.1
@[reducible] noncomputable def spec_FirstOpen.sm (k : Nat) : Sm := ⟨91, spec_FirstOpen.g.pms, spec_FirstOpen.g.rts, spec_FirstOpen.fk k⟩
noncomputable def spec_FirstOpen.E (k : Nat) : Env := ⟨tys, [], [], [], []⟩
@[reducible] noncomputable def spec_FirstOpen.s5 : List Slot := [.r 4 5 [] tRegister, .v 12 (.int .i64) .z [] 0, .v 5 tRegister .z [] 0]
noncomputable def spec_FirstOpen.pts : List (Pt (denR (outTys spec_FirstOpen.g.rts spec_FirstOpen.g.pms))) := [⟨5, spec_FirstOpen.s5, fun k x => spec_FirstOpen.p5 k x.1 x.2.1⟩]
theorem spec_FirstOpen.h5 (k : Nat) (x0 : Int) (x1 : Register) : (spec_FirstOpen.p5 (k + 1) x0 x1 : Option (denR (outTys spec_FirstOpen.g.rts spec_FirstOpen.g.pms))) = evAt (spec_FirstOpen.E k) (fun κ s => lhOf k κ s spec_FirstOpen.pts) 5 b91 (unproj spec_FirstOpen.s5 (x0, x1, ())) (OM.fin spec_FirstOpen.g Tryz.f91.results.toList) := by kernel_rfl
theorem spec_FirstOpen.hf (k : Nat) (a0 : Register) : (spec_FirstOpen.f k a0 : Option (denR (outTys spec_FirstOpen.g.rts spec_FirstOpen.g.pms))) = evC (spec_FirstOpen.E k) (fun κ s => lhOf k κ s spec_FirstOpen.pts) b91 (OM.start spec_FirstOpen.g.pms 0 (a0, ())) (OM.fin spec_FirstOpen.g Tryz.f91.results.toList) := by kernel_rfl
theorem spec_FirstOpen.ok (k : Nat) : SmOk Tryz.prog (spec_FirstOpen.sm k) :=
  sm_ok mixed (E := spec_FirstOpen.E) (pts := spec_FirstOpen.pts) (fun k => ⟨⟨tysOk, by kernel_rfl⟩, forall_nil⟩) (fun _ => rfl) (fun _ => rfl)
    ⟨Tryz.func91, by kernel_rfl, by kernel_rfl, by kernel_rfl, by kernel_rfl, by kernel_rfl, by kernel_rfl⟩ (forall_cons (fun x => ⟨rfl, fun k => spec_FirstOpen.h5 k x.1 x.2.1⟩) (forall_nil)) (fun k x => spec_FirstOpen.hf k x.1) k
noncomputable def b34 : Code := Tryz.f34.body.getD .skip
theorem e34 : OM.Entry Tryz.prog 34 := ⟨_, Tryz.func34, by kernel_rfl, by kernel_rfl⟩
@[reducible] noncomputable def spec_l12Epochs.g : Sig := ⟨[.fz tWorld], [.v .bool .z], []⟩
@[reducible] noncomputable def spec_l12Epochs.fk : Nat → denI spec_l12Epochs.g.pms → Option (denR (outTys spec_l12Epochs.g.rts spec_l12Epochs.g.pms)) := fun k x => spec_l12Epochs.f k x.1
@[reducible] noncomputable def spec_l12Epochs.sm (k : Nat) : Sm := ⟨34, spec_l12Epochs.g.pms, spec_l12Epochs.g.rts, spec_l12Epochs.fk k⟩
noncomputable def spec_l12Epochs.E (k : Nat) : Env := ⟨tys, [spec_RegOk.sm k, spec_WriterOk.sm k, spec_MendOk.sm k, spec_FirstOpen.sm k], [86], [], []⟩
@[reducible] noncomputable def spec_l12Epochs.s11 : List Slot := [.r 4 5 [] tWorld, .v 12 (.int .i64) .z [] 0, .v 16 (.int .i64) .z [] 0, .v 5 tWorld .z [] 0]
@[reducible] noncomputable def spec_l12Epochs.s21 : List Slot := [.r 4 5 [] tWorld, .v 12 (.int .i64) .z [] 0, .v 20 (.int .i64) .z [] 0, .v 5 tWorld .z [] 0]
noncomputable def spec_l12Epochs.pts : List (Pt (denR (outTys spec_l12Epochs.g.rts spec_l12Epochs.g.pms))) := [⟨11, spec_l12Epochs.s11, fun k x => spec_l12Epochs.p11 k x.1 x.2.1 x.2.2.1⟩, ⟨21, spec_l12Epochs.s21, fun k x => spec_l12Epochs.p21 k x.1 x.2.1 x.2.2.1⟩]
theorem spec_l12Epochs.h11 (k : Nat) (x0 : Int) (x1 : Int) (x2 : World) : (spec_l12Epochs.p11 (k + 1) x0 x1 x2 : Option (denR (outTys spec_l12Epochs.g.rts spec_l12Epochs.g.pms))) = evAt (spec_l12Epochs.E k) (fun κ s => lhOf k κ s spec_l12Epochs.pts) 11 b34 (unproj spec_l12Epochs.s11 (x0, x1, x2, ())) (OM.fin spec_l12Epochs.g Tryz.f34.results.toList) := by kernel_rfl
theorem spec_l12Epochs.h21 (k : Nat) (x0 : Int) (x1 : Int) (x2 : World) : (spec_l12Epochs.p21 (k + 1) x0 x1 x2 : Option (denR (outTys spec_l12Epochs.g.rts spec_l12Epochs.g.pms))) = evAt (spec_l12Epochs.E k) (fun κ s => lhOf k κ s spec_l12Epochs.pts) 21 b34 (unproj spec_l12Epochs.s21 (x0, x1, x2, ())) (OM.fin spec_l12Epochs.g Tryz.f34.results.toList) := by kernel_rfl
theorem spec_l12Epochs.hf (k : Nat) (a0 : World) : (spec_l12Epochs.f k a0 : Option (denR (outTys spec_l12Epochs.g.rts spec_l12Epochs.g.pms))) = evC (spec_l12Epochs.E k) (fun κ s => lhOf k κ s spec_l12Epochs.pts) b34 (OM.start spec_l12Epochs.g.pms 0 (a0, ())) (OM.fin spec_l12Epochs.g Tryz.f34.results.toList) := by kernel_rfl
theorem spec_l12Epochs.ok (k : Nat) : SmOk Tryz.prog (spec_l12Epochs.sm k) :=
  sm_ok mixed (E := spec_l12Epochs.E) (pts := spec_l12Epochs.pts) (fun k => ⟨⟨tysOk, by kernel_rfl⟩, forall_cons ⟨spec_RegOk.ok k, e88⟩ (forall_cons ⟨spec_WriterOk.ok k, e89⟩ (forall_cons ⟨spec_MendOk.ok k, e90⟩ (forall_cons ⟨spec_FirstOpen.ok k, e91⟩ (forall_nil))))⟩) (fun _ => rfl) (fun _ => rfl)
    ⟨Tryz.func34, by kernel_rfl, by kernel_rfl, by kernel_rfl, by kernel_rfl, by kernel_rfl, by kernel_rfl⟩ (forall_cons (fun x => ⟨rfl, fun k => spec_l12Epochs.h11 k x.1 x.2.1 x.2.2.1⟩) (forall_cons (fun x => ⟨rfl, fun k => spec_l12Epochs.h21 k x.1 x.2.1 x.2.2.1⟩) (forall_nil))) (fun k x => spec_l12Epochs.hf k x.1) k
noncomputable def b35 : Code := Tryz.f35.body.getD .skip
theorem e35 : OM.Entry Tryz.prog 35 := ⟨_, Tryz.func35, by kernel_rfl, by kernel_rfl⟩
@[reducible] noncomputable def spec_ReaderOk.g : Sig := ⟨[.fz tReader], [.v .bool .z], []⟩
@[reducible] noncomputable def spec_ReaderOk.fk : Nat → denI spec_ReaderOk.g.pms → Option (denR (outTys spec_ReaderOk.g.rts spec_ReaderOk.g.pms)) := fun k x => spec_ReaderOk.f x.1
@[reducible] noncomputable def spec_ReaderOk.sm (k : Nat) : Sm := ⟨35, spec_ReaderOk.g.pms, spec_ReaderOk.g.rts, spec_ReaderOk.fk k⟩
noncomputable def spec_ReaderOk.E (k : Nat) : Env := ⟨tys, [spec_l1In.sm k], [], [], []⟩
noncomputable def spec_ReaderOk.pts : List (Pt (denR (outTys spec_ReaderOk.g.rts spec_ReaderOk.g.pms))) := []
theorem spec_ReaderOk.hf (k : Nat) (a0 : Reader) : (spec_ReaderOk.f a0 : Option (denR (outTys spec_ReaderOk.g.rts spec_ReaderOk.g.pms))) = evC (spec_ReaderOk.E k) (fun κ s => lhOf k κ s spec_ReaderOk.pts) b35 (OM.start spec_ReaderOk.g.pms 0 (a0, ())) (OM.fin spec_ReaderOk.g Tryz.f35.results.toList) := by kernel_rfl
theorem spec_ReaderOk.ok (k : Nat) : SmOk Tryz.prog (spec_ReaderOk.sm k) :=
  sm_ok mixed (E := spec_ReaderOk.E) (pts := spec_ReaderOk.pts) (fun k => ⟨⟨tysOk, by kernel_rfl⟩, forall_cons ⟨spec_l1In.ok k, e92⟩ (forall_nil)⟩) (fun _ => rfl) (fun _ => rfl)
    ⟨Tryz.func35, by kernel_rfl, by kernel_rfl, by kernel_rfl, by kernel_rfl, by kernel_rfl, by kernel_rfl⟩ (forall_nil) (fun k x => spec_ReaderOk.hf k x.1) k
noncomputable def b36 : Code := Tryz.f36.body.getD .skip
theorem e36 : OM.Entry Tryz.prog 36 := ⟨_, Tryz.func36, by kernel_rfl, by kernel_rfl⟩
@[reducible] noncomputable def spec_l12Sent.g : Sig := ⟨[.fz tWorld], [.v .bool .z], []⟩
@[reducible] noncomputable def spec_l12Sent.fk : Nat → denI spec_l12Sent.g.pms → Option (denR (outTys spec_l12Sent.g.rts spec_l12Sent.g.pms)) := fun k x => spec_l12Sent.f k x.1
@[reducible] noncomputable def spec_l12Sent.sm (k : Nat) : Sm := ⟨36, spec_l12Sent.g.pms, spec_l12Sent.g.rts, spec_l12Sent.fk k⟩
noncomputable def spec_l12Sent.E (k : Nat) : Env := ⟨tys, [spec_PlaceOk.sm k, spec_EpochOf.sm k], [20], [], []⟩
@[reducible] noncomputable def spec_l12Sent.s9 : List Slot := [.r 4 5 [] tWorld, .v 12 (.int .i64) .z [] 0, .v 5 tWorld .z [] 0]
noncomputable def spec_l12Sent.pts : List (Pt (denR (outTys spec_l12Sent.g.rts spec_l12Sent.g.pms))) := [⟨9, spec_l12Sent.s9, fun k x => spec_l12Sent.p9 k x.1 x.2.1⟩]
theorem spec_l12Sent.h9 (k : Nat) (x0 : Int) (x1 : World) : (spec_l12Sent.p9 (k + 1) x0 x1 : Option (denR (outTys spec_l12Sent.g.rts spec_l12Sent.g.pms))) = evAt (spec_l12Sent.E k) (fun κ s => lhOf k κ s spec_l12Sent.pts) 9 b36 (unproj spec_l12Sent.s9 (x0, x1, ())) (OM.fin spec_l12Sent.g Tryz.f36.results.toList) := by kernel_rfl
theorem spec_l12Sent.hf (k : Nat) (a0 : World) : (spec_l12Sent.f k a0 : Option (denR (outTys spec_l12Sent.g.rts spec_l12Sent.g.pms))) = evC (spec_l12Sent.E k) (fun κ s => lhOf k κ s spec_l12Sent.pts) b36 (OM.start spec_l12Sent.g.pms 0 (a0, ())) (OM.fin spec_l12Sent.g Tryz.f36.results.toList) := by kernel_rfl
theorem spec_l12Sent.ok (k : Nat) : SmOk Tryz.prog (spec_l12Sent.sm k) :=
  sm_ok mixed (E := spec_l12Sent.E) (pts := spec_l12Sent.pts) (fun k => ⟨⟨tysOk, by kernel_rfl⟩, forall_cons ⟨spec_PlaceOk.ok k, e93⟩ (forall_cons ⟨spec_EpochOf.ok k, e94⟩ (forall_nil))⟩) (fun _ => rfl) (fun _ => rfl)
    ⟨Tryz.func36, by kernel_rfl, by kernel_rfl, by kernel_rfl, by kernel_rfl, by kernel_rfl, by kernel_rfl⟩ (forall_cons (fun x => ⟨rfl, fun k => spec_l12Sent.h9 k x.1 x.2.1⟩) (forall_nil)) (fun k x => spec_l12Sent.hf k x.1) k
noncomputable def b7 : Code := Tryz.f7.body.getD .skip
theorem e7 : OM.Entry Tryz.prog 7 := ⟨_, Tryz.func7, by kernel_rfl, by kernel_rfl⟩
@[reducible] noncomputable def spec_WorldOk.g : Sig := ⟨[.fz tWorld], [.v .bool .z], []⟩
@[reducible] noncomputable def spec_WorldOk.fk : Nat → denI spec_WorldOk.g.pms → Option (denR (outTys spec_WorldOk.g.rts spec_WorldOk.g.pms)) := fun k x => spec_WorldOk.f k x.1
@[reducible] noncomputable def spec_WorldOk.sm (k : Nat) : Sm := ⟨7, spec_WorldOk.g.pms, spec_WorldOk.g.rts, spec_WorldOk.fk k⟩
noncomputable def spec_WorldOk.E (k : Nat) : Env := ⟨tys, [spec_l12Nodes.sm k, spec_l12Epochs.sm k, spec_ReaderOk.sm k, spec_l12Sent.sm k], [], [], []⟩
noncomputable def spec_WorldOk.pts : List (Pt (denR (outTys spec_WorldOk.g.rts spec_WorldOk.g.pms))) := []
theorem spec_WorldOk.hf (k : Nat) (a0 : World) : (spec_WorldOk.f k a0 : Option (denR (outTys spec_WorldOk.g.rts spec_WorldOk.g.pms))) = evC (spec_WorldOk.E k) (fun κ s => lhOf k κ s spec_WorldOk.pts) b7 (OM.start spec_WorldOk.g.pms 0 (a0, ())) (OM.fin spec_WorldOk.g Tryz.f7.results.toList) := by kernel_rfl
theorem spec_WorldOk.ok (k : Nat) : SmOk Tryz.prog (spec_WorldOk.sm k) :=
  sm_ok mixed (E := spec_WorldOk.E) (pts := spec_WorldOk.pts) (fun k => ⟨⟨tysOk, by kernel_rfl⟩, forall_cons ⟨spec_l12Nodes.ok k, e33⟩ (forall_cons ⟨spec_l12Epochs.ok k, e34⟩ (forall_cons ⟨spec_ReaderOk.ok k, e35⟩ (forall_cons ⟨spec_l12Sent.ok k, e36⟩ (forall_nil))))⟩) (fun _ => rfl) (fun _ => rfl)
    ⟨Tryz.func7, by kernel_rfl, by kernel_rfl, by kernel_rfl, by kernel_rfl, by kernel_rfl, by kernel_rfl⟩ (forall_nil) (fun k x => spec_WorldOk.hf k x.1) k
noncomputable def b59 : Code := Tryz.f59.body.getD .skip
theorem e59 : OM.Entry Tryz.prog 59 := ⟨_, Tryz.func59, by kernel_rfl, by kernel_rfl⟩
@[reducible] noncomputable def spec_l6Get.g : Sig := ⟨[.fz (.sl tEntry), .fz (.int .i64)], [.v tEntry .z, .v .bool .z], []⟩
@[reducible] noncomputable def spec_l6Get.fk : Nat → denI spec_l6Get.g.pms → Option (denR (outTys spec_l6Get.g.rts spec_l6Get.g.pms)) := fun k x => spec_l6Get.f k x.1 x.2.1
@[reducible] noncomputable def spec_l6Get.sm (k : Nat) : Sm := ⟨59, spec_l6Get.g.pms, spec_l6Get.g.rts, spec_l6Get.fk k⟩
noncomputable def spec_l6Get.E (k : Nat) : Env := ⟨tys, [], [], [], []⟩
@[reducible] noncomputable def spec_l6Get.s5 : List Slot := [.v 0 (.sl tEntry) .z [] 0, .v 4 (.int .i64) .z [] 0, .r 16 17 [] tEntry, .v 24 (.int .i64) .z [] 0, .v 17 tEntry .z [] 0]
noncomputable def spec_l6Get.pts : List (Pt (denR (outTys spec_l6Get.g.rts spec_l6Get.g.pms))) := [⟨5, spec_l6Get.s5, fun k x => spec_l6Get.p5 k x.1 x.2.1 x.2.2.1 x.2.2.2.1⟩]
theorem spec_l6Get.h5 (k : Nat) (x0 : (List Entry)) (x1 : Int) (x2 : Int) (x3 : Entry) : (spec_l6Get.p5 (k + 1) x0 x1 x2 x3 : Option (denR (outTys spec_l6Get.g.rts spec_l6Get.g.pms))) = evAt (spec_l6Get.E k) (fun κ s => lhOf k κ s spec_l6Get.pts) 5 b59 (unproj spec_l6Get.s5 (x0, x1, x2, x3, ())) (OM.fin spec_l6Get.g Tryz.f59.results.toList) := by kernel_rfl
theorem spec_l6Get.hf (k : Nat) (a0 : (List Entry)) (a1 : Int) : (spec_l6Get.f k a0 a1 : Option (denR (outTys spec_l6Get.g.rts spec_l6Get.g.pms))) = evC (spec_l6Get.E k) (fun κ s => lhOf k κ s spec_l6Get.pts) b59 (OM.start spec_l6Get.g.pms 0 (a0, a1, ())) (OM.fin spec_l6Get.g Tryz.f59.results.toList) := by kernel_rfl
theorem spec_l6Get.ok (k : Nat) : SmOk Tryz.prog (spec_l6Get.sm k) :=
  sm_ok mixed (E := spec_l6Get.E) (pts := spec_l6Get.pts) (fun k => ⟨⟨tysOk, by kernel_rfl⟩, forall_nil⟩) (fun _ => rfl) (fun _ => rfl)
    ⟨Tryz.func59, by kernel_rfl, by kernel_rfl, by kernel_rfl, by kernel_rfl, by kernel_rfl, by kernel_rfl⟩ (forall_cons (fun x => ⟨rfl, fun k => spec_l6Get.h5 k x.1 x.2.1 x.2.2.1 x.2.2.2.1⟩) (forall_nil)) (fun k x => spec_l6Get.hf k x.1 x.2.1) k
noncomputable def b11 : Code := Tryz.f11.body.getD .skip
theorem e11 : OM.Entry Tryz.prog 11 := ⟨_, Tryz.func11, by kernel_rfl, by kernel_rfl⟩
@[reducible] noncomputable def spec_HoldersOf.g : Sig := ⟨[.fz tWorld, .fz (.int .i64)], [.v (.sl (.int .i64)) (.own .z)], []⟩
@[reducible] noncomputable def spec_HoldersOf.fk : Nat → denI spec_HoldersOf.g.pms → Option (denR (outTys spec_HoldersOf.g.rts spec_HoldersOf.g.pms)) := fun k x => spec_HoldersOf.f k x.1 x.2.1
@[reducible] noncomputable def spec_HoldersOf.sm (k : Nat) : Sm := ⟨11, spec_HoldersOf.g.pms, spec_HoldersOf.g.rts, spec_HoldersOf.fk k⟩
noncomputable def spec_HoldersOf.E (k : Nat) : Env := ⟨tys, [spec_WorldOk.sm k, spec_l6Get.sm k], [], [], []⟩
@[reducible] noncomputable def spec_HoldersOf.s7 : List Slot := [.v 4 (.int .i64) .z [] 0, .r 8 9 [] tWorld, .v 20 (.sl (.int .i64)) (.own .z) [] 0, .v 24 (.int .i64) .z [] 0, .v 9 tWorld .z [] 0]
noncomputable def spec_HoldersOf.pts : List (Pt (denR (outTys spec_HoldersOf.g.rts spec_HoldersOf.g.pms))) := [⟨7, spec_HoldersOf.s7, fun k x => spec_HoldersOf.p7 k x.1 x.2.1 x.2.2.1 x.2.2.2.1⟩]
theorem spec_HoldersOf.h7 (k : Nat) (x0 : Int) (x1 : (List Int)) (x2 : Int) (x3 : World) : (spec_HoldersOf.p7 (k + 1) x0 x1 x2 x3 : Option (denR (outTys spec_HoldersOf.g.rts spec_HoldersOf.g.pms))) = evAt (spec_HoldersOf.E k) (fun κ s => lhOf k κ s spec_HoldersOf.pts) 7 b11 (unproj spec_HoldersOf.s7 (x0, x1, x2, x3, ())) (OM.fin spec_HoldersOf.g Tryz.f11.results.toList) := by kernel_rfl
theorem spec_HoldersOf.hf (k : Nat) (a0 : World) (a1 : Int) : (spec_HoldersOf.f k a0 a1 : Option (denR (outTys spec_HoldersOf.g.rts spec_HoldersOf.g.pms))) = evC (spec_HoldersOf.E k) (fun κ s => lhOf k κ s spec_HoldersOf.pts) b11 (OM.start spec_HoldersOf.g.pms 0 (a0, a1, ())) (OM.fin spec_HoldersOf.g Tryz.f11.results.toList) := by kernel_rfl
theorem spec_HoldersOf.ok (k : Nat) : SmOk Tryz.prog (spec_HoldersOf.sm k) :=
  sm_ok mixed (E := spec_HoldersOf.E) (pts := spec_HoldersOf.pts) (fun k => ⟨⟨tysOk, by kernel_rfl⟩, forall_cons ⟨spec_WorldOk.ok k, e7⟩ (forall_cons ⟨spec_l6Get.ok k, e59⟩ (forall_nil))⟩) (fun _ => rfl) (fun _ => rfl)
    ⟨Tryz.func11, by kernel_rfl, by kernel_rfl, by kernel_rfl, by kernel_rfl, by kernel_rfl, by kernel_rfl⟩ (forall_cons (fun x => ⟨rfl, fun k => spec_HoldersOf.h7 k x.1 x.2.1 x.2.2.1 x.2.2.2.1⟩) (forall_nil)) (fun k x => spec_HoldersOf.hf k x.1 x.2.1) k
noncomputable def b101 : Code := Tryz.f101.body.getD .skip
theorem e101 : OM.Entry Tryz.prog 101 := ⟨_, Tryz.func101, by kernel_rfl, by kernel_rfl⟩
@[reducible] noncomputable def impl_within.g : Sig := ⟨[.fz (.int .i64), .fz (.int .i64), .fz (.int .i64)], [.v .bool .z], []⟩
@[reducible] noncomputable def impl_within.fk : Nat → denI impl_within.g.pms → Option (denR (outTys impl_within.g.rts impl_within.g.pms)) := fun k x => impl_within.f x.1 x.2.1 x.2.2.1
@[reducible] noncomputable def impl_within.sm (k : Nat) : Sm := ⟨101, impl_within.g.pms, impl_within.g.rts, impl_within.fk k⟩
noncomputable def impl_within.E (k : Nat) : Env := ⟨tys, [], [], [], []⟩
noncomputable def impl_within.pts : List (Pt (denR (outTys impl_within.g.rts impl_within.g.pms))) := []
theorem impl_within.hf (k : Nat) (a0 : Int) (a1 : Int) (a2 : Int) : (impl_within.f a0 a1 a2 : Option (denR (outTys impl_within.g.rts impl_within.g.pms))) = evC (impl_within.E k) (fun κ s => lhOf k κ s impl_within.pts) b101 (OM.start impl_within.g.pms 0 (a0, a1, a2, ())) (OM.fin impl_within.g Tryz.f101.results.toList) := by kernel_rfl
theorem impl_within.ok (k : Nat) : SmOk Tryz.prog (impl_within.sm k) :=
  sm_ok mixed (E := impl_within.E) (pts := impl_within.pts) (fun k => ⟨⟨tysOk, by kernel_rfl⟩, forall_nil⟩) (fun _ => rfl) (fun _ => rfl)
    ⟨Tryz.func101, by kernel_rfl, by kernel_rfl, by kernel_rfl, by kernel_rfl, by kernel_rfl, by kernel_rfl⟩ (forall_nil) (fun k x => impl_within.hf k x.1 x.2.1 x.2.2.1) k
noncomputable def b45 : Code := Tryz.f45.body.getD .skip
theorem e45 : OM.Entry Tryz.prog 45 := ⟨_, Tryz.func45, by kernel_rfl, by kernel_rfl⟩
@[reducible] noncomputable def impl_ConfigOk.g : Sig := ⟨[.fz tConfig], [.v .bool .z], []⟩
@[reducible] noncomputable def impl_ConfigOk.fk : Nat → denI impl_ConfigOk.g.pms → Option (denR (outTys impl_ConfigOk.g.rts impl_ConfigOk.g.pms)) := fun k x => impl_ConfigOk.f k x.1
@[reducible] noncomputable def impl_ConfigOk.sm (k : Nat) : Sm := ⟨45, impl_ConfigOk.g.pms, impl_ConfigOk.g.rts, impl_ConfigOk.fk k⟩
noncomputable def impl_ConfigOk.E (k : Nat) : Env := ⟨tys, [impl_within.sm k], [11], [], []⟩
@[reducible] noncomputable def impl_ConfigOk.s5 : List Slot := [.r 4 5 [] tConfig, .v 24 (.sl (.int .i64)) .z [] 0, .v 28 (.int .i64) .z [] 0, .v 32 (.int .i64) .z [] 0, .v 5 tConfig .z [] 0]
noncomputable def impl_ConfigOk.pts : List (Pt (denR (outTys impl_ConfigOk.g.rts impl_ConfigOk.g.pms))) := [⟨5, impl_ConfigOk.s5, fun k x => impl_ConfigOk.p5 k x.1 x.2.1 x.2.2.1 x.2.2.2.1⟩]
theorem impl_ConfigOk.h5 (k : Nat) (x0 : (List Int)) (x1 : Int) (x2 : Int) (x3 : Config) : (impl_ConfigOk.p5 (k + 1) x0 x1 x2 x3 : Option (denR (outTys impl_ConfigOk.g.rts impl_ConfigOk.g.pms))) = evAt (impl_ConfigOk.E k) (fun κ s => lhOf k κ s impl_ConfigOk.pts) 5 b45 (unproj impl_ConfigOk.s5 (x0, x1, x2, x3, ())) (OM.fin impl_ConfigOk.g Tryz.f45.results.toList) := by kernel_rfl
theorem impl_ConfigOk.hf (k : Nat) (a0 : Config) : (impl_ConfigOk.f k a0 : Option (denR (outTys impl_ConfigOk.g.rts impl_ConfigOk.g.pms))) = evC (impl_ConfigOk.E k) (fun κ s => lhOf k κ s impl_ConfigOk.pts) b45 (OM.start impl_ConfigOk.g.pms 0 (a0, ())) (OM.fin impl_ConfigOk.g Tryz.f45.results.toList) := by kernel_rfl
theorem impl_ConfigOk.ok (k : Nat) : SmOk Tryz.prog (impl_ConfigOk.sm k) :=
  sm_ok mixed (E := impl_ConfigOk.E) (pts := impl_ConfigOk.pts) (fun k => ⟨⟨tysOk, by kernel_rfl⟩, forall_cons ⟨impl_within.ok k, e101⟩ (forall_nil)⟩) (fun _ => rfl) (fun _ => rfl)
    ⟨Tryz.func45, by kernel_rfl, by kernel_rfl, by kernel_rfl, by kernel_rfl, by kernel_rfl, by kernel_rfl⟩ (forall_cons (fun x => ⟨rfl, fun k => impl_ConfigOk.h5 k x.1 x.2.1 x.2.2.1 x.2.2.2.1⟩) (forall_nil)) (fun k x => impl_ConfigOk.hf k x.1) k
noncomputable def b156 : Code := Tryz.f156.body.getD .skip
theorem e156 : OM.Entry Tryz.prog 156 := ⟨_, Tryz.func156, by kernel_rfl, by kernel_rfl⟩
@[reducible] noncomputable def impl_ascends.g : Sig := ⟨[.fz (.sl (.int .i64)), .fz (.int .i64)], [.v .bool .z], []⟩
@[reducible] noncomputable def impl_ascends.fk : Nat → denI impl_ascends.g.pms → Option (denR (outTys impl_ascends.g.rts impl_ascends.g.pms)) := fun k x => impl_ascends.f k x.1 x.2.1
@[reducible] noncomputable def impl_ascends.sm (k : Nat) : Sm := ⟨156, impl_ascends.g.pms, impl_ascends.g.rts, impl_ascends.fk k⟩
noncomputable def impl_ascends.E (k : Nat) : Env := ⟨tys, [impl_within.sm k], [13], [], []⟩
@[reducible] noncomputable def impl_ascends.s5 : List Slot := [.v 0 (.sl (.int .i64)) .z [] 0, .v 4 (.int .i64) .z [] 0, .v 28 (.sl (.int .i64)) .z [] 0, .v 32 (.int .i64) .z [] 0, .v 36 (.int .i64) .z [] 0]
noncomputable def impl_ascends.pts : List (Pt (denR (outTys impl_ascends.g.rts impl_ascends.g.pms))) := [⟨5, impl_ascends.s5, fun k x => impl_ascends.p5 k x.1 x.2.1 x.2.2.1 x.2.2.2.1 x.2.2.2.2.1⟩]
theorem impl_ascends.h5 (k : Nat) (x0 : (List Int)) (x1 : Int) (x2 : (List Int)) (x3 : Int) (x4 : Int) : (impl_ascends.p5 (k + 1) x0 x1 x2 x3 x4 : Option (denR (outTys impl_ascends.g.rts impl_ascends.g.pms))) = evAt (impl_ascends.E k) (fun κ s => lhOf k κ s impl_ascends.pts) 5 b156 (unproj impl_ascends.s5 (x0, x1, x2, x3, x4, ())) (OM.fin impl_ascends.g Tryz.f156.results.toList) := by kernel_rfl
theorem impl_ascends.hf (k : Nat) (a0 : (List Int)) (a1 : Int) : (impl_ascends.f k a0 a1 : Option (denR (outTys impl_ascends.g.rts impl_ascends.g.pms))) = evC (impl_ascends.E k) (fun κ s => lhOf k κ s impl_ascends.pts) b156 (OM.start impl_ascends.g.pms 0 (a0, a1, ())) (OM.fin impl_ascends.g Tryz.f156.results.toList) := by kernel_rfl
theorem impl_ascends.ok (k : Nat) : SmOk Tryz.prog (impl_ascends.sm k) :=
  sm_ok mixed (E := impl_ascends.E) (pts := impl_ascends.pts) (fun k => ⟨⟨tysOk, by kernel_rfl⟩, forall_cons ⟨impl_within.ok k, e101⟩ (forall_nil)⟩) (fun _ => rfl) (fun _ => rfl)
    ⟨Tryz.func156, by kernel_rfl, by kernel_rfl, by kernel_rfl, by kernel_rfl, by kernel_rfl, by kernel_rfl⟩ (forall_cons (fun x => ⟨rfl, fun k => impl_ascends.h5 k x.1 x.2.1 x.2.2.1 x.2.2.2.1 x.2.2.2.2.1⟩) (forall_nil)) (fun k x => impl_ascends.hf k x.1 x.2.1) k
noncomputable def b102 : Code := Tryz.f102.body.getD .skip
theorem e102 : OM.Entry Tryz.prog 102 := ⟨_, Tryz.func102, by kernel_rfl, by kernel_rfl⟩
@[reducible] noncomputable def impl_NodesOk.g : Sig := ⟨[.fz tConfig, .fz (.sl (.int .i64))], [.v .bool .z], []⟩
@[reducible] noncomputable def impl_NodesOk.fk : Nat → denI impl_NodesOk.g.pms → Option (denR (outTys impl_NodesOk.g.rts impl_NodesOk.g.pms)) := fun k x => impl_NodesOk.f k x.1 x.2.1
@[reducible] noncomputable def impl_NodesOk.sm (k : Nat) : Sm := ⟨102, impl_NodesOk.g.pms, impl_NodesOk.g.rts, impl_NodesOk.fk k⟩
noncomputable def impl_NodesOk.E (k : Nat) : Env := ⟨tys, [impl_ConfigOk.sm k, impl_ascends.sm k], [], [], []⟩
noncomputable def impl_NodesOk.pts : List (Pt (denR (outTys impl_NodesOk.g.rts impl_NodesOk.g.pms))) := []
theorem impl_NodesOk.hf (k : Nat) (a0 : Config) (a1 : (List Int)) : (impl_NodesOk.f k a0 a1 : Option (denR (outTys impl_NodesOk.g.rts impl_NodesOk.g.pms))) = evC (impl_NodesOk.E k) (fun κ s => lhOf k κ s impl_NodesOk.pts) b102 (OM.start impl_NodesOk.g.pms 0 (a0, a1, ())) (OM.fin impl_NodesOk.g Tryz.f102.results.toList) := by kernel_rfl
theorem impl_NodesOk.ok (k : Nat) : SmOk Tryz.prog (impl_NodesOk.sm k) :=
  sm_ok mixed (E := impl_NodesOk.E) (pts := impl_NodesOk.pts) (fun k => ⟨⟨tysOk, by kernel_rfl⟩, forall_cons ⟨impl_ConfigOk.ok k, e45⟩ (forall_cons ⟨impl_ascends.ok k, e156⟩ (forall_nil))⟩) (fun _ => rfl) (fun _ => rfl)
    ⟨Tryz.func102, by kernel_rfl, by kernel_rfl, by kernel_rfl, by kernel_rfl, by kernel_rfl, by kernel_rfl⟩ (forall_nil) (fun k x => impl_NodesOk.hf k x.1 x.2.1) k
noncomputable def b161 : Code := Tryz.f161.body.getD .skip
theorem e161 : OM.Entry Tryz.prog 161 := ⟨_, Tryz.func161, by kernel_rfl, by kernel_rfl⟩
@[reducible] noncomputable def impl_isEpoch.g : Sig := ⟨[.fz (.int .i64)], [.v .bool .z], []⟩
@[reducible] noncomputable def impl_isEpoch.fk : Nat → denI impl_isEpoch.g.pms → Option (denR (outTys impl_isEpoch.g.rts impl_isEpoch.g.pms)) := fun k x => impl_isEpoch.f x.1
@[reducible] noncomputable def impl_isEpoch.sm (k : Nat) : Sm := ⟨161, impl_isEpoch.g.pms, impl_isEpoch.g.rts, impl_isEpoch.fk k⟩
noncomputable def impl_isEpoch.E (k : Nat) : Env := ⟨tys, [impl_within.sm k], [], [], []⟩
noncomputable def impl_isEpoch.pts : List (Pt (denR (outTys impl_isEpoch.g.rts impl_isEpoch.g.pms))) := []
theorem impl_isEpoch.hf (k : Nat) (a0 : Int) : (impl_isEpoch.f a0 : Option (denR (outTys impl_isEpoch.g.rts impl_isEpoch.g.pms))) = evC (impl_isEpoch.E k) (fun κ s => lhOf k κ s impl_isEpoch.pts) b161 (OM.start impl_isEpoch.g.pms 0 (a0, ())) (OM.fin impl_isEpoch.g Tryz.f161.results.toList) := by kernel_rfl
theorem impl_isEpoch.ok (k : Nat) : SmOk Tryz.prog (impl_isEpoch.sm k) :=
  sm_ok mixed (E := impl_isEpoch.E) (pts := impl_isEpoch.pts) (fun k => ⟨⟨tysOk, by kernel_rfl⟩, forall_cons ⟨impl_within.ok k, e101⟩ (forall_nil)⟩) (fun _ => rfl) (fun _ => rfl)
    ⟨Tryz.func161, by kernel_rfl, by kernel_rfl, by kernel_rfl, by kernel_rfl, by kernel_rfl, by kernel_rfl⟩ (forall_nil) (fun k x => impl_isEpoch.hf k x.1) k
end Go.Proofs.YthgnikafeamidacGreat.OmFnExactHoldersOf
