import Derived.Test.YthgnikafeamidaaFFnExactFill
import Derived.Test.YthgnikafeamidaaChecked
set_option maxRecDepth 1000000
set_option linter.unusedVariables false
namespace Go.Proofs.Ythgnikafeamidaa.OmFnExactFill
open Go Go.OM
noncomputable def tys : List (Option Ty) := [none, none, some (.int .i64), some (.int .i64), some .bool, some (.int .u8), some (.int .u8), some (.pair (.int .i64) (.pair (.int .i64) (.pair .bool (.pair (.int .u8) .unit)))), some (.pair (.int .i64) (.pair (.int .i64) (.pair .bool (.pair (.int .u8) .unit)))), some .str, some .str, some .str, some (.int .u64), some (.pair .str (.pair (.int .u64) .unit)), some (.pair .str (.pair (.int .u64) .unit)), none, none, none, none, none, none, some (.int .i32), some (.sl tStore), none, some (.sl tEntry), none, some (.sl tStore), none, none, none, none, none, none, some (.sl (.int .u8)), none, none, none, some tStore, some tStore, some tEntry, some tEntry, none, none, none, some (.sl (.int .i64)), some tConfig, some tConfig, none, none, none, none, none, none, some tConfig, none, none, none, none, none, none, none, none, none, none, some (.sl tEntry), some (.sl (.sl (.int .i64))), some tMend, some tMend, none, some tMend, some tMend, none, none, none, none, none, none, none, none, none, none, none, none, none, some tStore, some tStore, none, none, none, none, none, none, none, none, none, none, none, none, none, none, none, none, none, none, none, none, none, none, none, none, none, none, none, none, none, none, none, none, none, none, none, none, none, none, none, some tl1Cur, some tl1Cur, none, none, none, none, none, none, some tEntry, none, none, none, none, none, none, none, none, none, none, none, none, none, some (.int .u64), some (.sl .bool), none, none, none, none, none, none, some (.sl .str), none, none, none, none, none, none, none, none, none, none, none, none, some (.int .u32), some (.int .u8), some (.int .u8), none, none, some (.int .i32), some (.int .i32), none, none, none]
theorem tysOk : okTys Try.prog tys 0 tys = true := by kernel_rfl
theorem mixed : Try.prog.follows .mixedOrders = true := by kernel_rfl
noncomputable def b83 : Code := Try.f83.body.getD .skip
theorem e83 : OM.Entry Try.prog 83 := ⟨_, Try.func83, by kernel_rfl, by kernel_rfl⟩
@[reducible] noncomputable def laws_szIntS.g : Sig := ⟨[.fz (.sl (.int .i64)), .fz (.int .i64)], [.v (.int .i64) .z], []⟩
@[reducible] noncomputable def laws_szIntS.fk : Nat → denI laws_szIntS.g.pms → Option (denR (outTys laws_szIntS.g.rts laws_szIntS.g.pms)) := fun k x => laws_szIntS.f x.1 x.2.1
@[reducible] noncomputable def laws_szIntS.sm (k : Nat) : Sm := ⟨83, laws_szIntS.g.pms, laws_szIntS.g.rts, laws_szIntS.fk k⟩
noncomputable def laws_szIntS.E (k : Nat) : Env := ⟨tys, [], [], [], []⟩
noncomputable def laws_szIntS.pts : List (Pt (denR (outTys laws_szIntS.g.rts laws_szIntS.g.pms))) := []
theorem laws_szIntS.hf (k : Nat) (a0 : (List Int)) (a1 : Int) : (laws_szIntS.f a0 a1 : Option (denR (outTys laws_szIntS.g.rts laws_szIntS.g.pms))) = evC (laws_szIntS.E k) (fun κ s => lhOf k κ s laws_szIntS.pts) b83 (OM.start laws_szIntS.g.pms 0 (a0, a1, ())) (OM.fin laws_szIntS.g Try.f83.results.toList) := by kernel_rfl
theorem laws_szIntS.ok (k : Nat) : SmOk Try.prog (laws_szIntS.sm k) :=
  sm_ok mixed (E := laws_szIntS.E) (pts := laws_szIntS.pts) (fun k => ⟨⟨tysOk, by kernel_rfl⟩, forall_nil⟩) (fun _ => rfl) (fun _ => rfl)
    ⟨Try.func83, by kernel_rfl, by kernel_rfl, by kernel_rfl, by kernel_rfl, by kernel_rfl, by kernel_rfl⟩ (forall_nil) (fun k x => laws_szIntS.hf k x.1 x.2.1) k
noncomputable def b32 : Code := Try.f32.body.getD .skip
theorem e32 : OM.Entry Try.prog 32 := ⟨_, Try.func32, by kernel_rfl, by kernel_rfl⟩
@[reducible] noncomputable def laws_szConfig.g : Sig := ⟨[.fz tConfig, .fz (.int .i64)], [.v (.int .i64) .z], []⟩
@[reducible] noncomputable def laws_szConfig.fk : Nat → denI laws_szConfig.g.pms → Option (denR (outTys laws_szConfig.g.rts laws_szConfig.g.pms)) := fun k x => laws_szConfig.f x.1 x.2.1
@[reducible] noncomputable def laws_szConfig.sm (k : Nat) : Sm := ⟨32, laws_szConfig.g.pms, laws_szConfig.g.rts, laws_szConfig.fk k⟩
noncomputable def laws_szConfig.E (k : Nat) : Env := ⟨tys, [laws_szIntS.sm k], [], [], []⟩
noncomputable def laws_szConfig.pts : List (Pt (denR (outTys laws_szConfig.g.rts laws_szConfig.g.pms))) := []
theorem laws_szConfig.hf (k : Nat) (a0 : Config) (a1 : Int) : (laws_szConfig.f a0 a1 : Option (denR (outTys laws_szConfig.g.rts laws_szConfig.g.pms))) = evC (laws_szConfig.E k) (fun κ s => lhOf k κ s laws_szConfig.pts) b32 (OM.start laws_szConfig.g.pms 0 (a0, a1, ())) (OM.fin laws_szConfig.g Try.f32.results.toList) := by kernel_rfl
theorem laws_szConfig.ok (k : Nat) : SmOk Try.prog (laws_szConfig.sm k) :=
  sm_ok mixed (E := laws_szConfig.E) (pts := laws_szConfig.pts) (fun k => ⟨⟨tysOk, by kernel_rfl⟩, forall_cons ⟨laws_szIntS.ok k, e83⟩ (forall_nil)⟩) (fun _ => rfl) (fun _ => rfl)
    ⟨Try.func32, by kernel_rfl, by kernel_rfl, by kernel_rfl, by kernel_rfl, by kernel_rfl, by kernel_rfl⟩ (forall_nil) (fun k x => laws_szConfig.hf k x.1 x.2.1) k
noncomputable def b126 : Code := Try.f126.body.getD .skip
theorem e126 : OM.Entry Try.prog 126 := ⟨_, Try.func126, by kernel_rfl, by kernel_rfl⟩
@[reducible] noncomputable def laws_szEntry.g : Sig := ⟨[.fz tEntry, .fz (.int .i64)], [.v (.int .i64) .z], []⟩
@[reducible] noncomputable def laws_szEntry.fk : Nat → denI laws_szEntry.g.pms → Option (denR (outTys laws_szEntry.g.rts laws_szEntry.g.pms)) := fun k x => laws_szEntry.f x.1 x.2.1
@[reducible] noncomputable def laws_szEntry.sm (k : Nat) : Sm := ⟨126, laws_szEntry.g.pms, laws_szEntry.g.rts, laws_szEntry.fk k⟩
noncomputable def laws_szEntry.E (k : Nat) : Env := ⟨tys, [], [], [], []⟩
noncomputable def laws_szEntry.pts : List (Pt (denR (outTys laws_szEntry.g.rts laws_szEntry.g.pms))) := []
theorem laws_szEntry.hf (k : Nat) (a0 : Entry) (a1 : Int) : (laws_szEntry.f a0 a1 : Option (denR (outTys laws_szEntry.g.rts laws_szEntry.g.pms))) = evC (laws_szEntry.E k) (fun κ s => lhOf k κ s laws_szEntry.pts) b126 (OM.start laws_szEntry.g.pms 0 (a0, a1, ())) (OM.fin laws_szEntry.g Try.f126.results.toList) := by kernel_rfl
theorem laws_szEntry.ok (k : Nat) : SmOk Try.prog (laws_szEntry.sm k) :=
  sm_ok mixed (E := laws_szEntry.E) (pts := laws_szEntry.pts) (fun k => ⟨⟨tysOk, by kernel_rfl⟩, forall_nil⟩) (fun _ => rfl) (fun _ => rfl)
    ⟨Try.func126, by kernel_rfl, by kernel_rfl, by kernel_rfl, by kernel_rfl, by kernel_rfl, by kernel_rfl⟩ (forall_nil) (fun k x => laws_szEntry.hf k x.1 x.2.1) k
noncomputable def b84 : Code := Try.f84.body.getD .skip
theorem e84 : OM.Entry Try.prog 84 := ⟨_, Try.func84, by kernel_rfl, by kernel_rfl⟩
@[reducible] noncomputable def laws_szEntryS.g : Sig := ⟨[.fz (.sl tEntry), .fz (.int .i64)], [.v (.int .i64) .z], []⟩
@[reducible] noncomputable def laws_szEntryS.fk : Nat → denI laws_szEntryS.g.pms → Option (denR (outTys laws_szEntryS.g.rts laws_szEntryS.g.pms)) := fun k x => laws_szEntryS.f k x.1 x.2.1
@[reducible] noncomputable def laws_szEntryS.sm (k : Nat) : Sm := ⟨84, laws_szEntryS.g.pms, laws_szEntryS.g.rts, laws_szEntryS.fk k⟩
noncomputable def laws_szEntryS.E (k : Nat) : Env := ⟨tys, [laws_szEntry.sm k], [], [], []⟩
@[reducible] noncomputable def laws_szEntryS.s11 : List Slot := [.v 0 (.sl tEntry) .z [] 0, .v 4 (.int .i64) .z [] 0, .v 20 (.int .i64) .z [] 0]
noncomputable def laws_szEntryS.pts : List (Pt (denR (outTys laws_szEntryS.g.rts laws_szEntryS.g.pms))) := [⟨11, laws_szEntryS.s11, fun k x => laws_szEntryS.p11 k x.1 x.2.1 x.2.2.1⟩]
theorem laws_szEntryS.h11 (k : Nat) (x0 : (List Entry)) (x1 : Int) (x2 : Int) : (laws_szEntryS.p11 (k + 1) x0 x1 x2 : Option (denR (outTys laws_szEntryS.g.rts laws_szEntryS.g.pms))) = evAt (laws_szEntryS.E k) (fun κ s => lhOf k κ s laws_szEntryS.pts) 11 b84 (unproj laws_szEntryS.s11 (x0, x1, x2, ())) (OM.fin laws_szEntryS.g Try.f84.results.toList) := by kernel_rfl
theorem laws_szEntryS.hf (k : Nat) (a0 : (List Entry)) (a1 : Int) : (laws_szEntryS.f k a0 a1 : Option (denR (outTys laws_szEntryS.g.rts laws_szEntryS.g.pms))) = evC (laws_szEntryS.E k) (fun κ s => lhOf k κ s laws_szEntryS.pts) b84 (OM.start laws_szEntryS.g.pms 0 (a0, a1, ())) (OM.fin laws_szEntryS.g Try.f84.results.toList) := by kernel_rfl
theorem laws_szEntryS.ok (k : Nat) : SmOk Try.prog (laws_szEntryS.sm k) :=
  sm_ok mixed (E := laws_szEntryS.E) (pts := laws_szEntryS.pts) (fun k => ⟨⟨tysOk, by kernel_rfl⟩, forall_cons ⟨laws_szEntry.ok k, e126⟩ (forall_nil)⟩) (fun _ => rfl) (fun _ => rfl)
    ⟨Try.func84, by kernel_rfl, by kernel_rfl, by kernel_rfl, by kernel_rfl, by kernel_rfl, by kernel_rfl⟩ (forall_cons (fun x => ⟨rfl, fun k => laws_szEntryS.h11 k x.1 x.2.1 x.2.2.1⟩) (forall_nil)) (fun k x => laws_szEntryS.hf k x.1 x.2.1) k
noncomputable def b56 : Code := Try.f56.body.getD .skip
theorem e56 : OM.Entry Try.prog 56 := ⟨_, Try.func56, by kernel_rfl, by kernel_rfl⟩
@[reducible] noncomputable def laws_szStore.g : Sig := ⟨[.fz tStore, .fz (.int .i64)], [.v (.int .i64) .z], []⟩
@[reducible] noncomputable def laws_szStore.fk : Nat → denI laws_szStore.g.pms → Option (denR (outTys laws_szStore.g.rts laws_szStore.g.pms)) := fun k x => laws_szStore.f k x.1 x.2.1
@[reducible] noncomputable def laws_szStore.sm (k : Nat) : Sm := ⟨56, laws_szStore.g.pms, laws_szStore.g.rts, laws_szStore.fk k⟩
noncomputable def laws_szStore.E (k : Nat) : Env := ⟨tys, [laws_szEntryS.sm k], [], [], []⟩
noncomputable def laws_szStore.pts : List (Pt (denR (outTys laws_szStore.g.rts laws_szStore.g.pms))) := []
theorem laws_szStore.hf (k : Nat) (a0 : Store) (a1 : Int) : (laws_szStore.f k a0 a1 : Option (denR (outTys laws_szStore.g.rts laws_szStore.g.pms))) = evC (laws_szStore.E k) (fun κ s => lhOf k κ s laws_szStore.pts) b56 (OM.start laws_szStore.g.pms 0 (a0, a1, ())) (OM.fin laws_szStore.g Try.f56.results.toList) := by kernel_rfl
theorem laws_szStore.ok (k : Nat) : SmOk Try.prog (laws_szStore.sm k) :=
  sm_ok mixed (E := laws_szStore.E) (pts := laws_szStore.pts) (fun k => ⟨⟨tysOk, by kernel_rfl⟩, forall_cons ⟨laws_szEntryS.ok k, e84⟩ (forall_nil)⟩) (fun _ => rfl) (fun _ => rfl)
    ⟨Try.func56, by kernel_rfl, by kernel_rfl, by kernel_rfl, by kernel_rfl, by kernel_rfl, by kernel_rfl⟩ (forall_nil) (fun k x => laws_szStore.hf k x.1 x.2.1) k
noncomputable def b9 : Code := Try.f9.body.getD .skip
theorem e9 : OM.Entry Try.prog 9 := ⟨_, Try.func9, by kernel_rfl, by kernel_rfl⟩
@[reducible] noncomputable def laws_szStoreS.g : Sig := ⟨[.fz (.sl tStore), .fz (.int .i64)], [.v (.int .i64) .z], []⟩
@[reducible] noncomputable def laws_szStoreS.fk : Nat → denI laws_szStoreS.g.pms → Option (denR (outTys laws_szStoreS.g.rts laws_szStoreS.g.pms)) := fun k x => laws_szStoreS.f k x.1 x.2.1
@[reducible] noncomputable def laws_szStoreS.sm (k : Nat) : Sm := ⟨9, laws_szStoreS.g.pms, laws_szStoreS.g.rts, laws_szStoreS.fk k⟩
noncomputable def laws_szStoreS.E (k : Nat) : Env := ⟨tys, [laws_szStore.sm k], [], [], []⟩
@[reducible] noncomputable def laws_szStoreS.s11 : List Slot := [.v 0 (.sl tStore) .z [] 0, .v 4 (.int .i64) .z [] 0, .v 20 (.int .i64) .z [] 0]
noncomputable def laws_szStoreS.pts : List (Pt (denR (outTys laws_szStoreS.g.rts laws_szStoreS.g.pms))) := [⟨11, laws_szStoreS.s11, fun k x => laws_szStoreS.p11 k x.1 x.2.1 x.2.2.1⟩]
theorem laws_szStoreS.h11 (k : Nat) (x0 : (List Store)) (x1 : Int) (x2 : Int) : (laws_szStoreS.p11 (k + 1) x0 x1 x2 : Option (denR (outTys laws_szStoreS.g.rts laws_szStoreS.g.pms))) = evAt (laws_szStoreS.E k) (fun κ s => lhOf k κ s laws_szStoreS.pts) 11 b9 (unproj laws_szStoreS.s11 (x0, x1, x2, ())) (OM.fin laws_szStoreS.g Try.f9.results.toList) := by kernel_rfl
theorem laws_szStoreS.hf (k : Nat) (a0 : (List Store)) (a1 : Int) : (laws_szStoreS.f k a0 a1 : Option (denR (outTys laws_szStoreS.g.rts laws_szStoreS.g.pms))) = evC (laws_szStoreS.E k) (fun κ s => lhOf k κ s laws_szStoreS.pts) b9 (OM.start laws_szStoreS.g.pms 0 (a0, a1, ())) (OM.fin laws_szStoreS.g Try.f9.results.toList) := by kernel_rfl
theorem laws_szStoreS.ok (k : Nat) : SmOk Try.prog (laws_szStoreS.sm k) :=
  sm_ok mixed (E := laws_szStoreS.E) (pts := laws_szStoreS.pts) (fun k => ⟨⟨tysOk, by kernel_rfl⟩, forall_cons ⟨laws_szStore.ok k, e56⟩ (forall_nil)⟩) (fun _ => rfl) (fun _ => rfl)
    ⟨Try.func9, by kernel_rfl, by kernel_rfl, by kernel_rfl, by kernel_rfl, by kernel_rfl, by kernel_rfl⟩ (forall_cons (fun x => ⟨rfl, fun k => laws_szStoreS.h11 k x.1 x.2.1 x.2.2.1⟩) (forall_nil)) (fun k x => laws_szStoreS.hf k x.1 x.2.1) k
noncomputable def b34 : Code := Try.f34.body.getD .skip
theorem e34 : OM.Entry Try.prog 34 := ⟨_, Try.func34, by kernel_rfl, by kernel_rfl⟩
@[reducible] noncomputable def laws_toIntS.g : Sig := ⟨[.fz (.sl (.int .i64))], [.v (.sl (.int .i64)) (.own .z)], []⟩
@[reducible] noncomputable def laws_toIntS.fk : Nat → denI laws_toIntS.g.pms → Option (denR (outTys laws_toIntS.g.rts laws_toIntS.g.pms)) := fun k x => laws_toIntS.f k x.1
@[reducible] noncomputable def laws_toIntS.sm (k : Nat) : Sm := ⟨34, laws_toIntS.g.pms, laws_toIntS.g.rts, laws_toIntS.fk k⟩
noncomputable def laws_toIntS.E (k : Nat) : Env := ⟨tys, [], [19], [], []⟩
@[reducible] noncomputable def laws_toIntS.s7 : List Slot := [.v 0 (.sl (.int .i64)) .z [] 0, .v 12 (.sl (.int .i64)) (.own .z) [] 0, .v 16 (.int .i64) .z [] 0]
noncomputable def laws_toIntS.pts : List (Pt (denR (outTys laws_toIntS.g.rts laws_toIntS.g.pms))) := [⟨7, laws_toIntS.s7, fun k x => laws_toIntS.p7 k x.1 x.2.1 x.2.2.1⟩]
theorem laws_toIntS.h7 (k : Nat) (x0 : (List Int)) (x1 : (List Int)) (x2 : Int) : (laws_toIntS.p7 (k + 1) x0 x1 x2 : Option (denR (outTys laws_toIntS.g.rts laws_toIntS.g.pms))) = evAt (laws_toIntS.E k) (fun κ s => lhOf k κ s laws_toIntS.pts) 7 b34 (unproj laws_toIntS.s7 (x0, x1, x2, ())) (OM.fin laws_toIntS.g Try.f34.results.toList) := by kernel_rfl
theorem laws_toIntS.hf (k : Nat) (a0 : (List Int)) : (laws_toIntS.f k a0 : Option (denR (outTys laws_toIntS.g.rts laws_toIntS.g.pms))) = evC (laws_toIntS.E k) (fun κ s => lhOf k κ s laws_toIntS.pts) b34 (OM.start laws_toIntS.g.pms 0 (a0, ())) (OM.fin laws_toIntS.g Try.f34.results.toList) := by kernel_rfl
theorem laws_toIntS.ok (k : Nat) : SmOk Try.prog (laws_toIntS.sm k) :=
  sm_ok mixed (E := laws_toIntS.E) (pts := laws_toIntS.pts) (fun k => ⟨⟨tysOk, by kernel_rfl⟩, forall_nil⟩) (fun _ => rfl) (fun _ => rfl)
    ⟨Try.func34, by kernel_rfl, by kernel_rfl, by kernel_rfl, by kernel_rfl, by kernel_rfl, by kernel_rfl⟩ (forall_cons (fun x => ⟨rfl, fun k => laws_toIntS.h7 k x.1 x.2.1 x.2.2.1⟩) (forall_nil)) (fun k x => laws_toIntS.hf k x.1) k
noncomputable def b33 : Code := Try.f33.body.getD .skip
theorem e33 : OM.Entry Try.prog 33 := ⟨_, Try.func33, by kernel_rfl, by kernel_rfl⟩
@[reducible] noncomputable def laws_toConfig.g : Sig := ⟨[.fz tConfig], [.v tConfig (.two (.own .z) .z)], []⟩
@[reducible] noncomputable def laws_toConfig.fk : Nat → denI laws_toConfig.g.pms → Option (denR (outTys laws_toConfig.g.rts laws_toConfig.g.pms)) := fun k x => laws_toConfig.f k x.1
@[reducible] noncomputable def laws_toConfig.sm (k : Nat) : Sm := ⟨33, laws_toConfig.g.pms, laws_toConfig.g.rts, laws_toConfig.fk k⟩
noncomputable def laws_toConfig.E (k : Nat) : Env := ⟨tys, [laws_toIntS.sm k], [9], [], []⟩
noncomputable def laws_toConfig.pts : List (Pt (denR (outTys laws_toConfig.g.rts laws_toConfig.g.pms))) := []
theorem laws_toConfig.hf (k : Nat) (a0 : Config) : (laws_toConfig.f k a0 : Option (denR (outTys laws_toConfig.g.rts laws_toConfig.g.pms))) = evC (laws_toConfig.E k) (fun κ s => lhOf k κ s laws_toConfig.pts) b33 (OM.start laws_toConfig.g.pms 0 (a0, ())) (OM.fin laws_toConfig.g Try.f33.results.toList) := by kernel_rfl
theorem laws_toConfig.ok (k : Nat) : SmOk Try.prog (laws_toConfig.sm k) :=
  sm_ok mixed (E := laws_toConfig.E) (pts := laws_toConfig.pts) (fun k => ⟨⟨tysOk, by kernel_rfl⟩, forall_cons ⟨laws_toIntS.ok k, e34⟩ (forall_nil)⟩) (fun _ => rfl) (fun _ => rfl)
    ⟨Try.func33, by kernel_rfl, by kernel_rfl, by kernel_rfl, by kernel_rfl, by kernel_rfl, by kernel_rfl⟩ (forall_nil) (fun k x => laws_toConfig.hf k x.1) k
noncomputable def b128 : Code := Try.f128.body.getD .skip
theorem e128 : OM.Entry Try.prog 128 := ⟨_, Try.func128, by kernel_rfl, by kernel_rfl⟩
@[reducible] noncomputable def laws_toEntry.g : Sig := ⟨[.fz tEntry], [.v tEntry .z], []⟩
@[reducible] noncomputable def laws_toEntry.fk : Nat → denI laws_toEntry.g.pms → Option (denR (outTys laws_toEntry.g.rts laws_toEntry.g.pms)) := fun k x => laws_toEntry.f x.1
@[reducible] noncomputable def laws_toEntry.sm (k : Nat) : Sm := ⟨128, laws_toEntry.g.pms, laws_toEntry.g.rts, laws_toEntry.fk k⟩
noncomputable def laws_toEntry.E (k : Nat) : Env := ⟨tys, [], [14], [], []⟩
noncomputable def laws_toEntry.pts : List (Pt (denR (outTys laws_toEntry.g.rts laws_toEntry.g.pms))) := []
theorem laws_toEntry.hf (k : Nat) (a0 : Entry) : (laws_toEntry.f a0 : Option (denR (outTys laws_toEntry.g.rts laws_toEntry.g.pms))) = evC (laws_toEntry.E k) (fun κ s => lhOf k κ s laws_toEntry.pts) b128 (OM.start laws_toEntry.g.pms 0 (a0, ())) (OM.fin laws_toEntry.g Try.f128.results.toList) := by kernel_rfl
theorem laws_toEntry.ok (k : Nat) : SmOk Try.prog (laws_toEntry.sm k) :=
  sm_ok mixed (E := laws_toEntry.E) (pts := laws_toEntry.pts) (fun k => ⟨⟨tysOk, by kernel_rfl⟩, forall_nil⟩) (fun _ => rfl) (fun _ => rfl)
    ⟨Try.func128, by kernel_rfl, by kernel_rfl, by kernel_rfl, by kernel_rfl, by kernel_rfl, by kernel_rfl⟩ (forall_nil) (fun k x => laws_toEntry.hf k x.1) k
noncomputable def b88 : Code := Try.f88.body.getD .skip
theorem e88 : OM.Entry Try.prog 88 := ⟨_, Try.func88, by kernel_rfl, by kernel_rfl⟩
@[reducible] noncomputable def laws_toEntryS.g : Sig := ⟨[.fz (.sl tEntry)], [.v (.sl tEntry) (.own .z)], []⟩
@[reducible] noncomputable def laws_toEntryS.fk : Nat → denI laws_toEntryS.g.pms → Option (denR (outTys laws_toEntryS.g.rts laws_toEntryS.g.pms)) := fun k x => laws_toEntryS.f k x.1
@[reducible] noncomputable def laws_toEntryS.sm (k : Nat) : Sm := ⟨88, laws_toEntryS.g.pms, laws_toEntryS.g.rts, laws_toEntryS.fk k⟩
noncomputable def laws_toEntryS.E (k : Nat) : Env := ⟨tys, [laws_toEntry.sm k], [], [], []⟩
@[reducible] noncomputable def laws_toEntryS.s7 : List Slot := [.v 0 (.sl tEntry) .z [] 0, .v 12 (.sl tEntry) (.own .z) [] 0, .v 16 (.int .i64) .z [] 0]
noncomputable def laws_toEntryS.pts : List (Pt (denR (outTys laws_toEntryS.g.rts laws_toEntryS.g.pms))) := [⟨7, laws_toEntryS.s7, fun k x => laws_toEntryS.p7 k x.1 x.2.1 x.2.2.1⟩]
theorem laws_toEntryS.h7 (k : Nat) (x0 : (List Entry)) (x1 : (List Entry)) (x2 : Int) : (laws_toEntryS.p7 (k + 1) x0 x1 x2 : Option (denR (outTys laws_toEntryS.g.rts laws_toEntryS.g.pms))) = evAt (laws_toEntryS.E k) (fun κ s => lhOf k κ s laws_toEntryS.pts) 7 b88 (unproj laws_toEntryS.s7 (x0, x1, x2, ())) (OM.fin laws_toEntryS.g Try.f88.results.toList) := by kernel_rfl
theorem laws_toEntryS.hf (k : Nat) (a0 : (List Entry)) : (laws_toEntryS.f k a0 : Option (denR (outTys laws_toEntryS.g.rts laws_toEntryS.g.pms))) = evC (laws_toEntryS.E k) (fun κ s => lhOf k κ s laws_toEntryS.pts) b88 (OM.start laws_toEntryS.g.pms 0 (a0, ())) (OM.fin laws_toEntryS.g Try.f88.results.toList) := by kernel_rfl
theorem laws_toEntryS.ok (k : Nat) : SmOk Try.prog (laws_toEntryS.sm k) :=
  sm_ok mixed (E := laws_toEntryS.E) (pts := laws_toEntryS.pts) (fun k => ⟨⟨tysOk, by kernel_rfl⟩, forall_cons ⟨laws_toEntry.ok k, e128⟩ (forall_nil)⟩) (fun _ => rfl) (fun _ => rfl)
    ⟨Try.func88, by kernel_rfl, by kernel_rfl, by kernel_rfl, by kernel_rfl, by kernel_rfl, by kernel_rfl⟩ (forall_cons (fun x => ⟨rfl, fun k => laws_toEntryS.h7 k x.1 x.2.1 x.2.2.1⟩) (forall_nil)) (fun k x => laws_toEntryS.hf k x.1) k
noncomputable def b58 : Code := Try.f58.body.getD .skip
theorem e58 : OM.Entry Try.prog 58 := ⟨_, Try.func58, by kernel_rfl, by kernel_rfl⟩
@[reducible] noncomputable def laws_toStore.g : Sig := ⟨[.fz tStore], [.v tStore (.two (.own .z) (.two (.own .z) .z))], []⟩
@[reducible] noncomputable def laws_toStore.fk : Nat → denI laws_toStore.g.pms → Option (denR (outTys laws_toStore.g.rts laws_toStore.g.pms)) := fun k x => laws_toStore.f k x.1
@[reducible] noncomputable def laws_toStore.sm (k : Nat) : Sm := ⟨58, laws_toStore.g.pms, laws_toStore.g.rts, laws_toStore.fk k⟩
noncomputable def laws_toStore.E (k : Nat) : Env := ⟨tys, [laws_toEntryS.sm k], [13], [], []⟩
noncomputable def laws_toStore.pts : List (Pt (denR (outTys laws_toStore.g.rts laws_toStore.g.pms))) := []
theorem laws_toStore.hf (k : Nat) (a0 : Store) : (laws_toStore.f k a0 : Option (denR (outTys laws_toStore.g.rts laws_toStore.g.pms))) = evC (laws_toStore.E k) (fun κ s => lhOf k κ s laws_toStore.pts) b58 (OM.start laws_toStore.g.pms 0 (a0, ())) (OM.fin laws_toStore.g Try.f58.results.toList) := by kernel_rfl
theorem laws_toStore.ok (k : Nat) : SmOk Try.prog (laws_toStore.sm k) :=
  sm_ok mixed (E := laws_toStore.E) (pts := laws_toStore.pts) (fun k => ⟨⟨tysOk, by kernel_rfl⟩, forall_cons ⟨laws_toEntryS.ok k, e88⟩ (forall_nil)⟩) (fun _ => rfl) (fun _ => rfl)
    ⟨Try.func58, by kernel_rfl, by kernel_rfl, by kernel_rfl, by kernel_rfl, by kernel_rfl, by kernel_rfl⟩ (forall_nil) (fun k x => laws_toStore.hf k x.1) k
noncomputable def b11 : Code := Try.f11.body.getD .skip
theorem e11 : OM.Entry Try.prog 11 := ⟨_, Try.func11, by kernel_rfl, by kernel_rfl⟩
@[reducible] noncomputable def laws_toStoreS.g : Sig := ⟨[.fz (.sl tStore)], [.v (.sl tStore) (.own (.two (.own .z) (.two (.own .z) .z)))], []⟩
@[reducible] noncomputable def laws_toStoreS.fk : Nat → denI laws_toStoreS.g.pms → Option (denR (outTys laws_toStoreS.g.rts laws_toStoreS.g.pms)) := fun k x => laws_toStoreS.f k x.1
@[reducible] noncomputable def laws_toStoreS.sm (k : Nat) : Sm := ⟨11, laws_toStoreS.g.pms, laws_toStoreS.g.rts, laws_toStoreS.fk k⟩
noncomputable def laws_toStoreS.E (k : Nat) : Env := ⟨tys, [laws_toStore.sm k], [], [], []⟩
@[reducible] noncomputable def laws_toStoreS.s7 : List Slot := [.v 0 (.sl tStore) .z [] 0, .v 12 (.sl tStore) (.own (.two (.own .z) (.two (.own .z) .z))) [] 0, .v 16 (.int .i64) .z [] 0]
noncomputable def laws_toStoreS.pts : List (Pt (denR (outTys laws_toStoreS.g.rts laws_toStoreS.g.pms))) := [⟨7, laws_toStoreS.s7, fun k x => laws_toStoreS.p7 k x.1 x.2.1 x.2.2.1⟩]
theorem laws_toStoreS.h7 (k : Nat) (x0 : (List Store)) (x1 : (List Store)) (x2 : Int) : (laws_toStoreS.p7 (k + 1) x0 x1 x2 : Option (denR (outTys laws_toStoreS.g.rts laws_toStoreS.g.pms))) = evAt (laws_toStoreS.E k) (fun κ s => lhOf k κ s laws_toStoreS.pts) 7 b11 (unproj laws_toStoreS.s7 (x0, x1, x2, ())) (OM.fin laws_toStoreS.g Try.f11.results.toList) := by kernel_rfl
theorem laws_toStoreS.hf (k : Nat) (a0 : (List Store)) : (laws_toStoreS.f k a0 : Option (denR (outTys laws_toStoreS.g.rts laws_toStoreS.g.pms))) = evC (laws_toStoreS.E k) (fun κ s => lhOf k κ s laws_toStoreS.pts) b11 (OM.start laws_toStoreS.g.pms 0 (a0, ())) (OM.fin laws_toStoreS.g Try.f11.results.toList) := by kernel_rfl
theorem laws_toStoreS.ok (k : Nat) : SmOk Try.prog (laws_toStoreS.sm k) :=
  sm_ok mixed (E := laws_toStoreS.E) (pts := laws_toStoreS.pts) (fun k => ⟨⟨tysOk, by kernel_rfl⟩, forall_cons ⟨laws_toStore.ok k, e58⟩ (forall_nil)⟩) (fun _ => rfl) (fun _ => rfl)
    ⟨Try.func11, by kernel_rfl, by kernel_rfl, by kernel_rfl, by kernel_rfl, by kernel_rfl, by kernel_rfl⟩ (forall_cons (fun x => ⟨rfl, fun k => laws_toStoreS.h7 k x.1 x.2.1 x.2.2.1⟩) (forall_nil)) (fun k x => laws_toStoreS.hf k x.1) k
noncomputable def b67 : Code := Try.f67.body.getD .skip
theorem e67 : OM.Entry Try.prog 67 := ⟨_, Try.func67, by kernel_rfl, by kernel_rfl⟩
@[reducible] noncomputable def spec_l1In.g : Sig := ⟨[.fz (.int .i64), .fz (.int .i64), .fz (.int .i64)], [.v .bool .z], []⟩
@[reducible] noncomputable def spec_l1In.fk : Nat → denI spec_l1In.g.pms → Option (denR (outTys spec_l1In.g.rts spec_l1In.g.pms)) := fun k x => spec_l1In.f x.1 x.2.1 x.2.2.1
@[reducible] noncomputable def spec_l1In.sm (k : Nat) : Sm := ⟨67, spec_l1In.g.pms, spec_l1In.g.rts, spec_l1In.fk k⟩
noncomputable def spec_l1In.E (k : Nat) : Env := ⟨tys, [], [], [], []⟩
noncomputable def spec_l1In.pts : List (Pt (denR (outTys spec_l1In.g.rts spec_l1In.g.pms))) := []
theorem spec_l1In.hf (k : Nat) (a0 : Int) (a1 : Int) (a2 : Int) : (spec_l1In.f a0 a1 a2 : Option (denR (outTys spec_l1In.g.rts spec_l1In.g.pms))) = evC (spec_l1In.E k) (fun κ s => lhOf k κ s spec_l1In.pts) b67 (OM.start spec_l1In.g.pms 0 (a0, a1, a2, ())) (OM.fin spec_l1In.g Try.f67.results.toList) := by kernel_rfl
theorem spec_l1In.ok (k : Nat) : SmOk Try.prog (spec_l1In.sm k) :=
  sm_ok mixed (E := spec_l1In.E) (pts := spec_l1In.pts) (fun k => ⟨⟨tysOk, by kernel_rfl⟩, forall_nil⟩) (fun _ => rfl) (fun _ => rfl)
    ⟨Try.func67, by kernel_rfl, by kernel_rfl, by kernel_rfl, by kernel_rfl, by kernel_rfl, by kernel_rfl⟩ (forall_nil) (fun k x => spec_l1In.hf k x.1 x.2.1 x.2.2.1) k
noncomputable def b74 : Code := Try.f74.body.getD .skip
theorem e74 : OM.Entry Try.prog 74 := ⟨_, Try.func74, by kernel_rfl, by kernel_rfl⟩
@[reducible] noncomputable def spec_ConfigOk.g : Sig := ⟨[.fz tConfig], [.v .bool .z], []⟩
@[reducible] noncomputable def spec_ConfigOk.fk : Nat → denI spec_ConfigOk.g.pms → Option (denR (outTys spec_ConfigOk.g.rts spec_ConfigOk.g.pms)) := fun k x => spec_ConfigOk.f k x.1
@[reducible] noncomputable def spec_ConfigOk.sm (k : Nat) : Sm := ⟨74, spec_ConfigOk.g.pms, spec_ConfigOk.g.rts, spec_ConfigOk.fk k⟩
noncomputable def spec_ConfigOk.E (k : Nat) : Env := ⟨tys, [spec_l1In.sm k], [], [], []⟩
@[reducible] noncomputable def spec_ConfigOk.s9 : List Slot := [.r 4 5 [] tConfig, .v 12 (.int .i64) .z [] 0, .v 5 tConfig .z [] 0]
noncomputable def spec_ConfigOk.pts : List (Pt (denR (outTys spec_ConfigOk.g.rts spec_ConfigOk.g.pms))) := [⟨9, spec_ConfigOk.s9, fun k x => spec_ConfigOk.p9 k x.1 x.2.1⟩]
theorem spec_ConfigOk.h9 (k : Nat) (x0 : Int) (x1 : Config) : (spec_ConfigOk.p9 (k + 1) x0 x1 : Option (denR (outTys spec_ConfigOk.g.rts spec_ConfigOk.g.pms))) = evAt (spec_ConfigOk.E k) (fun κ s => lhOf k κ s spec_ConfigOk.pts) 9 b74 (unproj spec_ConfigOk.s9 (x0, x1, ())) (OM.fin spec_ConfigOk.g Try.f74.results.toList) := by kernel_rfl
theorem spec_ConfigOk.hf (k : Nat) (a0 : Config) : (spec_ConfigOk.f k a0 : Option (denR (outTys spec_ConfigOk.g.rts spec_ConfigOk.g.pms))) = evC (spec_ConfigOk.E k) (fun κ s => lhOf k κ s spec_ConfigOk.pts) b74 (OM.start spec_ConfigOk.g.pms 0 (a0, ())) (OM.fin spec_ConfigOk.g Try.f74.results.toList) := by kernel_rfl
theorem spec_ConfigOk.ok (k : Nat) : SmOk Try.prog (spec_ConfigOk.sm k) :=
  sm_ok mixed (E := spec_ConfigOk.E) (pts := spec_ConfigOk.pts) (fun k => ⟨⟨tysOk, by kernel_rfl⟩, forall_cons ⟨spec_l1In.ok k, e67⟩ (forall_nil)⟩) (fun _ => rfl) (fun _ => rfl)
    ⟨Try.func74, by kernel_rfl, by kernel_rfl, by kernel_rfl, by kernel_rfl, by kernel_rfl, by kernel_rfl⟩ (forall_cons (fun x => ⟨rfl, fun k => spec_ConfigOk.h9 k x.1 x.2.1⟩) (forall_nil)) (fun k x => spec_ConfigOk.hf k x.1) k
noncomputable def b124 : Code := Try.f124.body.getD .skip
theorem e124 : OM.Entry Try.prog 124 := ⟨_, Try.func124, by kernel_rfl, by kernel_rfl⟩
@[reducible] noncomputable def spec_l4Asc.g : Sig := ⟨[.fz (.sl (.int .i64)), .fz (.int .i64), .fz (.int .i64)], [.v .bool .z], []⟩
@[reducible] noncomputable def spec_l4Asc.fk : Nat → denI spec_l4Asc.g.pms → Option (denR (outTys spec_l4Asc.g.rts spec_l4Asc.g.pms)) := fun k x => spec_l4Asc.f k x.1 x.2.1 x.2.2.1
@[reducible] noncomputable def spec_l4Asc.sm (k : Nat) : Sm := ⟨124, spec_l4Asc.g.pms, spec_l4Asc.g.rts, spec_l4Asc.fk k⟩
noncomputable def spec_l4Asc.E (k : Nat) : Env := ⟨tys, [spec_l1In.sm k], [], [], []⟩
@[reducible] noncomputable def spec_l4Asc.s5 : List Slot := [.v 0 (.sl (.int .i64)) .z [] 0, .v 4 (.int .i64) .z [] 0, .v 8 (.int .i64) .z [] 0, .v 28 (.int .i64) .z [] 0]
noncomputable def spec_l4Asc.pts : List (Pt (denR (outTys spec_l4Asc.g.rts spec_l4Asc.g.pms))) := [⟨5, spec_l4Asc.s5, fun k x => spec_l4Asc.p5 k x.1 x.2.1 x.2.2.1 x.2.2.2.1⟩]
theorem spec_l4Asc.h5 (k : Nat) (x0 : (List Int)) (x1 : Int) (x2 : Int) (x3 : Int) : (spec_l4Asc.p5 (k + 1) x0 x1 x2 x3 : Option (denR (outTys spec_l4Asc.g.rts spec_l4Asc.g.pms))) = evAt (spec_l4Asc.E k) (fun κ s => lhOf k κ s spec_l4Asc.pts) 5 b124 (unproj spec_l4Asc.s5 (x0, x1, x2, x3, ())) (OM.fin spec_l4Asc.g Try.f124.results.toList) := by kernel_rfl
theorem spec_l4Asc.hf (k : Nat) (a0 : (List Int)) (a1 : Int) (a2 : Int) : (spec_l4Asc.f k a0 a1 a2 : Option (denR (outTys spec_l4Asc.g.rts spec_l4Asc.g.pms))) = evC (spec_l4Asc.E k) (fun κ s => lhOf k κ s spec_l4Asc.pts) b124 (OM.start spec_l4Asc.g.pms 0 (a0, a1, a2, ())) (OM.fin spec_l4Asc.g Try.f124.results.toList) := by kernel_rfl
theorem spec_l4Asc.ok (k : Nat) : SmOk Try.prog (spec_l4Asc.sm k) :=
  sm_ok mixed (E := spec_l4Asc.E) (pts := spec_l4Asc.pts) (fun k => ⟨⟨tysOk, by kernel_rfl⟩, forall_cons ⟨spec_l1In.ok k, e67⟩ (forall_nil)⟩) (fun _ => rfl) (fun _ => rfl)
    ⟨Try.func124, by kernel_rfl, by kernel_rfl, by kernel_rfl, by kernel_rfl, by kernel_rfl, by kernel_rfl⟩ (forall_cons (fun x => ⟨rfl, fun k => spec_l4Asc.h5 k x.1 x.2.1 x.2.2.1 x.2.2.2.1⟩) (forall_nil)) (fun k x => spec_l4Asc.hf k x.1 x.2.1 x.2.2.1) k
noncomputable def b77 : Code := Try.f77.body.getD .skip
theorem e77 : OM.Entry Try.prog 77 := ⟨_, Try.func77, by kernel_rfl, by kernel_rfl⟩
@[reducible] noncomputable def spec_NodesOk.g : Sig := ⟨[.fz tConfig, .fz (.sl (.int .i64))], [.v .bool .z], []⟩
@[reducible] noncomputable def spec_NodesOk.fk : Nat → denI spec_NodesOk.g.pms → Option (denR (outTys spec_NodesOk.g.rts spec_NodesOk.g.pms)) := fun k x => spec_NodesOk.f k x.1 x.2.1
@[reducible] noncomputable def spec_NodesOk.sm (k : Nat) : Sm := ⟨77, spec_NodesOk.g.pms, spec_NodesOk.g.rts, spec_NodesOk.fk k⟩
noncomputable def spec_NodesOk.E (k : Nat) : Env := ⟨tys, [spec_ConfigOk.sm k, spec_l4Asc.sm k], [], [], []⟩
noncomputable def spec_NodesOk.pts : List (Pt (denR (outTys spec_NodesOk.g.rts spec_NodesOk.g.pms))) := []
theorem spec_NodesOk.hf (k : Nat) (a0 : Config) (a1 : (List Int)) : (spec_NodesOk.f k a0 a1 : Option (denR (outTys spec_NodesOk.g.rts spec_NodesOk.g.pms))) = evC (spec_NodesOk.E k) (fun κ s => lhOf k κ s spec_NodesOk.pts) b77 (OM.start spec_NodesOk.g.pms 0 (a0, a1, ())) (OM.fin spec_NodesOk.g Try.f77.results.toList) := by kernel_rfl
theorem spec_NodesOk.ok (k : Nat) : SmOk Try.prog (spec_NodesOk.sm k) :=
  sm_ok mixed (E := spec_NodesOk.E) (pts := spec_NodesOk.pts) (fun k => ⟨⟨tysOk, by kernel_rfl⟩, forall_cons ⟨spec_ConfigOk.ok k, e74⟩ (forall_cons ⟨spec_l4Asc.ok k, e124⟩ (forall_nil))⟩) (fun _ => rfl) (fun _ => rfl)
    ⟨Try.func77, by kernel_rfl, by kernel_rfl, by kernel_rfl, by kernel_rfl, by kernel_rfl, by kernel_rfl⟩ (forall_nil) (fun k x => spec_NodesOk.hf k x.1 x.2.1) k
noncomputable def b125 : Code := Try.f125.body.getD .skip
theorem e125 : OM.Entry Try.prog 125 := ⟨_, Try.func125, by kernel_rfl, by kernel_rfl⟩
@[reducible] noncomputable def spec_l4Span.g : Sig := ⟨[.fz tConfig, .fz (.sl (.int .i64))], [.v (.int .i64) .z], []⟩
@[reducible] noncomputable def spec_l4Span.fk : Nat → denI spec_l4Span.g.pms → Option (denR (outTys spec_l4Span.g.rts spec_l4Span.g.pms)) := fun k x => spec_l4Span.f k x.1 x.2.1
@[reducible] noncomputable def spec_l4Span.sm (k : Nat) : Sm := ⟨125, spec_l4Span.g.pms, spec_l4Span.g.rts, spec_l4Span.fk k⟩
noncomputable def spec_l4Span.E (k : Nat) : Env := ⟨tys, [], [23], [], []⟩
@[reducible] noncomputable def spec_l4Span.s9 : List Slot := [.v 4 (.sl (.int .i64)) .z [] 0, .r 8 9 [] tConfig, .v 20 (.sl .bool) (.own .z) [] 0, .v 24 (.int .i64) .z [] 0, .v 28 (.int .i64) .z [] 0, .v 9 tConfig .z [] 0]
noncomputable def spec_l4Span.pts : List (Pt (denR (outTys spec_l4Span.g.rts spec_l4Span.g.pms))) := [⟨9, spec_l4Span.s9, fun k x => spec_l4Span.p9 k x.1 x.2.1 x.2.2.1 x.2.2.2.1 x.2.2.2.2.1⟩]
theorem spec_l4Span.h9 (k : Nat) (x0 : (List Int)) (x1 : (List Bool)) (x2 : Int) (x3 : Int) (x4 : Config) : (spec_l4Span.p9 (k + 1) x0 x1 x2 x3 x4 : Option (denR (outTys spec_l4Span.g.rts spec_l4Span.g.pms))) = evAt (spec_l4Span.E k) (fun κ s => lhOf k κ s spec_l4Span.pts) 9 b125 (unproj spec_l4Span.s9 (x0, x1, x2, x3, x4, ())) (OM.fin spec_l4Span.g Try.f125.results.toList) := by kernel_rfl
theorem spec_l4Span.hf (k : Nat) (a0 : Config) (a1 : (List Int)) : (spec_l4Span.f k a0 a1 : Option (denR (outTys spec_l4Span.g.rts spec_l4Span.g.pms))) = evC (spec_l4Span.E k) (fun κ s => lhOf k κ s spec_l4Span.pts) b125 (OM.start spec_l4Span.g.pms 0 (a0, a1, ())) (OM.fin spec_l4Span.g Try.f125.results.toList) := by kernel_rfl
theorem spec_l4Span.ok (k : Nat) : SmOk Try.prog (spec_l4Span.sm k) :=
  sm_ok mixed (E := spec_l4Span.E) (pts := spec_l4Span.pts) (fun k => ⟨⟨tysOk, by kernel_rfl⟩, forall_nil⟩) (fun _ => rfl) (fun _ => rfl)
    ⟨Try.func125, by kernel_rfl, by kernel_rfl, by kernel_rfl, by kernel_rfl, by kernel_rfl, by kernel_rfl⟩ (forall_cons (fun x => ⟨rfl, fun k => spec_l4Span.h9 k x.1 x.2.1 x.2.2.1 x.2.2.2.1 x.2.2.2.2.1⟩) (forall_nil)) (fun k x => spec_l4Span.hf k x.1 x.2.1) k
noncomputable def b78 : Code := Try.f78.body.getD .skip
theorem e78 : OM.Entry Try.prog 78 := ⟨_, Try.func78, by kernel_rfl, by kernel_rfl⟩
@[reducible] noncomputable def spec_Holds.g : Sig := ⟨[.fz tConfig, .fz (.sl (.int .i64))], [.v .bool .z], []⟩
@[reducible] noncomputable def spec_Holds.fk : Nat → denI spec_Holds.g.pms → Option (denR (outTys spec_Holds.g.rts spec_Holds.g.pms)) := fun k x => spec_Holds.f k x.1 x.2.1
@[reducible] noncomputable def spec_Holds.sm (k : Nat) : Sm := ⟨78, spec_Holds.g.pms, spec_Holds.g.rts, spec_Holds.fk k⟩
noncomputable def spec_Holds.E (k : Nat) : Env := ⟨tys, [spec_NodesOk.sm k, spec_l4Span.sm k], [], [], []⟩
noncomputable def spec_Holds.pts : List (Pt (denR (outTys spec_Holds.g.rts spec_Holds.g.pms))) := []
theorem spec_Holds.hf (k : Nat) (a0 : Config) (a1 : (List Int)) : (spec_Holds.f k a0 a1 : Option (denR (outTys spec_Holds.g.rts spec_Holds.g.pms))) = evC (spec_Holds.E k) (fun κ s => lhOf k κ s spec_Holds.pts) b78 (OM.start spec_Holds.g.pms 0 (a0, a1, ())) (OM.fin spec_Holds.g Try.f78.results.toList) := by kernel_rfl
theorem spec_Holds.ok (k : Nat) : SmOk Try.prog (spec_Holds.sm k) :=
  sm_ok mixed (E := spec_Holds.E) (pts := spec_Holds.pts) (fun k => ⟨⟨tysOk, by kernel_rfl⟩, forall_cons ⟨spec_NodesOk.ok k, e77⟩ (forall_cons ⟨spec_l4Span.ok k, e125⟩ (forall_nil))⟩) (fun _ => rfl) (fun _ => rfl)
    ⟨Try.func78, by kernel_rfl, by kernel_rfl, by kernel_rfl, by kernel_rfl, by kernel_rfl, by kernel_rfl⟩ (forall_nil) (fun k x => spec_Holds.hf k x.1 x.2.1) k
noncomputable def b28 : Code := Try.f28.body.getD .skip
theorem e28 : OM.Entry Try.prog 28 := ⟨_, Try.func28, by kernel_rfl, by kernel_rfl⟩
@[reducible] noncomputable def spec_LostOk.g : Sig := ⟨[.fz tConfig, .fz (.sl (.int .i64))], [.v .bool .z], []⟩
@[reducible] noncomputable def spec_LostOk.fk : Nat → denI spec_LostOk.g.pms → Option (denR (outTys spec_LostOk.g.rts spec_LostOk.g.pms)) := fun k x => spec_LostOk.f k x.1 x.2.1
@[reducible] noncomputable def spec_LostOk.sm (k : Nat) : Sm := ⟨28, spec_LostOk.g.pms, spec_LostOk.g.rts, spec_LostOk.fk k⟩
noncomputable def spec_LostOk.E (k : Nat) : Env := ⟨tys, [spec_NodesOk.sm k, spec_Holds.sm k], [], [], []⟩
noncomputable def spec_LostOk.pts : List (Pt (denR (outTys spec_LostOk.g.rts spec_LostOk.g.pms))) := []
theorem spec_LostOk.hf (k : Nat) (a0 : Config) (a1 : (List Int)) : (spec_LostOk.f k a0 a1 : Option (denR (outTys spec_LostOk.g.rts spec_LostOk.g.pms))) = evC (spec_LostOk.E k) (fun κ s => lhOf k κ s spec_LostOk.pts) b28 (OM.start spec_LostOk.g.pms 0 (a0, a1, ())) (OM.fin spec_LostOk.g Try.f28.results.toList) := by kernel_rfl
theorem spec_LostOk.ok (k : Nat) : SmOk Try.prog (spec_LostOk.sm k) :=
  sm_ok mixed (E := spec_LostOk.E) (pts := spec_LostOk.pts) (fun k => ⟨⟨tysOk, by kernel_rfl⟩, forall_cons ⟨spec_NodesOk.ok k, e77⟩ (forall_cons ⟨spec_Holds.ok k, e78⟩ (forall_nil))⟩) (fun _ => rfl) (fun _ => rfl)
    ⟨Try.func28, by kernel_rfl, by kernel_rfl, by kernel_rfl, by kernel_rfl, by kernel_rfl, by kernel_rfl⟩ (forall_nil) (fun k x => spec_LostOk.hf k x.1 x.2.1) k
noncomputable def b75 : Code := Try.f75.body.getD .skip
theorem e75 : OM.Entry Try.prog 75 := ⟨_, Try.func75, by kernel_rfl, by kernel_rfl⟩
@[reducible] noncomputable def spec_l4Has.g : Sig := ⟨[.fz (.sl (.int .i64)), .fz (.int .i64)], [.v .bool .z], []⟩
@[reducible] noncomputable def spec_l4Has.fk : Nat → denI spec_l4Has.g.pms → Option (denR (outTys spec_l4Has.g.rts spec_l4Has.g.pms)) := fun k x => spec_l4Has.f k x.1 x.2.1
@[reducible] noncomputable def spec_l4Has.sm (k : Nat) : Sm := ⟨75, spec_l4Has.g.pms, spec_l4Has.g.rts, spec_l4Has.fk k⟩
noncomputable def spec_l4Has.E (k : Nat) : Env := ⟨tys, [], [], [], []⟩
@[reducible] noncomputable def spec_l4Has.s5 : List Slot := [.v 0 (.sl (.int .i64)) .z [] 0, .v 4 (.int .i64) .z [] 0, .v 20 (.int .i64) .z [] 0]
noncomputable def spec_l4Has.pts : List (Pt (denR (outTys spec_l4Has.g.rts spec_l4Has.g.pms))) := [⟨5, spec_l4Has.s5, fun k x => spec_l4Has.p5 k x.1 x.2.1 x.2.2.1⟩]
theorem spec_l4Has.h5 (k : Nat) (x0 : (List Int)) (x1 : Int) (x2 : Int) : (spec_l4Has.p5 (k + 1) x0 x1 x2 : Option (denR (outTys spec_l4Has.g.rts spec_l4Has.g.pms))) = evAt (spec_l4Has.E k) (fun κ s => lhOf k κ s spec_l4Has.pts) 5 b75 (unproj spec_l4Has.s5 (x0, x1, x2, ())) (OM.fin spec_l4Has.g Try.f75.results.toList) := by kernel_rfl
theorem spec_l4Has.hf (k : Nat) (a0 : (List Int)) (a1 : Int) : (spec_l4Has.f k a0 a1 : Option (denR (outTys spec_l4Has.g.rts spec_l4Has.g.pms))) = evC (spec_l4Has.E k) (fun κ s => lhOf k κ s spec_l4Has.pts) b75 (OM.start spec_l4Has.g.pms 0 (a0, a1, ())) (OM.fin spec_l4Has.g Try.f75.results.toList) := by kernel_rfl
theorem spec_l4Has.ok (k : Nat) : SmOk Try.prog (spec_l4Has.sm k) :=
  sm_ok mixed (E := spec_l4Has.E) (pts := spec_l4Has.pts) (fun k => ⟨⟨tysOk, by kernel_rfl⟩, forall_nil⟩) (fun _ => rfl) (fun _ => rfl)
    ⟨Try.func75, by kernel_rfl, by kernel_rfl, by kernel_rfl, by kernel_rfl, by kernel_rfl, by kernel_rfl⟩ (forall_cons (fun x => ⟨rfl, fun k => spec_l4Has.h5 k x.1 x.2.1 x.2.2.1⟩) (forall_nil)) (fun k x => spec_l4Has.hf k x.1 x.2.1) k
noncomputable def b152 : Code := Try.f152.body.getD .skip
theorem e152 : OM.Entry Try.prog 152 := ⟨_, Try.func152, by kernel_rfl, by kernel_rfl⟩
@[reducible] noncomputable def spec_PlaceOk.g : Sig := ⟨[.fz (.int .i64)], [.v .bool .z], []⟩
@[reducible] noncomputable def spec_PlaceOk.fk : Nat → denI spec_PlaceOk.g.pms → Option (denR (outTys spec_PlaceOk.g.rts spec_PlaceOk.g.pms)) := fun k x => spec_PlaceOk.f x.1
@[reducible] noncomputable def spec_PlaceOk.sm (k : Nat) : Sm := ⟨152, spec_PlaceOk.g.pms, spec_PlaceOk.g.rts, spec_PlaceOk.fk k⟩
noncomputable def spec_PlaceOk.E (k : Nat) : Env := ⟨tys, [spec_l1In.sm k], [], [], []⟩
noncomputable def spec_PlaceOk.pts : List (Pt (denR (outTys spec_PlaceOk.g.rts spec_PlaceOk.g.pms))) := []
theorem spec_PlaceOk.hf (k : Nat) (a0 : Int) : (spec_PlaceOk.f a0 : Option (denR (outTys spec_PlaceOk.g.rts spec_PlaceOk.g.pms))) = evC (spec_PlaceOk.E k) (fun κ s => lhOf k κ s spec_PlaceOk.pts) b152 (OM.start spec_PlaceOk.g.pms 0 (a0, ())) (OM.fin spec_PlaceOk.g Try.f152.results.toList) := by kernel_rfl
theorem spec_PlaceOk.ok (k : Nat) : SmOk Try.prog (spec_PlaceOk.sm k) :=
  sm_ok mixed (E := spec_PlaceOk.E) (pts := spec_PlaceOk.pts) (fun k => ⟨⟨tysOk, by kernel_rfl⟩, forall_cons ⟨spec_l1In.ok k, e67⟩ (forall_nil)⟩) (fun _ => rfl) (fun _ => rfl)
    ⟨Try.func152, by kernel_rfl, by kernel_rfl, by kernel_rfl, by kernel_rfl, by kernel_rfl, by kernel_rfl⟩ (forall_nil) (fun k x => spec_PlaceOk.hf k x.1) k
noncomputable def b127 : Code := Try.f127.body.getD .skip
theorem e127 : OM.Entry Try.prog 127 := ⟨_, Try.func127, by kernel_rfl, by kernel_rfl⟩
@[reducible] noncomputable def spec_EpochOf.g : Sig := ⟨[.fz (.int .i64)], [.v (.int .i64) .z], []⟩
@[reducible] noncomputable def spec_EpochOf.fk : Nat → denI spec_EpochOf.g.pms → Option (denR (outTys spec_EpochOf.g.rts spec_EpochOf.g.pms)) := fun k x => spec_EpochOf.f x.1
@[reducible] noncomputable def spec_EpochOf.sm (k : Nat) : Sm := ⟨127, spec_EpochOf.g.pms, spec_EpochOf.g.rts, spec_EpochOf.fk k⟩
noncomputable def spec_EpochOf.E (k : Nat) : Env := ⟨tys, [spec_PlaceOk.sm k], [], [], []⟩
noncomputable def spec_EpochOf.pts : List (Pt (denR (outTys spec_EpochOf.g.rts spec_EpochOf.g.pms))) := []
theorem spec_EpochOf.hf (k : Nat) (a0 : Int) : (spec_EpochOf.f a0 : Option (denR (outTys spec_EpochOf.g.rts spec_EpochOf.g.pms))) = evC (spec_EpochOf.E k) (fun κ s => lhOf k κ s spec_EpochOf.pts) b127 (OM.start spec_EpochOf.g.pms 0 (a0, ())) (OM.fin spec_EpochOf.g Try.f127.results.toList) := by kernel_rfl
theorem spec_EpochOf.ok (k : Nat) : SmOk Try.prog (spec_EpochOf.sm k) :=
  sm_ok mixed (E := spec_EpochOf.E) (pts := spec_EpochOf.pts) (fun k => ⟨⟨tysOk, by kernel_rfl⟩, forall_cons ⟨spec_PlaceOk.ok k, e152⟩ (forall_nil)⟩) (fun _ => rfl) (fun _ => rfl)
    ⟨Try.func127, by kernel_rfl, by kernel_rfl, by kernel_rfl, by kernel_rfl, by kernel_rfl, by kernel_rfl⟩ (forall_nil) (fun k x => spec_EpochOf.hf k x.1) k
noncomputable def b119 : Code := Try.f119.body.getD .skip
theorem e119 : OM.Entry Try.prog 119 := ⟨_, Try.func119, by kernel_rfl, by kernel_rfl⟩
@[reducible] noncomputable def spec_EntryOk.g : Sig := ⟨[.fz tEntry], [.v .bool .z], []⟩
@[reducible] noncomputable def spec_EntryOk.fk : Nat → denI spec_EntryOk.g.pms → Option (denR (outTys spec_EntryOk.g.rts spec_EntryOk.g.pms)) := fun k x => spec_EntryOk.f k x.1
@[reducible] noncomputable def spec_EntryOk.sm (k : Nat) : Sm := ⟨119, spec_EntryOk.g.pms, spec_EntryOk.g.rts, spec_EntryOk.fk k⟩
noncomputable def spec_EntryOk.E (k : Nat) : Env := ⟨tys, [spec_l1In.sm k, spec_PlaceOk.sm k, spec_EpochOf.sm k], [], [3], []⟩
@[reducible] noncomputable def spec_EntryOk.s6 : List Slot := [.r 4 5 [] tEntry, .v 5 tEntry .z [] 0]
noncomputable def spec_EntryOk.pts : List (Pt (denR (outTys spec_EntryOk.g.rts spec_EntryOk.g.pms))) := [⟨6, spec_EntryOk.s6, fun k x => spec_EntryOk.p6 k x.1⟩]
theorem spec_EntryOk.h6 (k : Nat) (x0 : Entry) : (spec_EntryOk.p6 (k + 1) x0 : Option (denR (outTys spec_EntryOk.g.rts spec_EntryOk.g.pms))) = evAt (spec_EntryOk.E k) (fun κ s => lhOf k κ s spec_EntryOk.pts) 6 b119 (unproj spec_EntryOk.s6 (x0, ())) (OM.fin spec_EntryOk.g Try.f119.results.toList) := by kernel_rfl
theorem spec_EntryOk.hf (k : Nat) (a0 : Entry) : (spec_EntryOk.f k a0 : Option (denR (outTys spec_EntryOk.g.rts spec_EntryOk.g.pms))) = evC (spec_EntryOk.E k) (fun κ s => lhOf k κ s spec_EntryOk.pts) b119 (OM.start spec_EntryOk.g.pms 0 (a0, ())) (OM.fin spec_EntryOk.g Try.f119.results.toList) := by kernel_rfl
theorem spec_EntryOk.ok (k : Nat) : SmOk Try.prog (spec_EntryOk.sm k) :=
  sm_ok mixed (E := spec_EntryOk.E) (pts := spec_EntryOk.pts) (fun k => ⟨⟨tysOk, by kernel_rfl⟩, forall_cons ⟨spec_l1In.ok k, e67⟩ (forall_cons ⟨spec_PlaceOk.ok k, e152⟩ (forall_cons ⟨spec_EpochOf.ok k, e127⟩ (forall_nil)))⟩) (fun _ => rfl) (fun _ => rfl)
    ⟨Try.func119, by kernel_rfl, by kernel_rfl, by kernel_rfl, by kernel_rfl, by kernel_rfl, by kernel_rfl⟩ (forall_cons (fun x => ⟨rfl, fun k => spec_EntryOk.h6 k x.1⟩) (forall_nil)) (fun k x => spec_EntryOk.hf k x.1) k
noncomputable def b65 : Code := Try.f65.body.getD .skip
theorem e65 : OM.Entry Try.prog 65 := ⟨_, Try.func65, by kernel_rfl, by kernel_rfl⟩
@[reducible] noncomputable def spec_l6List.g : Sig := ⟨[.fz (.sl tEntry), .fz (.int .i64)], [.v .bool .z], []⟩
@[reducible] noncomputable def spec_l6List.fk : Nat → denI spec_l6List.g.pms → Option (denR (outTys spec_l6List.g.rts spec_l6List.g.pms)) := fun k x => spec_l6List.f k x.1 x.2.1
@[reducible] noncomputable def spec_l6List.sm (k : Nat) : Sm := ⟨65, spec_l6List.g.pms, spec_l6List.g.rts, spec_l6List.fk k⟩
noncomputable def spec_l6List.E (k : Nat) : Env := ⟨tys, [spec_EntryOk.sm k], [], [], []⟩
@[reducible] noncomputable def spec_l6List.s9 : List Slot := [.v 0 (.sl tEntry) .z [] 0, .v 20 (.int .i64) .z [] 0]
noncomputable def spec_l6List.pts : List (Pt (denR (outTys spec_l6List.g.rts spec_l6List.g.pms))) := [⟨9, spec_l6List.s9, fun k x => spec_l6List.p9 k x.1 x.2.1⟩]
theorem spec_l6List.h9 (k : Nat) (x0 : (List Entry)) (x1 : Int) : (spec_l6List.p9 (k + 1) x0 x1 : Option (denR (outTys spec_l6List.g.rts spec_l6List.g.pms))) = evAt (spec_l6List.E k) (fun κ s => lhOf k κ s spec_l6List.pts) 9 b65 (unproj spec_l6List.s9 (x0, x1, ())) (OM.fin spec_l6List.g Try.f65.results.toList) := by kernel_rfl
theorem spec_l6List.hf (k : Nat) (a0 : (List Entry)) (a1 : Int) : (spec_l6List.f k a0 a1 : Option (denR (outTys spec_l6List.g.rts spec_l6List.g.pms))) = evC (spec_l6List.E k) (fun κ s => lhOf k κ s spec_l6List.pts) b65 (OM.start spec_l6List.g.pms 0 (a0, a1, ())) (OM.fin spec_l6List.g Try.f65.results.toList) := by kernel_rfl
theorem spec_l6List.ok (k : Nat) : SmOk Try.prog (spec_l6List.sm k) :=
  sm_ok mixed (E := spec_l6List.E) (pts := spec_l6List.pts) (fun k => ⟨⟨tysOk, by kernel_rfl⟩, forall_cons ⟨spec_EntryOk.ok k, e119⟩ (forall_nil)⟩) (fun _ => rfl) (fun _ => rfl)
    ⟨Try.func65, by kernel_rfl, by kernel_rfl, by kernel_rfl, by kernel_rfl, by kernel_rfl, by kernel_rfl⟩ (forall_cons (fun x => ⟨rfl, fun k => spec_l6List.h9 k x.1 x.2.1⟩) (forall_nil)) (fun k x => spec_l6List.hf k x.1 x.2.1) k
noncomputable def b66 : Code := Try.f66.body.getD .skip
theorem e66 : OM.Entry Try.prog 66 := ⟨_, Try.func66, by kernel_rfl, by kernel_rfl⟩
@[reducible] noncomputable def spec_l6Asc.g : Sig := ⟨[.fz (.sl tEntry)], [.v .bool .z], []⟩
@[reducible] noncomputable def spec_l6Asc.fk : Nat → denI spec_l6Asc.g.pms → Option (denR (outTys spec_l6Asc.g.rts spec_l6Asc.g.pms)) := fun k x => spec_l6Asc.f k x.1
@[reducible] noncomputable def spec_l6Asc.sm (k : Nat) : Sm := ⟨66, spec_l6Asc.g.pms, spec_l6Asc.g.rts, spec_l6Asc.fk k⟩
noncomputable def spec_l6Asc.E (k : Nat) : Env := ⟨tys, [], [], [], []⟩
@[reducible] noncomputable def spec_l6Asc.s5 : List Slot := [.v 0 (.sl tEntry) .z [] 0, .v 12 (.int .i64) .z [] 0]
noncomputable def spec_l6Asc.pts : List (Pt (denR (outTys spec_l6Asc.g.rts spec_l6Asc.g.pms))) := [⟨5, spec_l6Asc.s5, fun k x => spec_l6Asc.p5 k x.1 x.2.1⟩]
theorem spec_l6Asc.h5 (k : Nat) (x0 : (List Entry)) (x1 : Int) : (spec_l6Asc.p5 (k + 1) x0 x1 : Option (denR (outTys spec_l6Asc.g.rts spec_l6Asc.g.pms))) = evAt (spec_l6Asc.E k) (fun κ s => lhOf k κ s spec_l6Asc.pts) 5 b66 (unproj spec_l6Asc.s5 (x0, x1, ())) (OM.fin spec_l6Asc.g Try.f66.results.toList) := by kernel_rfl
theorem spec_l6Asc.hf (k : Nat) (a0 : (List Entry)) : (spec_l6Asc.f k a0 : Option (denR (outTys spec_l6Asc.g.rts spec_l6Asc.g.pms))) = evC (spec_l6Asc.E k) (fun κ s => lhOf k κ s spec_l6Asc.pts) b66 (OM.start spec_l6Asc.g.pms 0 (a0, ())) (OM.fin spec_l6Asc.g Try.f66.results.toList) := by kernel_rfl
theorem spec_l6Asc.ok (k : Nat) : SmOk Try.prog (spec_l6Asc.sm k) :=
  sm_ok mixed (E := spec_l6Asc.E) (pts := spec_l6Asc.pts) (fun k => ⟨⟨tysOk, by kernel_rfl⟩, forall_nil⟩) (fun _ => rfl) (fun _ => rfl)
    ⟨Try.func66, by kernel_rfl, by kernel_rfl, by kernel_rfl, by kernel_rfl, by kernel_rfl, by kernel_rfl⟩ (forall_cons (fun x => ⟨rfl, fun k => spec_l6Asc.h5 k x.1 x.2.1⟩) (forall_nil)) (fun k x => spec_l6Asc.hf k x.1) k
noncomputable def b21 : Code := Try.f21.body.getD .skip
theorem e21 : OM.Entry Try.prog 21 := ⟨_, Try.func21, by kernel_rfl, by kernel_rfl⟩
@[reducible] noncomputable def spec_StoreOk.g : Sig := ⟨[.fz tStore], [.v .bool .z], []⟩
@[reducible] noncomputable def spec_StoreOk.fk : Nat → denI spec_StoreOk.g.pms → Option (denR (outTys spec_StoreOk.g.rts spec_StoreOk.g.pms)) := fun k x => spec_StoreOk.f k x.1
@[reducible] noncomputable def spec_StoreOk.sm (k : Nat) : Sm := ⟨21, spec_StoreOk.g.pms, spec_StoreOk.g.rts, spec_StoreOk.fk k⟩
noncomputable def spec_StoreOk.E (k : Nat) : Env := ⟨tys, [spec_l1In.sm k, spec_l6List.sm k, spec_l6Asc.sm k], [], [], []⟩
noncomputable def spec_StoreOk.pts : List (Pt (denR (outTys spec_StoreOk.g.rts spec_StoreOk.g.pms))) := []
theorem spec_StoreOk.hf (k : Nat) (a0 : Store) : (spec_StoreOk.f k a0 : Option (denR (outTys spec_StoreOk.g.rts spec_StoreOk.g.pms))) = evC (spec_StoreOk.E k) (fun κ s => lhOf k κ s spec_StoreOk.pts) b21 (OM.start spec_StoreOk.g.pms 0 (a0, ())) (OM.fin spec_StoreOk.g Try.f21.results.toList) := by kernel_rfl
theorem spec_StoreOk.ok (k : Nat) : SmOk Try.prog (spec_StoreOk.sm k) :=
  sm_ok mixed (E := spec_StoreOk.E) (pts := spec_StoreOk.pts) (fun k => ⟨⟨tysOk, by kernel_rfl⟩, forall_cons ⟨spec_l1In.ok k, e67⟩ (forall_cons ⟨spec_l6List.ok k, e65⟩ (forall_cons ⟨spec_l6Asc.ok k, e66⟩ (forall_nil)))⟩) (fun _ => rfl) (fun _ => rfl)
    ⟨Try.func21, by kernel_rfl, by kernel_rfl, by kernel_rfl, by kernel_rfl, by kernel_rfl, by kernel_rfl⟩ (forall_nil) (fun k x => spec_StoreOk.hf k x.1) k
noncomputable def b143 : Code := Try.f143.body.getD .skip
theorem e143 : OM.Entry Try.prog 143 := ⟨_, Try.func143, by kernel_rfl, by kernel_rfl⟩
@[reducible] noncomputable def spec_Better.g : Sig := ⟨[.fz tEntry, .fz tEntry], [.v tEntry .z], []⟩
@[reducible] noncomputable def spec_Better.fk : Nat → denI spec_Better.g.pms → Option (denR (outTys spec_Better.g.rts spec_Better.g.pms)) := fun k x => spec_Better.f x.1 x.2.1
@[reducible] noncomputable def spec_Better.sm (k : Nat) : Sm := ⟨143, spec_Better.g.pms, spec_Better.g.rts, spec_Better.fk k⟩
noncomputable def spec_Better.E (k : Nat) : Env := ⟨tys, [], [], [], []⟩
noncomputable def spec_Better.pts : List (Pt (denR (outTys spec_Better.g.rts spec_Better.g.pms))) := []
theorem spec_Better.hf (k : Nat) (a0 : Entry) (a1 : Entry) : (spec_Better.f a0 a1 : Option (denR (outTys spec_Better.g.rts spec_Better.g.pms))) = evC (spec_Better.E k) (fun κ s => lhOf k κ s spec_Better.pts) b143 (OM.start spec_Better.g.pms 0 (a0, a1, ())) (OM.fin spec_Better.g Try.f143.results.toList) := by kernel_rfl
theorem spec_Better.ok (k : Nat) : SmOk Try.prog (spec_Better.sm k) :=
  sm_ok mixed (E := spec_Better.E) (pts := spec_Better.pts) (fun k => ⟨⟨tysOk, by kernel_rfl⟩, forall_nil⟩) (fun _ => rfl) (fun _ => rfl)
    ⟨Try.func143, by kernel_rfl, by kernel_rfl, by kernel_rfl, by kernel_rfl, by kernel_rfl, by kernel_rfl⟩ (forall_nil) (fun k x => spec_Better.hf k x.1 x.2.1) k
noncomputable def b113 : Code := Try.f113.body.getD .skip
theorem e113 : OM.Entry Try.prog 113 := ⟨_, Try.func113, by kernel_rfl, by kernel_rfl⟩
@[reducible] noncomputable def spec_l6Keep.g : Sig := ⟨[.fz (.sl tEntry), .fz tEntry], [.v (.sl tEntry) (.own .z)], []⟩
@[reducible] noncomputable def spec_l6Keep.fk : Nat → denI spec_l6Keep.g.pms → Option (denR (outTys spec_l6Keep.g.rts spec_l6Keep.g.pms)) := fun k x => spec_l6Keep.f k x.1 x.2.1
@[reducible] noncomputable def spec_l6Keep.sm (k : Nat) : Sm := ⟨113, spec_l6Keep.g.pms, spec_l6Keep.g.rts, spec_l6Keep.fk k⟩
noncomputable def spec_l6Keep.E (k : Nat) : Env := ⟨tys, [spec_Better.sm k], [56, 62], [9], []⟩
@[reducible] noncomputable def spec_l6Keep.s9 : List Slot := [.v 0 (.sl tEntry) .z [] 0, .r 12 13 [] tEntry, .v 20 (.sl tEntry) (.own .z) [] 0, .v 24 .bool .z [] 0, .v 28 (.int .i64) .z [] 0, .v 13 tEntry .z [] 0]
@[reducible] noncomputable def spec_l6Keep.s18 : List Slot := [.v 0 (.sl tEntry) .z [] 0, .r 12 13 [] tEntry, .v 20 (.sl tEntry) (.own .z) [] 0, .v 24 .bool .z [] 0, .v 28 (.int .i64) .z [] 0, .v 13 tEntry .z [] 0]
noncomputable def spec_l6Keep.pts : List (Pt (denR (outTys spec_l6Keep.g.rts spec_l6Keep.g.pms))) := [⟨9, spec_l6Keep.s9, fun k x => spec_l6Keep.p9 k x.1 x.2.1 x.2.2.1 x.2.2.2.1 x.2.2.2.2.1⟩, ⟨18, spec_l6Keep.s18, fun k x => spec_l6Keep.p18 k x.1 x.2.1 x.2.2.1 x.2.2.2.1 x.2.2.2.2.1⟩]
theorem spec_l6Keep.h9 (k : Nat) (x0 : (List Entry)) (x1 : (List Entry)) (x2 : Bool) (x3 : Int) (x4 : Entry) : (spec_l6Keep.p9 (k + 1) x0 x1 x2 x3 x4 : Option (denR (outTys spec_l6Keep.g.rts spec_l6Keep.g.pms))) = evAt (spec_l6Keep.E k) (fun κ s => lhOf k κ s spec_l6Keep.pts) 9 b113 (unproj spec_l6Keep.s9 (x0, x1, x2, x3, x4, ())) (OM.fin spec_l6Keep.g Try.f113.results.toList) := by kernel_rfl
theorem spec_l6Keep.h18 (k : Nat) (x0 : (List Entry)) (x1 : (List Entry)) (x2 : Bool) (x3 : Int) (x4 : Entry) : (spec_l6Keep.p18 (k + 1) x0 x1 x2 x3 x4 : Option (denR (outTys spec_l6Keep.g.rts spec_l6Keep.g.pms))) = evAt (spec_l6Keep.E k) (fun κ s => lhOf k κ s spec_l6Keep.pts) 18 b113 (unproj spec_l6Keep.s18 (x0, x1, x2, x3, x4, ())) (OM.fin spec_l6Keep.g Try.f113.results.toList) := by kernel_rfl
theorem spec_l6Keep.hf (k : Nat) (a0 : (List Entry)) (a1 : Entry) : (spec_l6Keep.f k a0 a1 : Option (denR (outTys spec_l6Keep.g.rts spec_l6Keep.g.pms))) = evC (spec_l6Keep.E k) (fun κ s => lhOf k κ s spec_l6Keep.pts) b113 (OM.start spec_l6Keep.g.pms 0 (a0, a1, ())) (OM.fin spec_l6Keep.g Try.f113.results.toList) := by kernel_rfl
theorem spec_l6Keep.ok (k : Nat) : SmOk Try.prog (spec_l6Keep.sm k) :=
  sm_ok mixed (E := spec_l6Keep.E) (pts := spec_l6Keep.pts) (fun k => ⟨⟨tysOk, by kernel_rfl⟩, forall_cons ⟨spec_Better.ok k, e143⟩ (forall_nil)⟩) (fun _ => rfl) (fun _ => rfl)
    ⟨Try.func113, by kernel_rfl, by kernel_rfl, by kernel_rfl, by kernel_rfl, by kernel_rfl, by kernel_rfl⟩ (forall_cons (fun x => ⟨rfl, fun k => spec_l6Keep.h9 k x.1 x.2.1 x.2.2.1 x.2.2.2.1 x.2.2.2.2.1⟩) (forall_cons (fun x => ⟨rfl, fun k => spec_l6Keep.h18 k x.1 x.2.1 x.2.2.1 x.2.2.2.1 x.2.2.2.2.1⟩) (forall_nil))) (fun k x => spec_l6Keep.hf k x.1 x.2.1) k
noncomputable def b57 : Code := Try.f57.body.getD .skip
theorem e57 : OM.Entry Try.prog 57 := ⟨_, Try.func57, by kernel_rfl, by kernel_rfl⟩
@[reducible] noncomputable def spec_l11Union.g : Sig := ⟨[.fz (.sl tStore)], [.v (.sl tEntry) (.own .z)], []⟩
@[reducible] noncomputable def spec_l11Union.fk : Nat → denI spec_l11Union.g.pms → Option (denR (outTys spec_l11Union.g.rts spec_l11Union.g.pms)) := fun k x => spec_l11Union.f k x.1
@[reducible] noncomputable def spec_l11Union.sm (k : Nat) : Sm := ⟨57, spec_l11Union.g.pms, spec_l11Union.g.rts, spec_l11Union.fk k⟩
noncomputable def spec_l11Union.E (k : Nat) : Env := ⟨tys, [spec_l6Keep.sm k], [], [], []⟩
@[reducible] noncomputable def spec_l11Union.s7 : List Slot := [.v 0 (.sl tStore) .z [] 0, .v 12 (.sl tEntry) (.own .z) [] 0, .v 16 (.int .i64) .z [] 0]
@[reducible] noncomputable def spec_l11Union.s13 : List Slot := [.v 0 (.sl tStore) .z [] 0, .v 12 (.sl tEntry) (.own .z) [] 0, .v 16 (.int .i64) .z [] 0, .v 20 (.int .i64) .z [] 0]
noncomputable def spec_l11Union.pts : List (Pt (denR (outTys spec_l11Union.g.rts spec_l11Union.g.pms))) := [⟨7, spec_l11Union.s7, fun k x => spec_l11Union.p7 k x.1 x.2.1 x.2.2.1⟩, ⟨13, spec_l11Union.s13, fun k x => spec_l11Union.p13 k x.1 x.2.1 x.2.2.1 x.2.2.2.1⟩]
theorem spec_l11Union.h7 (k : Nat) (x0 : (List Store)) (x1 : (List Entry)) (x2 : Int) : (spec_l11Union.p7 (k + 1) x0 x1 x2 : Option (denR (outTys spec_l11Union.g.rts spec_l11Union.g.pms))) = evAt (spec_l11Union.E k) (fun κ s => lhOf k κ s spec_l11Union.pts) 7 b57 (unproj spec_l11Union.s7 (x0, x1, x2, ())) (OM.fin spec_l11Union.g Try.f57.results.toList) := by kernel_rfl
theorem spec_l11Union.h13 (k : Nat) (x0 : (List Store)) (x1 : (List Entry)) (x2 : Int) (x3 : Int) : (spec_l11Union.p13 (k + 1) x0 x1 x2 x3 : Option (denR (outTys spec_l11Union.g.rts spec_l11Union.g.pms))) = evAt (spec_l11Union.E k) (fun κ s => lhOf k κ s spec_l11Union.pts) 13 b57 (unproj spec_l11Union.s13 (x0, x1, x2, x3, ())) (OM.fin spec_l11Union.g Try.f57.results.toList) := by kernel_rfl
theorem spec_l11Union.hf (k : Nat) (a0 : (List Store)) : (spec_l11Union.f k a0 : Option (denR (outTys spec_l11Union.g.rts spec_l11Union.g.pms))) = evC (spec_l11Union.E k) (fun κ s => lhOf k κ s spec_l11Union.pts) b57 (OM.start spec_l11Union.g.pms 0 (a0, ())) (OM.fin spec_l11Union.g Try.f57.results.toList) := by kernel_rfl
theorem spec_l11Union.ok (k : Nat) : SmOk Try.prog (spec_l11Union.sm k) :=
  sm_ok mixed (E := spec_l11Union.E) (pts := spec_l11Union.pts) (fun k => ⟨⟨tysOk, by kernel_rfl⟩, forall_cons ⟨spec_l6Keep.ok k, e113⟩ (forall_nil)⟩) (fun _ => rfl) (fun _ => rfl)
    ⟨Try.func57, by kernel_rfl, by kernel_rfl, by kernel_rfl, by kernel_rfl, by kernel_rfl, by kernel_rfl⟩ (forall_cons (fun x => ⟨rfl, fun k => spec_l11Union.h7 k x.1 x.2.1 x.2.2.1⟩) (forall_cons (fun x => ⟨rfl, fun k => spec_l11Union.h13 k x.1 x.2.1 x.2.2.1 x.2.2.2.1⟩) (forall_nil))) (fun k x => spec_l11Union.hf k x.1) k
noncomputable def b26 : Code := Try.f26.body.getD .skip
theorem e26 : OM.Entry Try.prog 26 := ⟨_, Try.func26, by kernel_rfl, by kernel_rfl⟩
@[reducible] noncomputable def spec_Fill.g : Sig := ⟨[.fz tConfig, .fz (.sl tStore), .fz (.sl (.int .i64)), .fz (.int .i64), .fz (.int .i64)], [.v tStore (.two (.own .z) (.two (.own .a) .z)), .v .bool .z], []⟩
@[reducible] noncomputable def spec_Fill.fk : Nat → denI spec_Fill.g.pms → Option (denR (outTys spec_Fill.g.rts spec_Fill.g.pms)) := fun k x => spec_Fill.f k x.1 x.2.1 x.2.2.1 x.2.2.2.1 x.2.2.2.2.1
@[reducible] noncomputable def spec_Fill.sm (k : Nat) : Sm := ⟨26, spec_Fill.g.pms, spec_Fill.g.rts, spec_Fill.fk k⟩
noncomputable def spec_Fill.E (k : Nat) : Env := ⟨tys, [spec_ConfigOk.sm k, spec_LostOk.sm k, spec_l4Has.sm k, spec_StoreOk.sm k, spec_l11Union.sm k], [57, 75], [], []⟩
@[reducible] noncomputable def spec_Fill.s13 : List Slot := [.v 4 (.sl tStore) .z [] 0, .v 8 (.sl (.int .i64)) .z [] 0, .v 16 (.int .i64) .z [] 0, .r 40 41 [] tStore, .r 48 49 [] tStore, .v 52 (.sl tStore) (.own .z) [] 0, .v 56 (.int .i64) .z [] 0, .v 41 tStore (.two (.own .a) (.two (.own .a) .z)) [] 0, .v 49 tStore (.two (.own .a) (.two (.own .a) .z)) [] 0]
@[reducible] noncomputable def spec_Fill.s23 : List Slot := [.v 16 (.int .i64) .z [] 0, .r 40 41 [] tStore, .r 48 49 [] tStore, .v 52 (.sl tStore) (.own .z) [] 0, .v 60 (.int .i64) .z [] 0, .v 41 tStore (.two (.own .a) (.two (.own .a) .z)) [] 0, .v 49 tStore (.two (.own .a) (.two (.own .a) .z)) [] 0]
noncomputable def spec_Fill.pts : List (Pt (denR (outTys spec_Fill.g.rts spec_Fill.g.pms))) := [⟨13, spec_Fill.s13, fun k x => spec_Fill.p13 k x.1 x.2.1 x.2.2.1 x.2.2.2.1 x.2.2.2.2.1 x.2.2.2.2.2.1 x.2.2.2.2.2.2.1⟩, ⟨23, spec_Fill.s23, fun k x => spec_Fill.p23 k x.1 x.2.1 x.2.2.1 x.2.2.2.1 x.2.2.2.2.1⟩]
theorem spec_Fill.h13 (k : Nat) (x0 : (List Store)) (x1 : (List Int)) (x2 : Int) (x3 : (List Store)) (x4 : Int) (x5 : Store) (x6 : Store) : (spec_Fill.p13 (k + 1) x0 x1 x2 x3 x4 x5 x6 : Option (denR (outTys spec_Fill.g.rts spec_Fill.g.pms))) = evAt (spec_Fill.E k) (fun κ s => lhOf k κ s spec_Fill.pts) 13 b26 (unproj spec_Fill.s13 (x0, x1, x2, x3, x4, x5, x6, ())) (OM.fin spec_Fill.g Try.f26.results.toList) := by kernel_rfl
theorem spec_Fill.h23 (k : Nat) (x0 : Int) (x1 : (List Store)) (x2 : Int) (x3 : Store) (x4 : Store) : (spec_Fill.p23 (k + 1) x0 x1 x2 x3 x4 : Option (denR (outTys spec_Fill.g.rts spec_Fill.g.pms))) = evAt (spec_Fill.E k) (fun κ s => lhOf k κ s spec_Fill.pts) 23 b26 (unproj spec_Fill.s23 (x0, x1, x2, x3, x4, ())) (OM.fin spec_Fill.g Try.f26.results.toList) := by kernel_rfl
theorem spec_Fill.hf (k : Nat) (a0 : Config) (a1 : (List Store)) (a2 : (List Int)) (a3 : Int) (a4 : Int) : (spec_Fill.f k a0 a1 a2 a3 a4 : Option (denR (outTys spec_Fill.g.rts spec_Fill.g.pms))) = evC (spec_Fill.E k) (fun κ s => lhOf k κ s spec_Fill.pts) b26 (OM.start spec_Fill.g.pms 0 (a0, a1, a2, a3, a4, ())) (OM.fin spec_Fill.g Try.f26.results.toList) := by kernel_rfl
theorem spec_Fill.ok (k : Nat) : SmOk Try.prog (spec_Fill.sm k) :=
  sm_ok mixed (E := spec_Fill.E) (pts := spec_Fill.pts) (fun k => ⟨⟨tysOk, by kernel_rfl⟩, forall_cons ⟨spec_ConfigOk.ok k, e74⟩ (forall_cons ⟨spec_LostOk.ok k, e28⟩ (forall_cons ⟨spec_l4Has.ok k, e75⟩ (forall_cons ⟨spec_StoreOk.ok k, e21⟩ (forall_cons ⟨spec_l11Union.ok k, e57⟩ (forall_nil)))))⟩) (fun _ => rfl) (fun _ => rfl)
    ⟨Try.func26, by kernel_rfl, by kernel_rfl, by kernel_rfl, by kernel_rfl, by kernel_rfl, by kernel_rfl⟩ (forall_cons (fun x => ⟨rfl, fun k => spec_Fill.h13 k x.1 x.2.1 x.2.2.1 x.2.2.2.1 x.2.2.2.2.1 x.2.2.2.2.2.1 x.2.2.2.2.2.2.1⟩) (forall_cons (fun x => ⟨rfl, fun k => spec_Fill.h23 k x.1 x.2.1 x.2.2.1 x.2.2.2.1 x.2.2.2.2.1⟩) (forall_nil))) (fun k x => spec_Fill.hf k x.1 x.2.1 x.2.2.1 x.2.2.2.1 x.2.2.2.2.1) k
noncomputable def b81 : Code := Try.f81.body.getD .skip
theorem e81 : OM.Entry Try.prog 81 := ⟨_, Try.func81, by kernel_rfl, by kernel_rfl⟩
@[reducible] noncomputable def impl_within.g : Sig := ⟨[.fz (.int .i64), .fz (.int .i64), .fz (.int .i64)], [.v .bool .z], []⟩
@[reducible] noncomputable def impl_within.fk : Nat → denI impl_within.g.pms → Option (denR (outTys impl_within.g.rts impl_within.g.pms)) := fun k x => impl_within.f x.1 x.2.1 x.2.2.1
@[reducible] noncomputable def impl_within.sm (k : Nat) : Sm := ⟨81, impl_within.g.pms, impl_within.g.rts, impl_within.fk k⟩
noncomputable def impl_within.E (k : Nat) : Env := ⟨tys, [], [], [], []⟩
noncomputable def impl_within.pts : List (Pt (denR (outTys impl_within.g.rts impl_within.g.pms))) := []
theorem impl_within.hf (k : Nat) (a0 : Int) (a1 : Int) (a2 : Int) : (impl_within.f a0 a1 a2 : Option (denR (outTys impl_within.g.rts impl_within.g.pms))) = evC (impl_within.E k) (fun κ s => lhOf k κ s impl_within.pts) b81 (OM.start impl_within.g.pms 0 (a0, a1, a2, ())) (OM.fin impl_within.g Try.f81.results.toList) := by kernel_rfl
theorem impl_within.ok (k : Nat) : SmOk Try.prog (impl_within.sm k) :=
  sm_ok mixed (E := impl_within.E) (pts := impl_within.pts) (fun k => ⟨⟨tysOk, by kernel_rfl⟩, forall_nil⟩) (fun _ => rfl) (fun _ => rfl)
    ⟨Try.func81, by kernel_rfl, by kernel_rfl, by kernel_rfl, by kernel_rfl, by kernel_rfl, by kernel_rfl⟩ (forall_nil) (fun k x => impl_within.hf k x.1 x.2.1 x.2.2.1) k
noncomputable def b111 : Code := Try.f111.body.getD .skip
theorem e111 : OM.Entry Try.prog 111 := ⟨_, Try.func111, by kernel_rfl, by kernel_rfl⟩
@[reducible] noncomputable def impl_ConfigOk.g : Sig := ⟨[.fz tConfig], [.v .bool .z], []⟩
@[reducible] noncomputable def impl_ConfigOk.fk : Nat → denI impl_ConfigOk.g.pms → Option (denR (outTys impl_ConfigOk.g.rts impl_ConfigOk.g.pms)) := fun k x => impl_ConfigOk.f k x.1
@[reducible] noncomputable def impl_ConfigOk.sm (k : Nat) : Sm := ⟨111, impl_ConfigOk.g.pms, impl_ConfigOk.g.rts, impl_ConfigOk.fk k⟩
noncomputable def impl_ConfigOk.E (k : Nat) : Env := ⟨tys, [impl_within.sm k], [11], [], []⟩
@[reducible] noncomputable def impl_ConfigOk.s5 : List Slot := [.r 4 5 [] tConfig, .v 24 (.sl (.int .i64)) .z [] 0, .v 28 (.int .i64) .z [] 0, .v 32 (.int .i64) .z [] 0, .v 5 tConfig .z [] 0]
noncomputable def impl_ConfigOk.pts : List (Pt (denR (outTys impl_ConfigOk.g.rts impl_ConfigOk.g.pms))) := [⟨5, impl_ConfigOk.s5, fun k x => impl_ConfigOk.p5 k x.1 x.2.1 x.2.2.1 x.2.2.2.1⟩]
theorem impl_ConfigOk.h5 (k : Nat) (x0 : (List Int)) (x1 : Int) (x2 : Int) (x3 : Config) : (impl_ConfigOk.p5 (k + 1) x0 x1 x2 x3 : Option (denR (outTys impl_ConfigOk.g.rts impl_ConfigOk.g.pms))) = evAt (impl_ConfigOk.E k) (fun κ s => lhOf k κ s impl_ConfigOk.pts) 5 b111 (unproj impl_ConfigOk.s5 (x0, x1, x2, x3, ())) (OM.fin impl_ConfigOk.g Try.f111.results.toList) := by kernel_rfl
theorem impl_ConfigOk.hf (k : Nat) (a0 : Config) : (impl_ConfigOk.f k a0 : Option (denR (outTys impl_ConfigOk.g.rts impl_ConfigOk.g.pms))) = evC (impl_ConfigOk.E k) (fun κ s => lhOf k κ s impl_ConfigOk.pts) b111 (OM.start impl_ConfigOk.g.pms 0 (a0, ())) (OM.fin impl_ConfigOk.g Try.f111.results.toList) := by kernel_rfl
theorem impl_ConfigOk.ok (k : Nat) : SmOk Try.prog (impl_ConfigOk.sm k) :=
  sm_ok mixed (E := impl_ConfigOk.E) (pts := impl_ConfigOk.pts) (fun k => ⟨⟨tysOk, by kernel_rfl⟩, forall_cons ⟨impl_within.ok k, e81⟩ (forall_nil)⟩) (fun _ => rfl) (fun _ => rfl)
    ⟨Try.func111, by kernel_rfl, by kernel_rfl, by kernel_rfl, by kernel_rfl, by kernel_rfl, by kernel_rfl⟩ (forall_cons (fun x => ⟨rfl, fun k => impl_ConfigOk.h5 k x.1 x.2.1 x.2.2.1 x.2.2.2.1⟩) (forall_nil)) (fun k x => impl_ConfigOk.hf k x.1) k
noncomputable def b123 : Code := Try.f123.body.getD .skip
theorem e123 : OM.Entry Try.prog 123 := ⟨_, Try.func123, by kernel_rfl, by kernel_rfl⟩
@[reducible] noncomputable def impl_ascends.g : Sig := ⟨[.fz (.sl (.int .i64)), .fz (.int .i64)], [.v .bool .z], []⟩
@[reducible] noncomputable def impl_ascends.fk : Nat → denI impl_ascends.g.pms → Option (denR (outTys impl_ascends.g.rts impl_ascends.g.pms)) := fun k x => impl_ascends.f k x.1 x.2.1
@[reducible] noncomputable def impl_ascends.sm (k : Nat) : Sm := ⟨123, impl_ascends.g.pms, impl_ascends.g.rts, impl_ascends.fk k⟩
noncomputable def impl_ascends.E (k : Nat) : Env := ⟨tys, [impl_within.sm k], [13], [], []⟩
@[reducible] noncomputable def impl_ascends.s5 : List Slot := [.v 0 (.sl (.int .i64)) .z [] 0, .v 4 (.int .i64) .z [] 0, .v 28 (.sl (.int .i64)) .z [] 0, .v 32 (.int .i64) .z [] 0, .v 36 (.int .i64) .z [] 0]
noncomputable def impl_ascends.pts : List (Pt (denR (outTys impl_ascends.g.rts impl_ascends.g.pms))) := [⟨5, impl_ascends.s5, fun k x => impl_ascends.p5 k x.1 x.2.1 x.2.2.1 x.2.2.2.1 x.2.2.2.2.1⟩]
theorem impl_ascends.h5 (k : Nat) (x0 : (List Int)) (x1 : Int) (x2 : (List Int)) (x3 : Int) (x4 : Int) : (impl_ascends.p5 (k + 1) x0 x1 x2 x3 x4 : Option (denR (outTys impl_ascends.g.rts impl_ascends.g.pms))) = evAt (impl_ascends.E k) (fun κ s => lhOf k κ s impl_ascends.pts) 5 b123 (unproj impl_ascends.s5 (x0, x1, x2, x3, x4, ())) (OM.fin impl_ascends.g Try.f123.results.toList) := by kernel_rfl
theorem impl_ascends.hf (k : Nat) (a0 : (List Int)) (a1 : Int) : (impl_ascends.f k a0 a1 : Option (denR (outTys impl_ascends.g.rts impl_ascends.g.pms))) = evC (impl_ascends.E k) (fun κ s => lhOf k κ s impl_ascends.pts) b123 (OM.start impl_ascends.g.pms 0 (a0, a1, ())) (OM.fin impl_ascends.g Try.f123.results.toList) := by kernel_rfl
theorem impl_ascends.ok (k : Nat) : SmOk Try.prog (impl_ascends.sm k) :=
  sm_ok mixed (E := impl_ascends.E) (pts := impl_ascends.pts) (fun k => ⟨⟨tysOk, by kernel_rfl⟩, forall_cons ⟨impl_within.ok k, e81⟩ (forall_nil)⟩) (fun _ => rfl) (fun _ => rfl)
    ⟨Try.func123, by kernel_rfl, by kernel_rfl, by kernel_rfl, by kernel_rfl, by kernel_rfl, by kernel_rfl⟩ (forall_cons (fun x => ⟨rfl, fun k => impl_ascends.h5 k x.1 x.2.1 x.2.2.1 x.2.2.2.1 x.2.2.2.2.1⟩) (forall_nil)) (fun k x => impl_ascends.hf k x.1 x.2.1) k
noncomputable def b76 : Code := Try.f76.body.getD .skip
theorem e76 : OM.Entry Try.prog 76 := ⟨_, Try.func76, by kernel_rfl, by kernel_rfl⟩
@[reducible] noncomputable def impl_NodesOk.g : Sig := ⟨[.fz tConfig, .fz (.sl (.int .i64))], [.v .bool .z], []⟩
@[reducible] noncomputable def impl_NodesOk.fk : Nat → denI impl_NodesOk.g.pms → Option (denR (outTys impl_NodesOk.g.rts impl_NodesOk.g.pms)) := fun k x => impl_NodesOk.f k x.1 x.2.1
@[reducible] noncomputable def impl_NodesOk.sm (k : Nat) : Sm := ⟨76, impl_NodesOk.g.pms, impl_NodesOk.g.rts, impl_NodesOk.fk k⟩
noncomputable def impl_NodesOk.E (k : Nat) : Env := ⟨tys, [impl_ConfigOk.sm k, impl_ascends.sm k], [], [], []⟩
noncomputable def impl_NodesOk.pts : List (Pt (denR (outTys impl_NodesOk.g.rts impl_NodesOk.g.pms))) := []
theorem impl_NodesOk.hf (k : Nat) (a0 : Config) (a1 : (List Int)) : (impl_NodesOk.f k a0 a1 : Option (denR (outTys impl_NodesOk.g.rts impl_NodesOk.g.pms))) = evC (impl_NodesOk.E k) (fun κ s => lhOf k κ s impl_NodesOk.pts) b76 (OM.start impl_NodesOk.g.pms 0 (a0, a1, ())) (OM.fin impl_NodesOk.g Try.f76.results.toList) := by kernel_rfl
theorem impl_NodesOk.ok (k : Nat) : SmOk Try.prog (impl_NodesOk.sm k) :=
  sm_ok mixed (E := impl_NodesOk.E) (pts := impl_NodesOk.pts) (fun k => ⟨⟨tysOk, by kernel_rfl⟩, forall_cons ⟨impl_ConfigOk.ok k, e111⟩ (forall_cons ⟨impl_ascends.ok k, e123⟩ (forall_nil))⟩) (fun _ => rfl) (fun _ => rfl)
    ⟨Try.func76, by kernel_rfl, by kernel_rfl, by kernel_rfl, by kernel_rfl, by kernel_rfl, by kernel_rfl⟩ (forall_nil) (fun k x => impl_NodesOk.hf k x.1 x.2.1) k
noncomputable def b122 : Code := Try.f122.body.getD .skip
theorem e122 : OM.Entry Try.prog 122 := ⟨_, Try.func122, by kernel_rfl, by kernel_rfl⟩
@[reducible] noncomputable def slices_Index_int_int.g : Sig := ⟨[.fz (.sl (.int .i64)), .fz (.int .i64)], [.v (.int .i64) .z], []⟩
@[reducible] noncomputable def slices_Index_int_int.fk : Nat → denI slices_Index_int_int.g.pms → Option (denR (outTys slices_Index_int_int.g.rts slices_Index_int_int.g.pms)) := fun k x => slices_Index_int_int.f k x.1 x.2.1
@[reducible] noncomputable def slices_Index_int_int.sm (k : Nat) : Sm := ⟨122, slices_Index_int_int.g.pms, slices_Index_int_int.g.rts, slices_Index_int_int.fk k⟩
noncomputable def slices_Index_int_int.E (k : Nat) : Env := ⟨tys, [], [], [], []⟩
@[reducible] noncomputable def slices_Index_int_int.s5 : List Slot := [.v 0 (.sl (.int .i64)) .z [] 0, .v 4 (.int .i64) .z [] 0, .v 28 (.int .i64) .z [] 0, .v 32 (.int .i64) .z [] 0]
noncomputable def slices_Index_int_int.pts : List (Pt (denR (outTys slices_Index_int_int.g.rts slices_Index_int_int.g.pms))) := [⟨5, slices_Index_int_int.s5, fun k x => slices_Index_int_int.p5 k x.1 x.2.1 x.2.2.1 x.2.2.2.1⟩]
theorem slices_Index_int_int.h5 (k : Nat) (x0 : (List Int)) (x1 : Int) (x2 : Int) (x3 : Int) : (slices_Index_int_int.p5 (k + 1) x0 x1 x2 x3 : Option (denR (outTys slices_Index_int_int.g.rts slices_Index_int_int.g.pms))) = evAt (slices_Index_int_int.E k) (fun κ s => lhOf k κ s slices_Index_int_int.pts) 5 b122 (unproj slices_Index_int_int.s5 (x0, x1, x2, x3, ())) (OM.fin slices_Index_int_int.g Try.f122.results.toList) := by kernel_rfl
theorem slices_Index_int_int.hf (k : Nat) (a0 : (List Int)) (a1 : Int) : (slices_Index_int_int.f k a0 a1 : Option (denR (outTys slices_Index_int_int.g.rts slices_Index_int_int.g.pms))) = evC (slices_Index_int_int.E k) (fun κ s => lhOf k κ s slices_Index_int_int.pts) b122 (OM.start slices_Index_int_int.g.pms 0 (a0, a1, ())) (OM.fin slices_Index_int_int.g Try.f122.results.toList) := by kernel_rfl
theorem slices_Index_int_int.ok (k : Nat) : SmOk Try.prog (slices_Index_int_int.sm k) :=
  sm_ok mixed (E := slices_Index_int_int.E) (pts := slices_Index_int_int.pts) (fun k => ⟨⟨tysOk, by kernel_rfl⟩, forall_nil⟩) (fun _ => rfl) (fun _ => rfl)
    ⟨Try.func122, by kernel_rfl, by kernel_rfl, by kernel_rfl, by kernel_rfl, by kernel_rfl, by kernel_rfl⟩ (forall_cons (fun x => ⟨rfl, fun k => slices_Index_int_int.h5 k x.1 x.2.1 x.2.2.1 x.2.2.2.1⟩) (forall_nil)) (fun k x => slices_Index_int_int.hf k x.1 x.2.1) k
noncomputable def b73 : Code := Try.f73.body.getD .skip
theorem e73 : OM.Entry Try.prog 73 := ⟨_, Try.func73, by kernel_rfl, by kernel_rfl⟩
@[reducible] noncomputable def slices_Contains_int_int.g : Sig := ⟨[.fz (.sl (.int .i64)), .fz (.int .i64)], [.v .bool .z], []⟩
@[reducible] noncomputable def slices_Contains_int_int.fk : Nat → denI slices_Contains_int_int.g.pms → Option (denR (outTys slices_Contains_int_int.g.rts slices_Contains_int_int.g.pms)) := fun k x => slices_Contains_int_int.f k x.1 x.2.1
@[reducible] noncomputable def slices_Contains_int_int.sm (k : Nat) : Sm := ⟨73, slices_Contains_int_int.g.pms, slices_Contains_int_int.g.rts, slices_Contains_int_int.fk k⟩
noncomputable def slices_Contains_int_int.E (k : Nat) : Env := ⟨tys, [slices_Index_int_int.sm k], [], [], []⟩
noncomputable def slices_Contains_int_int.pts : List (Pt (denR (outTys slices_Contains_int_int.g.rts slices_Contains_int_int.g.pms))) := []
theorem slices_Contains_int_int.hf (k : Nat) (a0 : (List Int)) (a1 : Int) : (slices_Contains_int_int.f k a0 a1 : Option (denR (outTys slices_Contains_int_int.g.rts slices_Contains_int_int.g.pms))) = evC (slices_Contains_int_int.E k) (fun κ s => lhOf k κ s slices_Contains_int_int.pts) b73 (OM.start slices_Contains_int_int.g.pms 0 (a0, a1, ())) (OM.fin slices_Contains_int_int.g Try.f73.results.toList) := by kernel_rfl
theorem slices_Contains_int_int.ok (k : Nat) : SmOk Try.prog (slices_Contains_int_int.sm k) :=
  sm_ok mixed (E := slices_Contains_int_int.E) (pts := slices_Contains_int_int.pts) (fun k => ⟨⟨tysOk, by kernel_rfl⟩, forall_cons ⟨slices_Index_int_int.ok k, e122⟩ (forall_nil)⟩) (fun _ => rfl) (fun _ => rfl)
    ⟨Try.func73, by kernel_rfl, by kernel_rfl, by kernel_rfl, by kernel_rfl, by kernel_rfl, by kernel_rfl⟩ (forall_nil) (fun k x => slices_Contains_int_int.hf k x.1 x.2.1) k
noncomputable def b82 : Code := Try.f82.body.getD .skip
theorem e82 : OM.Entry Try.prog 82 := ⟨_, Try.func82, by kernel_rfl, by kernel_rfl⟩
@[reducible] noncomputable def impl_SpanOf.g : Sig := ⟨[.fz tConfig, .fz (.sl (.int .i64))], [.v (.int .i64) .z], []⟩
@[reducible] noncomputable def impl_SpanOf.fk : Nat → denI impl_SpanOf.g.pms → Option (denR (outTys impl_SpanOf.g.rts impl_SpanOf.g.pms)) := fun k x => impl_SpanOf.f k x.1 x.2.1
@[reducible] noncomputable def impl_SpanOf.sm (k : Nat) : Sm := ⟨82, impl_SpanOf.g.pms, impl_SpanOf.g.rts, impl_SpanOf.fk k⟩
noncomputable def impl_SpanOf.E (k : Nat) : Env := ⟨tys, [impl_NodesOk.sm k, slices_Contains_int_int.sm k], [18, 32], [], []⟩
@[reducible] noncomputable def impl_SpanOf.s11 : List Slot := [.r 8 9 [] tConfig, .v 20 (.sl (.int .i64)) (.own .z) [] 0, .v 52 (.sl (.int .i64)) .z [] 0, .v 56 (.int .i64) .z [] 0, .v 60 (.int .i64) .z [] 0, .v 9 tConfig .z [] 0]
noncomputable def impl_SpanOf.pts : List (Pt (denR (outTys impl_SpanOf.g.rts impl_SpanOf.g.pms))) := [⟨11, impl_SpanOf.s11, fun k x => impl_SpanOf.p11 k x.1 x.2.1 x.2.2.1 x.2.2.2.1 x.2.2.2.2.1⟩]
theorem impl_SpanOf.h11 (k : Nat) (x0 : (List Int)) (x1 : (List Int)) (x2 : Int) (x3 : Int) (x4 : Config) : (impl_SpanOf.p11 (k + 1) x0 x1 x2 x3 x4 : Option (denR (outTys impl_SpanOf.g.rts impl_SpanOf.g.pms))) = evAt (impl_SpanOf.E k) (fun κ s => lhOf k κ s impl_SpanOf.pts) 11 b82 (unproj impl_SpanOf.s11 (x0, x1, x2, x3, x4, ())) (OM.fin impl_SpanOf.g Try.f82.results.toList) := by kernel_rfl
theorem impl_SpanOf.hf (k : Nat) (a0 : Config) (a1 : (List Int)) : (impl_SpanOf.f k a0 a1 : Option (denR (outTys impl_SpanOf.g.rts impl_SpanOf.g.pms))) = evC (impl_SpanOf.E k) (fun κ s => lhOf k κ s impl_SpanOf.pts) b82 (OM.start impl_SpanOf.g.pms 0 (a0, a1, ())) (OM.fin impl_SpanOf.g Try.f82.results.toList) := by kernel_rfl
theorem impl_SpanOf.ok (k : Nat) : SmOk Try.prog (impl_SpanOf.sm k) :=
  sm_ok mixed (E := impl_SpanOf.E) (pts := impl_SpanOf.pts) (fun k => ⟨⟨tysOk, by kernel_rfl⟩, forall_cons ⟨impl_NodesOk.ok k, e76⟩ (forall_cons ⟨slices_Contains_int_int.ok k, e73⟩ (forall_nil))⟩) (fun _ => rfl) (fun _ => rfl)
    ⟨Try.func82, by kernel_rfl, by kernel_rfl, by kernel_rfl, by kernel_rfl, by kernel_rfl, by kernel_rfl⟩ (forall_cons (fun x => ⟨rfl, fun k => impl_SpanOf.h11 k x.1 x.2.1 x.2.2.1 x.2.2.2.1 x.2.2.2.2.1⟩) (forall_nil)) (fun k x => impl_SpanOf.hf k x.1 x.2.1) k
noncomputable def b31 : Code := Try.f31.body.getD .skip
theorem e31 : OM.Entry Try.prog 31 := ⟨_, Try.func31, by kernel_rfl, by kernel_rfl⟩
@[reducible] noncomputable def impl_Holds.g : Sig := ⟨[.fz tConfig, .fz (.sl (.int .i64))], [.v .bool .z], []⟩
@[reducible] noncomputable def impl_Holds.fk : Nat → denI impl_Holds.g.pms → Option (denR (outTys impl_Holds.g.rts impl_Holds.g.pms)) := fun k x => impl_Holds.f k x.1 x.2.1
@[reducible] noncomputable def impl_Holds.sm (k : Nat) : Sm := ⟨31, impl_Holds.g.pms, impl_Holds.g.rts, impl_Holds.fk k⟩
noncomputable def impl_Holds.E (k : Nat) : Env := ⟨tys, [impl_NodesOk.sm k, impl_SpanOf.sm k], [], [], []⟩
noncomputable def impl_Holds.pts : List (Pt (denR (outTys impl_Holds.g.rts impl_Holds.g.pms))) := []
theorem impl_Holds.hf (k : Nat) (a0 : Config) (a1 : (List Int)) : (impl_Holds.f k a0 a1 : Option (denR (outTys impl_Holds.g.rts impl_Holds.g.pms))) = evC (impl_Holds.E k) (fun κ s => lhOf k κ s impl_Holds.pts) b31 (OM.start impl_Holds.g.pms 0 (a0, a1, ())) (OM.fin impl_Holds.g Try.f31.results.toList) := by kernel_rfl
theorem impl_Holds.ok (k : Nat) : SmOk Try.prog (impl_Holds.sm k) :=
  sm_ok mixed (E := impl_Holds.E) (pts := impl_Holds.pts) (fun k => ⟨⟨tysOk, by kernel_rfl⟩, forall_cons ⟨impl_NodesOk.ok k, e76⟩ (forall_cons ⟨impl_SpanOf.ok k, e82⟩ (forall_nil))⟩) (fun _ => rfl) (fun _ => rfl)
    ⟨Try.func31, by kernel_rfl, by kernel_rfl, by kernel_rfl, by kernel_rfl, by kernel_rfl, by kernel_rfl⟩ (forall_nil) (fun k x => impl_Holds.hf k x.1 x.2.1) k
noncomputable def b27 : Code := Try.f27.body.getD .skip
theorem e27 : OM.Entry Try.prog 27 := ⟨_, Try.func27, by kernel_rfl, by kernel_rfl⟩
@[reducible] noncomputable def impl_LostOk.g : Sig := ⟨[.fz tConfig, .fz (.sl (.int .i64))], [.v .bool .z], []⟩
@[reducible] noncomputable def impl_LostOk.fk : Nat → denI impl_LostOk.g.pms → Option (denR (outTys impl_LostOk.g.rts impl_LostOk.g.pms)) := fun k x => impl_LostOk.f k x.1 x.2.1
@[reducible] noncomputable def impl_LostOk.sm (k : Nat) : Sm := ⟨27, impl_LostOk.g.pms, impl_LostOk.g.rts, impl_LostOk.fk k⟩
noncomputable def impl_LostOk.E (k : Nat) : Env := ⟨tys, [impl_NodesOk.sm k, impl_Holds.sm k], [], [], []⟩
noncomputable def impl_LostOk.pts : List (Pt (denR (outTys impl_LostOk.g.rts impl_LostOk.g.pms))) := []
theorem impl_LostOk.hf (k : Nat) (a0 : Config) (a1 : (List Int)) : (impl_LostOk.f k a0 a1 : Option (denR (outTys impl_LostOk.g.rts impl_LostOk.g.pms))) = evC (impl_LostOk.E k) (fun κ s => lhOf k κ s impl_LostOk.pts) b27 (OM.start impl_LostOk.g.pms 0 (a0, a1, ())) (OM.fin impl_LostOk.g Try.f27.results.toList) := by kernel_rfl
theorem impl_LostOk.ok (k : Nat) : SmOk Try.prog (impl_LostOk.sm k) :=
  sm_ok mixed (E := impl_LostOk.E) (pts := impl_LostOk.pts) (fun k => ⟨⟨tysOk, by kernel_rfl⟩, forall_cons ⟨impl_NodesOk.ok k, e76⟩ (forall_cons ⟨impl_Holds.ok k, e31⟩ (forall_nil))⟩) (fun _ => rfl) (fun _ => rfl)
    ⟨Try.func27, by kernel_rfl, by kernel_rfl, by kernel_rfl, by kernel_rfl, by kernel_rfl, by kernel_rfl⟩ (forall_nil) (fun k x => impl_LostOk.hf k x.1 x.2.1) k
noncomputable def b110 : Code := Try.f110.body.getD .skip
theorem e110 : OM.Entry Try.prog 110 := ⟨_, Try.func110, by kernel_rfl, by kernel_rfl⟩
@[reducible] noncomputable def impl_isEpoch.g : Sig := ⟨[.fz (.int .i64)], [.v .bool .z], []⟩
@[reducible] noncomputable def impl_isEpoch.fk : Nat → denI impl_isEpoch.g.pms → Option (denR (outTys impl_isEpoch.g.rts impl_isEpoch.g.pms)) := fun k x => impl_isEpoch.f x.1
@[reducible] noncomputable def impl_isEpoch.sm (k : Nat) : Sm := ⟨110, impl_isEpoch.g.pms, impl_isEpoch.g.rts, impl_isEpoch.fk k⟩
noncomputable def impl_isEpoch.E (k : Nat) : Env := ⟨tys, [impl_within.sm k], [], [], []⟩
noncomputable def impl_isEpoch.pts : List (Pt (denR (outTys impl_isEpoch.g.rts impl_isEpoch.g.pms))) := []
theorem impl_isEpoch.hf (k : Nat) (a0 : Int) : (impl_isEpoch.f a0 : Option (denR (outTys impl_isEpoch.g.rts impl_isEpoch.g.pms))) = evC (impl_isEpoch.E k) (fun κ s => lhOf k κ s impl_isEpoch.pts) b110 (OM.start impl_isEpoch.g.pms 0 (a0, ())) (OM.fin impl_isEpoch.g Try.f110.results.toList) := by kernel_rfl
theorem impl_isEpoch.ok (k : Nat) : SmOk Try.prog (impl_isEpoch.sm k) :=
  sm_ok mixed (E := impl_isEpoch.E) (pts := impl_isEpoch.pts) (fun k => ⟨⟨tysOk, by kernel_rfl⟩, forall_cons ⟨impl_within.ok k, e81⟩ (forall_nil)⟩) (fun _ => rfl) (fun _ => rfl)
    ⟨Try.func110, by kernel_rfl, by kernel_rfl, by kernel_rfl, by kernel_rfl, by kernel_rfl, by kernel_rfl⟩ (forall_nil) (fun k x => impl_isEpoch.hf k x.1) k
noncomputable def b142 : Code := Try.f142.body.getD .skip
theorem e142 : OM.Entry Try.prog 142 := ⟨_, Try.func142, by kernel_rfl, by kernel_rfl⟩
@[reducible] noncomputable def impl_isOff.g : Sig := ⟨[.fz (.int .i64)], [.v .bool .z], []⟩
@[reducible] noncomputable def impl_isOff.fk : Nat → denI impl_isOff.g.pms → Option (denR (outTys impl_isOff.g.rts impl_isOff.g.pms)) := fun k x => impl_isOff.f x.1
@[reducible] noncomputable def impl_isOff.sm (k : Nat) : Sm := ⟨142, impl_isOff.g.pms, impl_isOff.g.rts, impl_isOff.fk k⟩
noncomputable def impl_isOff.E (k : Nat) : Env := ⟨tys, [impl_within.sm k], [], [], []⟩
noncomputable def impl_isOff.pts : List (Pt (denR (outTys impl_isOff.g.rts impl_isOff.g.pms))) := []
theorem impl_isOff.hf (k : Nat) (a0 : Int) : (impl_isOff.f a0 : Option (denR (outTys impl_isOff.g.rts impl_isOff.g.pms))) = evC (impl_isOff.E k) (fun κ s => lhOf k κ s impl_isOff.pts) b142 (OM.start impl_isOff.g.pms 0 (a0, ())) (OM.fin impl_isOff.g Try.f142.results.toList) := by kernel_rfl
theorem impl_isOff.ok (k : Nat) : SmOk Try.prog (impl_isOff.sm k) :=
  sm_ok mixed (E := impl_isOff.E) (pts := impl_isOff.pts) (fun k => ⟨⟨tysOk, by kernel_rfl⟩, forall_cons ⟨impl_within.ok k, e81⟩ (forall_nil)⟩) (fun _ => rfl) (fun _ => rfl)
    ⟨Try.func142, by kernel_rfl, by kernel_rfl, by kernel_rfl, by kernel_rfl, by kernel_rfl, by kernel_rfl⟩ (forall_nil) (fun k x => impl_isOff.hf k x.1) k
noncomputable def b108 : Code := Try.f108.body.getD .skip
theorem e108 : OM.Entry Try.prog 108 := ⟨_, Try.func108, by kernel_rfl, by kernel_rfl⟩
@[reducible] noncomputable def impl_PlaceOk.g : Sig := ⟨[.fz (.int .i64)], [.v .bool .z], []⟩
@[reducible] noncomputable def impl_PlaceOk.fk : Nat → denI impl_PlaceOk.g.pms → Option (denR (outTys impl_PlaceOk.g.rts impl_PlaceOk.g.pms)) := fun k x => impl_PlaceOk.f x.1
@[reducible] noncomputable def impl_PlaceOk.sm (k : Nat) : Sm := ⟨108, impl_PlaceOk.g.pms, impl_PlaceOk.g.rts, impl_PlaceOk.fk k⟩
noncomputable def impl_PlaceOk.E (k : Nat) : Env := ⟨tys, [impl_isEpoch.sm k, impl_isOff.sm k], [], [], []⟩
noncomputable def impl_PlaceOk.pts : List (Pt (denR (outTys impl_PlaceOk.g.rts impl_PlaceOk.g.pms))) := []
theorem impl_PlaceOk.hf (k : Nat) (a0 : Int) : (impl_PlaceOk.f a0 : Option (denR (outTys impl_PlaceOk.g.rts impl_PlaceOk.g.pms))) = evC (impl_PlaceOk.E k) (fun κ s => lhOf k κ s impl_PlaceOk.pts) b108 (OM.start impl_PlaceOk.g.pms 0 (a0, ())) (OM.fin impl_PlaceOk.g Try.f108.results.toList) := by kernel_rfl
theorem impl_PlaceOk.ok (k : Nat) : SmOk Try.prog (impl_PlaceOk.sm k) :=
  sm_ok mixed (E := impl_PlaceOk.E) (pts := impl_PlaceOk.pts) (fun k => ⟨⟨tysOk, by kernel_rfl⟩, forall_cons ⟨impl_isEpoch.ok k, e110⟩ (forall_cons ⟨impl_isOff.ok k, e142⟩ (forall_nil))⟩) (fun _ => rfl) (fun _ => rfl)
    ⟨Try.func108, by kernel_rfl, by kernel_rfl, by kernel_rfl, by kernel_rfl, by kernel_rfl, by kernel_rfl⟩ (forall_nil) (fun k x => impl_PlaceOk.hf k x.1) k
noncomputable def b109 : Code := Try.f109.body.getD .skip
theorem e109 : OM.Entry Try.prog 109 := ⟨_, Try.func109, by kernel_rfl, by kernel_rfl⟩
@[reducible] noncomputable def impl_dataOk.g : Sig := ⟨[.fz .str], [.v .bool .z], []⟩
@[reducible] noncomputable def impl_dataOk.fk : Nat → denI impl_dataOk.g.pms → Option (denR (outTys impl_dataOk.g.rts impl_dataOk.g.pms)) := fun k x => impl_dataOk.f x.1
@[reducible] noncomputable def impl_dataOk.sm (k : Nat) : Sm := ⟨109, impl_dataOk.g.pms, impl_dataOk.g.rts, impl_dataOk.fk k⟩
noncomputable def impl_dataOk.E (k : Nat) : Env := ⟨tys, [], [], [], []⟩
noncomputable def impl_dataOk.pts : List (Pt (denR (outTys impl_dataOk.g.rts impl_dataOk.g.pms))) := []
theorem impl_dataOk.hf (k : Nat) (a0 : ByteArray) : (impl_dataOk.f a0 : Option (denR (outTys impl_dataOk.g.rts impl_dataOk.g.pms))) = evC (impl_dataOk.E k) (fun κ s => lhOf k κ s impl_dataOk.pts) b109 (OM.start impl_dataOk.g.pms 0 (a0, ())) (OM.fin impl_dataOk.g Try.f109.results.toList) := by kernel_rfl
theorem impl_dataOk.ok (k : Nat) : SmOk Try.prog (impl_dataOk.sm k) :=
  sm_ok mixed (E := impl_dataOk.E) (pts := impl_dataOk.pts) (fun k => ⟨⟨tysOk, by kernel_rfl⟩, forall_nil⟩) (fun _ => rfl) (fun _ => rfl)
    ⟨Try.func109, by kernel_rfl, by kernel_rfl, by kernel_rfl, by kernel_rfl, by kernel_rfl, by kernel_rfl⟩ (forall_nil) (fun k x => impl_dataOk.hf k x.1) k
noncomputable def b107 : Code := Try.f107.body.getD .skip
theorem e107 : OM.Entry Try.prog 107 := ⟨_, Try.func107, by kernel_rfl, by kernel_rfl⟩
@[reducible] noncomputable def impl_EpochOf.g : Sig := ⟨[.fz (.int .i64)], [.v (.int .i64) .z], []⟩
@[reducible] noncomputable def impl_EpochOf.fk : Nat → denI impl_EpochOf.g.pms → Option (denR (outTys impl_EpochOf.g.rts impl_EpochOf.g.pms)) := fun k x => impl_EpochOf.f x.1
@[reducible] noncomputable def impl_EpochOf.sm (k : Nat) : Sm := ⟨107, impl_EpochOf.g.pms, impl_EpochOf.g.rts, impl_EpochOf.fk k⟩
noncomputable def impl_EpochOf.E (k : Nat) : Env := ⟨tys, [impl_PlaceOk.sm k], [], [], []⟩
noncomputable def impl_EpochOf.pts : List (Pt (denR (outTys impl_EpochOf.g.rts impl_EpochOf.g.pms))) := []
theorem impl_EpochOf.hf (k : Nat) (a0 : Int) : (impl_EpochOf.f a0 : Option (denR (outTys impl_EpochOf.g.rts impl_EpochOf.g.pms))) = evC (impl_EpochOf.E k) (fun κ s => lhOf k κ s impl_EpochOf.pts) b107 (OM.start impl_EpochOf.g.pms 0 (a0, ())) (OM.fin impl_EpochOf.g Try.f107.results.toList) := by kernel_rfl
theorem impl_EpochOf.ok (k : Nat) : SmOk Try.prog (impl_EpochOf.sm k) :=
  sm_ok mixed (E := impl_EpochOf.E) (pts := impl_EpochOf.pts) (fun k => ⟨⟨tysOk, by kernel_rfl⟩, forall_cons ⟨impl_PlaceOk.ok k, e108⟩ (forall_nil)⟩) (fun _ => rfl) (fun _ => rfl)
    ⟨Try.func107, by kernel_rfl, by kernel_rfl, by kernel_rfl, by kernel_rfl, by kernel_rfl, by kernel_rfl⟩ (forall_nil) (fun k x => impl_EpochOf.hf k x.1) k
noncomputable def b53 : Code := Try.f53.body.getD .skip
theorem e53 : OM.Entry Try.prog 53 := ⟨_, Try.func53, by kernel_rfl, by kernel_rfl⟩
@[reducible] noncomputable def impl_EntryOk.g : Sig := ⟨[.fz tEntry], [.v .bool .z], []⟩
@[reducible] noncomputable def impl_EntryOk.fk : Nat → denI impl_EntryOk.g.pms → Option (denR (outTys impl_EntryOk.g.rts impl_EntryOk.g.pms)) := fun k x => impl_EntryOk.f k x.1
@[reducible] noncomputable def impl_EntryOk.sm (k : Nat) : Sm := ⟨53, impl_EntryOk.g.pms, impl_EntryOk.g.rts, impl_EntryOk.fk k⟩
noncomputable def impl_EntryOk.E (k : Nat) : Env := ⟨tys, [impl_within.sm k, impl_PlaceOk.sm k, impl_dataOk.sm k, impl_EpochOf.sm k], [], [2, 3], []⟩
@[reducible] noncomputable def impl_EntryOk.s4 : List Slot := [.r 4 5 [] tEntry, .v 12 .bool .z [] 0, .v 5 tEntry .z [] 0]
@[reducible] noncomputable def impl_EntryOk.s6 : List Slot := [.r 4 5 [] tEntry, .v 12 .bool .z [] 0, .v 16 .bool .z [] 0, .v 5 tEntry .z [] 0]
noncomputable def impl_EntryOk.pts : List (Pt (denR (outTys impl_EntryOk.g.rts impl_EntryOk.g.pms))) := [⟨4, impl_EntryOk.s4, fun k x => impl_EntryOk.p4 k x.1 x.2.1⟩, ⟨6, impl_EntryOk.s6, fun k x => impl_EntryOk.p6 k x.1 x.2.1 x.2.2.1⟩]
theorem impl_EntryOk.h4 (k : Nat) (x0 : Bool) (x1 : Entry) : (impl_EntryOk.p4 (k + 1) x0 x1 : Option (denR (outTys impl_EntryOk.g.rts impl_EntryOk.g.pms))) = evAt (impl_EntryOk.E k) (fun κ s => lhOf k κ s impl_EntryOk.pts) 4 b53 (unproj impl_EntryOk.s4 (x0, x1, ())) (OM.fin impl_EntryOk.g Try.f53.results.toList) := by kernel_rfl
theorem impl_EntryOk.h6 (k : Nat) (x0 : Bool) (x1 : Bool) (x2 : Entry) : (impl_EntryOk.p6 (k + 1) x0 x1 x2 : Option (denR (outTys impl_EntryOk.g.rts impl_EntryOk.g.pms))) = evAt (impl_EntryOk.E k) (fun κ s => lhOf k κ s impl_EntryOk.pts) 6 b53 (unproj impl_EntryOk.s6 (x0, x1, x2, ())) (OM.fin impl_EntryOk.g Try.f53.results.toList) := by kernel_rfl
theorem impl_EntryOk.hf (k : Nat) (a0 : Entry) : (impl_EntryOk.f k a0 : Option (denR (outTys impl_EntryOk.g.rts impl_EntryOk.g.pms))) = evC (impl_EntryOk.E k) (fun κ s => lhOf k κ s impl_EntryOk.pts) b53 (OM.start impl_EntryOk.g.pms 0 (a0, ())) (OM.fin impl_EntryOk.g Try.f53.results.toList) := by kernel_rfl
theorem impl_EntryOk.ok (k : Nat) : SmOk Try.prog (impl_EntryOk.sm k) :=
  sm_ok mixed (E := impl_EntryOk.E) (pts := impl_EntryOk.pts) (fun k => ⟨⟨tysOk, by kernel_rfl⟩, forall_cons ⟨impl_within.ok k, e81⟩ (forall_cons ⟨impl_PlaceOk.ok k, e108⟩ (forall_cons ⟨impl_dataOk.ok k, e109⟩ (forall_cons ⟨impl_EpochOf.ok k, e107⟩ (forall_nil))))⟩) (fun _ => rfl) (fun _ => rfl)
    ⟨Try.func53, by kernel_rfl, by kernel_rfl, by kernel_rfl, by kernel_rfl, by kernel_rfl, by kernel_rfl⟩ (forall_cons (fun x => ⟨rfl, fun k => impl_EntryOk.h4 k x.1 x.2.1⟩) (forall_cons (fun x => ⟨rfl, fun k => impl_EntryOk.h6 k x.1 x.2.1 x.2.2.1⟩) (forall_nil))) (fun k x => impl_EntryOk.hf k x.1) k
noncomputable def b79 : Code := Try.f79.body.getD .skip
theorem e79 : OM.Entry Try.prog 79 := ⟨_, Try.func79, by kernel_rfl, by kernel_rfl⟩
@[reducible] noncomputable def impl_entriesOk.g : Sig := ⟨[.fz (.sl tEntry)], [.v .bool .z], []⟩
@[reducible] noncomputable def impl_entriesOk.fk : Nat → denI impl_entriesOk.g.pms → Option (denR (outTys impl_entriesOk.g.rts impl_entriesOk.g.pms)) := fun k x => impl_entriesOk.f k x.1
@[reducible] noncomputable def impl_entriesOk.sm (k : Nat) : Sm := ⟨79, impl_entriesOk.g.pms, impl_entriesOk.g.rts, impl_entriesOk.fk k⟩
noncomputable def impl_entriesOk.E (k : Nat) : Env := ⟨tys, [impl_EntryOk.sm k], [10], [], []⟩
@[reducible] noncomputable def impl_entriesOk.s5 : List Slot := [.v 20 (.sl tEntry) .z [] 0, .v 24 (.int .i64) .z [] 0, .v 28 (.int .i64) .z [] 0]
noncomputable def impl_entriesOk.pts : List (Pt (denR (outTys impl_entriesOk.g.rts impl_entriesOk.g.pms))) := [⟨5, impl_entriesOk.s5, fun k x => impl_entriesOk.p5 k x.1 x.2.1 x.2.2.1⟩]
theorem impl_entriesOk.h5 (k : Nat) (x0 : (List Entry)) (x1 : Int) (x2 : Int) : (impl_entriesOk.p5 (k + 1) x0 x1 x2 : Option (denR (outTys impl_entriesOk.g.rts impl_entriesOk.g.pms))) = evAt (impl_entriesOk.E k) (fun κ s => lhOf k κ s impl_entriesOk.pts) 5 b79 (unproj impl_entriesOk.s5 (x0, x1, x2, ())) (OM.fin impl_entriesOk.g Try.f79.results.toList) := by kernel_rfl
theorem impl_entriesOk.hf (k : Nat) (a0 : (List Entry)) : (impl_entriesOk.f k a0 : Option (denR (outTys impl_entriesOk.g.rts impl_entriesOk.g.pms))) = evC (impl_entriesOk.E k) (fun κ s => lhOf k κ s impl_entriesOk.pts) b79 (OM.start impl_entriesOk.g.pms 0 (a0, ())) (OM.fin impl_entriesOk.g Try.f79.results.toList) := by kernel_rfl
theorem impl_entriesOk.ok (k : Nat) : SmOk Try.prog (impl_entriesOk.sm k) :=
  sm_ok mixed (E := impl_entriesOk.E) (pts := impl_entriesOk.pts) (fun k => ⟨⟨tysOk, by kernel_rfl⟩, forall_cons ⟨impl_EntryOk.ok k, e53⟩ (forall_nil)⟩) (fun _ => rfl) (fun _ => rfl)
    ⟨Try.func79, by kernel_rfl, by kernel_rfl, by kernel_rfl, by kernel_rfl, by kernel_rfl, by kernel_rfl⟩ (forall_cons (fun x => ⟨rfl, fun k => impl_entriesOk.h5 k x.1 x.2.1 x.2.2.1⟩) (forall_nil)) (fun k x => impl_entriesOk.hf k x.1) k
noncomputable def b80 : Code := Try.f80.body.getD .skip
theorem e80 : OM.Entry Try.prog 80 := ⟨_, Try.func80, by kernel_rfl, by kernel_rfl⟩
@[reducible] noncomputable def impl_placesAscend.g : Sig := ⟨[.fz (.sl tEntry)], [.v .bool .z], []⟩
@[reducible] noncomputable def impl_placesAscend.fk : Nat → denI impl_placesAscend.g.pms → Option (denR (outTys impl_placesAscend.g.rts impl_placesAscend.g.pms)) := fun k x => impl_placesAscend.f k x.1
@[reducible] noncomputable def impl_placesAscend.sm (k : Nat) : Sm := ⟨80, impl_placesAscend.g.pms, impl_placesAscend.g.rts, impl_placesAscend.fk k⟩
noncomputable def impl_placesAscend.E (k : Nat) : Env := ⟨tys, [], [11], [], []⟩
@[reducible] noncomputable def impl_placesAscend.s5 : List Slot := [.v 0 (.sl tEntry) .z [] 0, .v 20 (.sl tEntry) .z [] 0, .v 24 (.int .i64) .z [] 0, .v 28 (.int .i64) .z [] 0]
noncomputable def impl_placesAscend.pts : List (Pt (denR (outTys impl_placesAscend.g.rts impl_placesAscend.g.pms))) := [⟨5, impl_placesAscend.s5, fun k x => impl_placesAscend.p5 k x.1 x.2.1 x.2.2.1 x.2.2.2.1⟩]
theorem impl_placesAscend.h5 (k : Nat) (x0 : (List Entry)) (x1 : (List Entry)) (x2 : Int) (x3 : Int) : (impl_placesAscend.p5 (k + 1) x0 x1 x2 x3 : Option (denR (outTys impl_placesAscend.g.rts impl_placesAscend.g.pms))) = evAt (impl_placesAscend.E k) (fun κ s => lhOf k κ s impl_placesAscend.pts) 5 b80 (unproj impl_placesAscend.s5 (x0, x1, x2, x3, ())) (OM.fin impl_placesAscend.g Try.f80.results.toList) := by kernel_rfl
theorem impl_placesAscend.hf (k : Nat) (a0 : (List Entry)) : (impl_placesAscend.f k a0 : Option (denR (outTys impl_placesAscend.g.rts impl_placesAscend.g.pms))) = evC (impl_placesAscend.E k) (fun κ s => lhOf k κ s impl_placesAscend.pts) b80 (OM.start impl_placesAscend.g.pms 0 (a0, ())) (OM.fin impl_placesAscend.g Try.f80.results.toList) := by kernel_rfl
theorem impl_placesAscend.ok (k : Nat) : SmOk Try.prog (impl_placesAscend.sm k) :=
  sm_ok mixed (E := impl_placesAscend.E) (pts := impl_placesAscend.pts) (fun k => ⟨⟨tysOk, by kernel_rfl⟩, forall_nil⟩) (fun _ => rfl) (fun _ => rfl)
    ⟨Try.func80, by kernel_rfl, by kernel_rfl, by kernel_rfl, by kernel_rfl, by kernel_rfl, by kernel_rfl⟩ (forall_cons (fun x => ⟨rfl, fun k => impl_placesAscend.h5 k x.1 x.2.1 x.2.2.1 x.2.2.2.1⟩) (forall_nil)) (fun k x => impl_placesAscend.hf k x.1) k
noncomputable def b30 : Code := Try.f30.body.getD .skip
theorem e30 : OM.Entry Try.prog 30 := ⟨_, Try.func30, by kernel_rfl, by kernel_rfl⟩
@[reducible] noncomputable def impl_StoreOk.g : Sig := ⟨[.fz tStore], [.v .bool .z], []⟩
@[reducible] noncomputable def impl_StoreOk.fk : Nat → denI impl_StoreOk.g.pms → Option (denR (outTys impl_StoreOk.g.rts impl_StoreOk.g.pms)) := fun k x => impl_StoreOk.f k x.1
@[reducible] noncomputable def impl_StoreOk.sm (k : Nat) : Sm := ⟨30, impl_StoreOk.g.pms, impl_StoreOk.g.rts, impl_StoreOk.fk k⟩
noncomputable def impl_StoreOk.E (k : Nat) : Env := ⟨tys, [impl_within.sm k, impl_entriesOk.sm k, impl_placesAscend.sm k], [], [], []⟩
noncomputable def impl_StoreOk.pts : List (Pt (denR (outTys impl_StoreOk.g.rts impl_StoreOk.g.pms))) := []
theorem impl_StoreOk.hf (k : Nat) (a0 : Store) : (impl_StoreOk.f k a0 : Option (denR (outTys impl_StoreOk.g.rts impl_StoreOk.g.pms))) = evC (impl_StoreOk.E k) (fun κ s => lhOf k κ s impl_StoreOk.pts) b30 (OM.start impl_StoreOk.g.pms 0 (a0, ())) (OM.fin impl_StoreOk.g Try.f30.results.toList) := by kernel_rfl
theorem impl_StoreOk.ok (k : Nat) : SmOk Try.prog (impl_StoreOk.sm k) :=
  sm_ok mixed (E := impl_StoreOk.E) (pts := impl_StoreOk.pts) (fun k => ⟨⟨tysOk, by kernel_rfl⟩, forall_cons ⟨impl_within.ok k, e81⟩ (forall_cons ⟨impl_entriesOk.ok k, e79⟩ (forall_cons ⟨impl_placesAscend.ok k, e80⟩ (forall_nil)))⟩) (fun _ => rfl) (fun _ => rfl)
    ⟨Try.func30, by kernel_rfl, by kernel_rfl, by kernel_rfl, by kernel_rfl, by kernel_rfl, by kernel_rfl⟩ (forall_nil) (fun k x => impl_StoreOk.hf k x.1) k
noncomputable def b121 : Code := Try.f121.body.getD .skip
theorem e121 : OM.Entry Try.prog 121 := ⟨_, Try.func121, by kernel_rfl, by kernel_rfl⟩
@[reducible] noncomputable def impl_placeIn_1.g : Sig := ⟨[.fz tEntry, .fz (.int .i64)], [.v (.int .i64) .z], []⟩
@[reducible] noncomputable def impl_placeIn_1.fk : Nat → denI impl_placeIn_1.g.pms → Option (denR (outTys impl_placeIn_1.g.rts impl_placeIn_1.g.pms)) := fun k x => impl_placeIn_1.f x.1 x.2.1
@[reducible] noncomputable def impl_placeIn_1.sm (k : Nat) : Sm := ⟨121, impl_placeIn_1.g.pms, impl_placeIn_1.g.rts, impl_placeIn_1.fk k⟩
noncomputable def impl_placeIn_1.E (k : Nat) : Env := ⟨tys, [], [], [], []⟩
noncomputable def impl_placeIn_1.pts : List (Pt (denR (outTys impl_placeIn_1.g.rts impl_placeIn_1.g.pms))) := []
theorem impl_placeIn_1.hf (k : Nat) (a0 : Entry) (a1 : Int) : (impl_placeIn_1.f a0 a1 : Option (denR (outTys impl_placeIn_1.g.rts impl_placeIn_1.g.pms))) = evC (impl_placeIn_1.E k) (fun κ s => lhOf k κ s impl_placeIn_1.pts) b121 (OM.start impl_placeIn_1.g.pms 0 (a0, a1, ())) (OM.fin impl_placeIn_1.g Try.f121.results.toList) := by kernel_rfl
theorem impl_placeIn_1.ok (k : Nat) : SmOk Try.prog (impl_placeIn_1.sm k) :=
  sm_ok mixed (E := impl_placeIn_1.E) (pts := impl_placeIn_1.pts) (fun k => ⟨⟨tysOk, by kernel_rfl⟩, forall_nil⟩) (fun _ => rfl) (fun _ => rfl)
    ⟨Try.func121, by kernel_rfl, by kernel_rfl, by kernel_rfl, by kernel_rfl, by kernel_rfl, by kernel_rfl⟩ (forall_nil) (fun k x => impl_placeIn_1.hf k x.1 x.2.1) k
noncomputable def b120 : Code := Try.f120.body.getD .skip
theorem e120 : OM.Entry Try.prog 120 := ⟨_, Try.func120, by kernel_rfl, by kernel_rfl⟩
@[reducible] noncomputable def slices_BinarySearchFunc_impl_Entry_impl_Entry_int_impl_placeIn_1.g : Sig := ⟨[.fz (.sl tEntry), .fz (.int .i64), .fz (.fn 121 .unit)], [.v (.int .i64) .z, .v .bool .z], []⟩
@[reducible] noncomputable def slices_BinarySearchFunc_impl_Entry_impl_Entry_int_impl_placeIn_1.fk : Nat → denI slices_BinarySearchFunc_impl_Entry_impl_Entry_int_impl_placeIn_1.g.pms → Option (denR (outTys slices_BinarySearchFunc_impl_Entry_impl_Entry_int_impl_placeIn_1.g.rts slices_BinarySearchFunc_impl_Entry_impl_Entry_int_impl_placeIn_1.g.pms)) := fun k x => slices_BinarySearchFunc_impl_Entry_impl_Entry_int_impl_placeIn_1.f k x.1 x.2.1 x.2.2.1
@[reducible] noncomputable def slices_BinarySearchFunc_impl_Entry_impl_Entry_int_impl_placeIn_1.sm (k : Nat) : Sm := ⟨120, slices_BinarySearchFunc_impl_Entry_impl_Entry_int_impl_placeIn_1.g.pms, slices_BinarySearchFunc_impl_Entry_impl_Entry_int_impl_placeIn_1.g.rts, slices_BinarySearchFunc_impl_Entry_impl_Entry_int_impl_placeIn_1.fk k⟩
noncomputable def slices_BinarySearchFunc_impl_Entry_impl_Entry_int_impl_placeIn_1.E (k : Nat) : Env := ⟨tys, [impl_placeIn_1.sm k], [34], [], []⟩
@[reducible] noncomputable def slices_BinarySearchFunc_impl_Entry_impl_Entry_int_impl_placeIn_1.s7 : List Slot := [.v 0 (.sl tEntry) .z [] 0, .v 4 (.int .i64) .z [] 0, .v 8 (.fn 121 .unit) .z [] 0, .v 32 (.int .i64) .z [] 0, .v 36 (.int .i64) .z [] 0, .v 40 (.int .i64) .z [] 0]
noncomputable def slices_BinarySearchFunc_impl_Entry_impl_Entry_int_impl_placeIn_1.pts : List (Pt (denR (outTys slices_BinarySearchFunc_impl_Entry_impl_Entry_int_impl_placeIn_1.g.rts slices_BinarySearchFunc_impl_Entry_impl_Entry_int_impl_placeIn_1.g.pms))) := [⟨7, slices_BinarySearchFunc_impl_Entry_impl_Entry_int_impl_placeIn_1.s7, fun k x => slices_BinarySearchFunc_impl_Entry_impl_Entry_int_impl_placeIn_1.p7 k x.1 x.2.1 x.2.2.1 x.2.2.2.1 x.2.2.2.2.1 x.2.2.2.2.2.1⟩]
theorem slices_BinarySearchFunc_impl_Entry_impl_Entry_int_impl_placeIn_1.h7 (k : Nat) (x0 : (List Entry)) (x1 : Int) (x2 : Unit) (x3 : Int) (x4 : Int) (x5 : Int) : (slices_BinarySearchFunc_impl_Entry_impl_Entry_int_impl_placeIn_1.p7 (k + 1) x0 x1 x2 x3 x4 x5 : Option (denR (outTys slices_BinarySearchFunc_impl_Entry_impl_Entry_int_impl_placeIn_1.g.rts slices_BinarySearchFunc_impl_Entry_impl_Entry_int_impl_placeIn_1.g.pms))) = evAt (slices_BinarySearchFunc_impl_Entry_impl_Entry_int_impl_placeIn_1.E k) (fun κ s => lhOf k κ s slices_BinarySearchFunc_impl_Entry_impl_Entry_int_impl_placeIn_1.pts) 7 b120 (unproj slices_BinarySearchFunc_impl_Entry_impl_Entry_int_impl_placeIn_1.s7 (x0, x1, x2, x3, x4, x5, ())) (OM.fin slices_BinarySearchFunc_impl_Entry_impl_Entry_int_impl_placeIn_1.g Try.f120.results.toList) := by kernel_rfl
theorem slices_BinarySearchFunc_impl_Entry_impl_Entry_int_impl_placeIn_1.hf (k : Nat) (a0 : (List Entry)) (a1 : Int) (a2 : Unit) : (slices_BinarySearchFunc_impl_Entry_impl_Entry_int_impl_placeIn_1.f k a0 a1 a2 : Option (denR (outTys slices_BinarySearchFunc_impl_Entry_impl_Entry_int_impl_placeIn_1.g.rts slices_BinarySearchFunc_impl_Entry_impl_Entry_int_impl_placeIn_1.g.pms))) = evC (slices_BinarySearchFunc_impl_Entry_impl_Entry_int_impl_placeIn_1.E k) (fun κ s => lhOf k κ s slices_BinarySearchFunc_impl_Entry_impl_Entry_int_impl_placeIn_1.pts) b120 (OM.start slices_BinarySearchFunc_impl_Entry_impl_Entry_int_impl_placeIn_1.g.pms 0 (a0, a1, a2, ())) (OM.fin slices_BinarySearchFunc_impl_Entry_impl_Entry_int_impl_placeIn_1.g Try.f120.results.toList) := by kernel_rfl
theorem slices_BinarySearchFunc_impl_Entry_impl_Entry_int_impl_placeIn_1.ok (k : Nat) : SmOk Try.prog (slices_BinarySearchFunc_impl_Entry_impl_Entry_int_impl_placeIn_1.sm k) :=
  sm_ok mixed (E := slices_BinarySearchFunc_impl_Entry_impl_Entry_int_impl_placeIn_1.E) (pts := slices_BinarySearchFunc_impl_Entry_impl_Entry_int_impl_placeIn_1.pts) (fun k => ⟨⟨tysOk, by kernel_rfl⟩, forall_cons ⟨impl_placeIn_1.ok k, e121⟩ (forall_nil)⟩) (fun _ => rfl) (fun _ => rfl)
    ⟨Try.func120, by kernel_rfl, by kernel_rfl, by kernel_rfl, by kernel_rfl, by kernel_rfl, by kernel_rfl⟩ (forall_cons (fun x => ⟨rfl, fun k => slices_BinarySearchFunc_impl_Entry_impl_Entry_int_impl_placeIn_1.h7 k x.1 x.2.1 x.2.2.1 x.2.2.2.1 x.2.2.2.2.1 x.2.2.2.2.2.1⟩) (forall_nil)) (fun k x => slices_BinarySearchFunc_impl_Entry_impl_Entry_int_impl_placeIn_1.hf k x.1 x.2.1 x.2.2.1) k
noncomputable def b68 : Code := Try.f68.body.getD .skip
theorem e68 : OM.Entry Try.prog 68 := ⟨_, Try.func68, by kernel_rfl, by kernel_rfl⟩
@[reducible] noncomputable def impl_placeIn.g : Sig := ⟨[.fz (.sl tEntry), .fz (.int .i64)], [.v (.int .i64) .z, .v .bool .z], []⟩
@[reducible] noncomputable def impl_placeIn.fk : Nat → denI impl_placeIn.g.pms → Option (denR (outTys impl_placeIn.g.rts impl_placeIn.g.pms)) := fun k x => impl_placeIn.f k x.1 x.2.1
@[reducible] noncomputable def impl_placeIn.sm (k : Nat) : Sm := ⟨68, impl_placeIn.g.pms, impl_placeIn.g.rts, impl_placeIn.fk k⟩
noncomputable def impl_placeIn.E (k : Nat) : Env := ⟨tys, [slices_BinarySearchFunc_impl_Entry_impl_Entry_int_impl_placeIn_1.sm k], [], [], []⟩
noncomputable def impl_placeIn.pts : List (Pt (denR (outTys impl_placeIn.g.rts impl_placeIn.g.pms))) := []
theorem impl_placeIn.hf (k : Nat) (a0 : (List Entry)) (a1 : Int) : (impl_placeIn.f k a0 a1 : Option (denR (outTys impl_placeIn.g.rts impl_placeIn.g.pms))) = evC (impl_placeIn.E k) (fun κ s => lhOf k κ s impl_placeIn.pts) b68 (OM.start impl_placeIn.g.pms 0 (a0, a1, ())) (OM.fin impl_placeIn.g Try.f68.results.toList) := by kernel_rfl
theorem impl_placeIn.ok (k : Nat) : SmOk Try.prog (impl_placeIn.sm k) :=
  sm_ok mixed (E := impl_placeIn.E) (pts := impl_placeIn.pts) (fun k => ⟨⟨tysOk, by kernel_rfl⟩, forall_cons ⟨slices_BinarySearchFunc_impl_Entry_impl_Entry_int_impl_placeIn_1.ok k, e120⟩ (forall_nil)⟩) (fun _ => rfl) (fun _ => rfl)
    ⟨Try.func68, by kernel_rfl, by kernel_rfl, by kernel_rfl, by kernel_rfl, by kernel_rfl, by kernel_rfl⟩ (forall_nil) (fun k x => impl_placeIn.hf k x.1 x.2.1) k
noncomputable def b115 : Code := Try.f115.body.getD .skip
theorem e115 : OM.Entry Try.prog 115 := ⟨_, Try.func115, by kernel_rfl, by kernel_rfl⟩
@[reducible] noncomputable def impl_Better.g : Sig := ⟨[.fz tEntry, .fz tEntry], [.v tEntry .z], []⟩
@[reducible] noncomputable def impl_Better.fk : Nat → denI impl_Better.g.pms → Option (denR (outTys impl_Better.g.rts impl_Better.g.pms)) := fun k x => impl_Better.f x.1 x.2.1
@[reducible] noncomputable def impl_Better.sm (k : Nat) : Sm := ⟨115, impl_Better.g.pms, impl_Better.g.rts, impl_Better.fk k⟩
noncomputable def impl_Better.E (k : Nat) : Env := ⟨tys, [], [], [], []⟩
noncomputable def impl_Better.pts : List (Pt (denR (outTys impl_Better.g.rts impl_Better.g.pms))) := []
theorem impl_Better.hf (k : Nat) (a0 : Entry) (a1 : Entry) : (impl_Better.f a0 a1 : Option (denR (outTys impl_Better.g.rts impl_Better.g.pms))) = evC (impl_Better.E k) (fun κ s => lhOf k κ s impl_Better.pts) b115 (OM.start impl_Better.g.pms 0 (a0, a1, ())) (OM.fin impl_Better.g Try.f115.results.toList) := by kernel_rfl
theorem impl_Better.ok (k : Nat) : SmOk Try.prog (impl_Better.sm k) :=
  sm_ok mixed (E := impl_Better.E) (pts := impl_Better.pts) (fun k => ⟨⟨tysOk, by kernel_rfl⟩, forall_nil⟩) (fun _ => rfl) (fun _ => rfl)
    ⟨Try.func115, by kernel_rfl, by kernel_rfl, by kernel_rfl, by kernel_rfl, by kernel_rfl, by kernel_rfl⟩ (forall_nil) (fun k x => impl_Better.hf k x.1 x.2.1) k
noncomputable def b114 : Code := Try.f114.body.getD .skip
theorem e114 : OM.Entry Try.prog 114 := ⟨_, Try.func114, by kernel_rfl, by kernel_rfl⟩
noncomputable def slices_Insert_impl_Entry_impl_Entry.rho : Shelf.Ren := ⟨fun n => cond (Nat.beq n 21) 114 (cond (Nat.beq n 27) 144 (cond (Nat.beq n 28) 145 (n))), fun n => cond (Nat.beq n 22) 24 (cond (Nat.beq n 0) 0 (cond (Nat.beq n 3) 3 (cond (Nat.beq n 4) 4 (n)))), fun n => n⟩
theorem slices_Insert_impl_Entry_impl_Entry.lay : InsF Try.prog slices_Insert_impl_Entry_impl_Entry.rho 40 (Ty.size tEntry) 40 (.agg #[.int .i64 0, .int .i64 0, .bool false, .string ⟨#[]⟩]) := { mixed := mixed, f21 := ⟨"slices.Insert[[]loop.example/g00178/impl.Entry,loop.example/g00178/impl.Entry]", #[24, 40], by kernel_rfl, (Try.func114).trans (congrArg some (by kernel_rfl))⟩, ov := fun args w => run_callFunc_extern (P := Try.prog) (f := 144) Try.func144 (by kernel_rfl) (by kernel_rfl) (by kernel_rfl) (e := Extern.SlicesOverlaps.overlaps #[24, 24] #[4]) (by kernel_rfl) args w, t0 := Try.underlying0, a0 := Try.isAgg0, z0 := Try.sizeOf0, v0 := Try.zeroValue0, t3 := Try.underlying3, a3 := Try.isAgg3, z3 := Try.sizeOf3, v3 := Try.zeroValue3, t4 := Try.underlying4, a4 := Try.isAgg4, z4 := Try.sizeOf4, v4 := Try.zeroValue4, t22 := Try.underlying24, a22 := Try.isAgg24, z22 := Try.sizeOf24, v22 := Try.zeroValue24, ie := by kernel_rfl, ze := Try.sizeOf40 }
@[reducible] noncomputable def slices_Insert_impl_Entry_impl_Entry.g : Sig := ⟨[.own (.sl tEntry) (.own .z), .fz (.int .i64), .fz (.sl tEntry)], [.v (.sl tEntry) (.own .z)], []⟩
@[reducible] noncomputable def slices_Insert_impl_Entry_impl_Entry.fk : Nat → denI slices_Insert_impl_Entry_impl_Entry.g.pms → Option (denR (outTys slices_Insert_impl_Entry_impl_Entry.g.rts slices_Insert_impl_Entry_impl_Entry.g.pms)) := fun k x => slices_Insert_impl_Entry_impl_Entry.f x.1 x.2.1 x.2.2.1
@[reducible] noncomputable def slices_Insert_impl_Entry_impl_Entry.sm (k : Nat) : Sm := ⟨114, slices_Insert_impl_Entry_impl_Entry.g.pms, slices_Insert_impl_Entry_impl_Entry.g.rts, slices_Insert_impl_Entry_impl_Entry.fk k⟩
theorem slices_Insert_impl_Entry_impl_Entry.ok (k : Nat) : SmOk Try.prog (slices_Insert_impl_Entry_impl_Entry.sm k) :=
  ins_ok (E := ⟨tys, [], [], [], []⟩) ⟨tysOk, rfl⟩ slices_Insert_impl_Entry_impl_Entry.lay (by kernel_rfl) (by decide) (by kernel_rfl) (by decide)

noncomputable def b59 : Code := Try.f59.body.getD .skip
theorem e59 : OM.Entry Try.prog 59 := ⟨_, Try.func59, by kernel_rfl, by kernel_rfl⟩
@[reducible] noncomputable def impl_kept.g : Sig := ⟨[.own (.sl tEntry) (.own .z), .fz tEntry], [.v (.sl tEntry) (.own .z)], []⟩
@[reducible] noncomputable def impl_kept.fk : Nat → denI impl_kept.g.pms → Option (denR (outTys impl_kept.g.rts impl_kept.g.pms)) := fun k x => impl_kept.f k x.1 x.2.1
@[reducible] noncomputable def impl_kept.sm (k : Nat) : Sm := ⟨59, impl_kept.g.pms, impl_kept.g.rts, impl_kept.fk k⟩
noncomputable def impl_kept.E (k : Nat) : Env := ⟨tys, [impl_placeIn.sm k, impl_Better.sm k, slices_Insert_impl_Entry_impl_Entry.sm k], [18], [], []⟩
noncomputable def impl_kept.pts : List (Pt (denR (outTys impl_kept.g.rts impl_kept.g.pms))) := []
theorem impl_kept.hf (k : Nat) (a0 : (List Entry)) (a1 : Entry) : (impl_kept.f k a0 a1 : Option (denR (outTys impl_kept.g.rts impl_kept.g.pms))) = evC (impl_kept.E k) (fun κ s => lhOf k κ s impl_kept.pts) b59 (OM.start impl_kept.g.pms 0 (a0, a1, ())) (OM.fin impl_kept.g Try.f59.results.toList) := by kernel_rfl
theorem impl_kept.ok (k : Nat) : SmOk Try.prog (impl_kept.sm k) :=
  sm_ok mixed (E := impl_kept.E) (pts := impl_kept.pts) (fun k => ⟨⟨tysOk, by kernel_rfl⟩, forall_cons ⟨impl_placeIn.ok k, e68⟩ (forall_cons ⟨impl_Better.ok k, e115⟩ (forall_cons ⟨slices_Insert_impl_Entry_impl_Entry.ok k, e114⟩ (forall_nil)))⟩) (fun _ => rfl) (fun _ => rfl)
    ⟨Try.func59, by kernel_rfl, by kernel_rfl, by kernel_rfl, by kernel_rfl, by kernel_rfl, by kernel_rfl⟩ (forall_nil) (fun k x => impl_kept.hf k x.1 x.2.1) k
noncomputable def b12 : Code := Try.f12.body.getD .skip
theorem e12 : OM.Entry Try.prog 12 := ⟨_, Try.func12, by kernel_rfl, by kernel_rfl⟩
@[reducible] noncomputable def impl_Union.g : Sig := ⟨[.fz (.sl tStore)], [.v (.sl tEntry) (.own .z)], []⟩
@[reducible] noncomputable def impl_Union.fk : Nat → denI impl_Union.g.pms → Option (denR (outTys impl_Union.g.rts impl_Union.g.pms)) := fun k x => impl_Union.f k x.1
@[reducible] noncomputable def impl_Union.sm (k : Nat) : Sm := ⟨12, impl_Union.g.pms, impl_Union.g.rts, impl_Union.fk k⟩
noncomputable def impl_Union.E (k : Nat) : Env := ⟨tys, [impl_StoreOk.sm k, impl_kept.sm k], [14, 24], [], []⟩
@[reducible] noncomputable def impl_Union.s7 : List Slot := [.v 12 (.sl tEntry) (.own .z) [] 0, .v 36 (.sl tStore) .z [] 0, .v 40 (.int .i64) .z [] 0, .v 44 (.int .i64) .z [] 0]
@[reducible] noncomputable def impl_Union.s17 : List Slot := [.v 12 (.sl tEntry) (.own .z) [] 0, .v 36 (.sl tStore) .z [] 0, .v 40 (.int .i64) .z [] 0, .v 44 (.int .i64) .z [] 0, .v 76 (.sl tEntry) .z [] 0, .v 80 (.int .i64) .z [] 0, .v 84 (.int .i64) .z [] 0]
noncomputable def impl_Union.pts : List (Pt (denR (outTys impl_Union.g.rts impl_Union.g.pms))) := [⟨7, impl_Union.s7, fun k x => impl_Union.p7 k x.1 x.2.1 x.2.2.1 x.2.2.2.1⟩, ⟨17, impl_Union.s17, fun k x => impl_Union.p17 k x.1 x.2.1 x.2.2.1 x.2.2.2.1 x.2.2.2.2.1 x.2.2.2.2.2.1 x.2.2.2.2.2.2.1⟩]
theorem impl_Union.h7 (k : Nat) (x0 : (List Entry)) (x1 : (List Store)) (x2 : Int) (x3 : Int) : (impl_Union.p7 (k + 1) x0 x1 x2 x3 : Option (denR (outTys impl_Union.g.rts impl_Union.g.pms))) = evAt (impl_Union.E k) (fun κ s => lhOf k κ s impl_Union.pts) 7 b12 (unproj impl_Union.s7 (x0, x1, x2, x3, ())) (OM.fin impl_Union.g Try.f12.results.toList) := by kernel_rfl
theorem impl_Union.h17 (k : Nat) (x0 : (List Entry)) (x1 : (List Store)) (x2 : Int) (x3 : Int) (x4 : (List Entry)) (x5 : Int) (x6 : Int) : (impl_Union.p17 (k + 1) x0 x1 x2 x3 x4 x5 x6 : Option (denR (outTys impl_Union.g.rts impl_Union.g.pms))) = evAt (impl_Union.E k) (fun κ s => lhOf k κ s impl_Union.pts) 17 b12 (unproj impl_Union.s17 (x0, x1, x2, x3, x4, x5, x6, ())) (OM.fin impl_Union.g Try.f12.results.toList) := by kernel_rfl
theorem impl_Union.hf (k : Nat) (a0 : (List Store)) : (impl_Union.f k a0 : Option (denR (outTys impl_Union.g.rts impl_Union.g.pms))) = evC (impl_Union.E k) (fun κ s => lhOf k κ s impl_Union.pts) b12 (OM.start impl_Union.g.pms 0 (a0, ())) (OM.fin impl_Union.g Try.f12.results.toList) := by kernel_rfl
theorem impl_Union.ok (k : Nat) : SmOk Try.prog (impl_Union.sm k) :=
  sm_ok mixed (E := impl_Union.E) (pts := impl_Union.pts) (fun k => ⟨⟨tysOk, by kernel_rfl⟩, forall_cons ⟨impl_StoreOk.ok k, e30⟩ (forall_cons ⟨impl_kept.ok k, e59⟩ (forall_nil))⟩) (fun _ => rfl) (fun _ => rfl)
    ⟨Try.func12, by kernel_rfl, by kernel_rfl, by kernel_rfl, by kernel_rfl, by kernel_rfl, by kernel_rfl⟩ (forall_cons (fun x => ⟨rfl, fun k => impl_Union.h7 k x.1 x.2.1 x.2.2.1 x.2.2.2.1⟩) (forall_cons (fun x => ⟨rfl, fun k => impl_Union.h17 k x.1 x.2.1 x.2.2.1 x.2.2.2.1 x.2.2.2.2.1 x.2.2.2.2.2.1 x.2.2.2.2.2.2.1⟩) (forall_nil))) (fun k x => impl_Union.hf k x.1) k
noncomputable def b25 : Code := Try.f25.body.getD .skip
theorem e25 : OM.Entry Try.prog 25 := ⟨_, Try.func25, by kernel_rfl, by kernel_rfl⟩
@[reducible] noncomputable def impl_Fill.g : Sig := ⟨[.fz tConfig, .fz (.sl tStore), .fz (.sl (.int .i64)), .fz (.int .i64), .fz (.int .i64)], [.v tStore (.two (.own .z) (.two (.own .a) .z)), .v .bool .z], []⟩
@[reducible] noncomputable def impl_Fill.fk : Nat → denI impl_Fill.g.pms → Option (denR (outTys impl_Fill.g.rts impl_Fill.g.pms)) := fun k x => impl_Fill.f k x.1 x.2.1 x.2.2.1 x.2.2.2.1 x.2.2.2.2.1
@[reducible] noncomputable def impl_Fill.sm (k : Nat) : Sm := ⟨25, impl_Fill.g.pms, impl_Fill.g.rts, impl_Fill.fk k⟩
noncomputable def impl_Fill.E (k : Nat) : Env := ⟨tys, [slices_Contains_int_int.sm k, impl_LostOk.sm k, impl_StoreOk.sm k, impl_Union.sm k], [42, 51, 57], [], []⟩
@[reducible] noncomputable def impl_Fill.s11 : List Slot := [.v 8 (.sl (.int .i64)) .z [] 0, .v 16 (.int .i64) .z [] 0, .r 40 41 [] tStore, .v 48 (.sl tStore) (.own .z) [] 0, .v 144 (.sl tStore) .z [] 0, .v 148 (.int .i64) .z [] 0, .v 152 (.int .i64) .z [] 0, .v 41 tStore (.two (.own .a) (.two (.own .a) .z)) [] 0]
noncomputable def impl_Fill.pts : List (Pt (denR (outTys impl_Fill.g.rts impl_Fill.g.pms))) := [⟨11, impl_Fill.s11, fun k x => impl_Fill.p11 k x.1 x.2.1 x.2.2.1 x.2.2.2.1 x.2.2.2.2.1 x.2.2.2.2.2.1 x.2.2.2.2.2.2.1⟩]
theorem impl_Fill.h11 (k : Nat) (x0 : (List Int)) (x1 : Int) (x2 : (List Store)) (x3 : (List Store)) (x4 : Int) (x5 : Int) (x6 : Store) : (impl_Fill.p11 (k + 1) x0 x1 x2 x3 x4 x5 x6 : Option (denR (outTys impl_Fill.g.rts impl_Fill.g.pms))) = evAt (impl_Fill.E k) (fun κ s => lhOf k κ s impl_Fill.pts) 11 b25 (unproj impl_Fill.s11 (x0, x1, x2, x3, x4, x5, x6, ())) (OM.fin impl_Fill.g Try.f25.results.toList) := by kernel_rfl
theorem impl_Fill.hf (k : Nat) (a0 : Config) (a1 : (List Store)) (a2 : (List Int)) (a3 : Int) (a4 : Int) : (impl_Fill.f k a0 a1 a2 a3 a4 : Option (denR (outTys impl_Fill.g.rts impl_Fill.g.pms))) = evC (impl_Fill.E k) (fun κ s => lhOf k κ s impl_Fill.pts) b25 (OM.start impl_Fill.g.pms 0 (a0, a1, a2, a3, a4, ())) (OM.fin impl_Fill.g Try.f25.results.toList) := by kernel_rfl
theorem impl_Fill.ok (k : Nat) : SmOk Try.prog (impl_Fill.sm k) :=
  sm_ok mixed (E := impl_Fill.E) (pts := impl_Fill.pts) (fun k => ⟨⟨tysOk, by kernel_rfl⟩, forall_cons ⟨slices_Contains_int_int.ok k, e73⟩ (forall_cons ⟨impl_LostOk.ok k, e27⟩ (forall_cons ⟨impl_StoreOk.ok k, e30⟩ (forall_cons ⟨impl_Union.ok k, e12⟩ (forall_nil))))⟩) (fun _ => rfl) (fun _ => rfl)
    ⟨Try.func25, by kernel_rfl, by kernel_rfl, by kernel_rfl, by kernel_rfl, by kernel_rfl, by kernel_rfl⟩ (forall_cons (fun x => ⟨rfl, fun k => impl_Fill.h11 k x.1 x.2.1 x.2.2.1 x.2.2.2.1 x.2.2.2.2.1 x.2.2.2.2.2.1 x.2.2.2.2.2.2.1⟩) (forall_nil)) (fun k x => impl_Fill.hf k x.1 x.2.1 x.2.2.1 x.2.2.2.1 x.2.2.2.2.1) k
noncomputable def b60 : Code := Try.f60.body.getD .skip
theorem e60 : OM.Entry Try.prog 60 := ⟨_, Try.func60, by kernel_rfl, by kernel_rfl⟩
@[reducible] noncomputable def laws_eqEntry.g : Sig := ⟨[.fz tEntry, .fz tEntry], [.v .bool .z], []⟩
@[reducible] noncomputable def laws_eqEntry.fk : Nat → denI laws_eqEntry.g.pms → Option (denR (outTys laws_eqEntry.g.rts laws_eqEntry.g.pms)) := fun k x => laws_eqEntry.f x.1 x.2.1
@[reducible] noncomputable def laws_eqEntry.sm (k : Nat) : Sm := ⟨60, laws_eqEntry.g.pms, laws_eqEntry.g.rts, laws_eqEntry.fk k⟩
noncomputable def laws_eqEntry.E (k : Nat) : Env := ⟨tys, [], [], [], [4]⟩
noncomputable def laws_eqEntry.pts : List (Pt (denR (outTys laws_eqEntry.g.rts laws_eqEntry.g.pms))) := []
theorem laws_eqEntry.hf (k : Nat) (a0 : Entry) (a1 : Entry) : (laws_eqEntry.f a0 a1 : Option (denR (outTys laws_eqEntry.g.rts laws_eqEntry.g.pms))) = evC (laws_eqEntry.E k) (fun κ s => lhOf k κ s laws_eqEntry.pts) b60 (OM.start laws_eqEntry.g.pms 0 (a0, a1, ())) (OM.fin laws_eqEntry.g Try.f60.results.toList) := by kernel_rfl
theorem laws_eqEntry.ok (k : Nat) : SmOk Try.prog (laws_eqEntry.sm k) :=
  sm_ok mixed (E := laws_eqEntry.E) (pts := laws_eqEntry.pts) (fun k => ⟨⟨tysOk, by kernel_rfl⟩, forall_nil⟩) (fun _ => rfl) (fun _ => rfl)
    ⟨Try.func60, by kernel_rfl, by kernel_rfl, by kernel_rfl, by kernel_rfl, by kernel_rfl, by kernel_rfl⟩ (forall_nil) (fun k x => laws_eqEntry.hf k x.1 x.2.1) k
noncomputable def b13 : Code := Try.f13.body.getD .skip
theorem e13 : OM.Entry Try.prog 13 := ⟨_, Try.func13, by kernel_rfl, by kernel_rfl⟩
@[reducible] noncomputable def laws_eqEntryS.g : Sig := ⟨[.fz (.sl tEntry), .fz (.sl tEntry)], [.v .bool .z], []⟩
@[reducible] noncomputable def laws_eqEntryS.fk : Nat → denI laws_eqEntryS.g.pms → Option (denR (outTys laws_eqEntryS.g.rts laws_eqEntryS.g.pms)) := fun k x => laws_eqEntryS.f k x.1 x.2.1
@[reducible] noncomputable def laws_eqEntryS.sm (k : Nat) : Sm := ⟨13, laws_eqEntryS.g.pms, laws_eqEntryS.g.rts, laws_eqEntryS.fk k⟩
noncomputable def laws_eqEntryS.E (k : Nat) : Env := ⟨tys, [laws_eqEntry.sm k], [], [], []⟩
@[reducible] noncomputable def laws_eqEntryS.s9 : List Slot := [.v 0 (.sl tEntry) .z [] 0, .v 4 (.sl tEntry) .z [] 0, .v 20 (.int .i64) .z [] 0]
noncomputable def laws_eqEntryS.pts : List (Pt (denR (outTys laws_eqEntryS.g.rts laws_eqEntryS.g.pms))) := [⟨9, laws_eqEntryS.s9, fun k x => laws_eqEntryS.p9 k x.1 x.2.1 x.2.2.1⟩]
theorem laws_eqEntryS.h9 (k : Nat) (x0 : (List Entry)) (x1 : (List Entry)) (x2 : Int) : (laws_eqEntryS.p9 (k + 1) x0 x1 x2 : Option (denR (outTys laws_eqEntryS.g.rts laws_eqEntryS.g.pms))) = evAt (laws_eqEntryS.E k) (fun κ s => lhOf k κ s laws_eqEntryS.pts) 9 b13 (unproj laws_eqEntryS.s9 (x0, x1, x2, ())) (OM.fin laws_eqEntryS.g Try.f13.results.toList) := by kernel_rfl
theorem laws_eqEntryS.hf (k : Nat) (a0 : (List Entry)) (a1 : (List Entry)) : (laws_eqEntryS.f k a0 a1 : Option (denR (outTys laws_eqEntryS.g.rts laws_eqEntryS.g.pms))) = evC (laws_eqEntryS.E k) (fun κ s => lhOf k κ s laws_eqEntryS.pts) b13 (OM.start laws_eqEntryS.g.pms 0 (a0, a1, ())) (OM.fin laws_eqEntryS.g Try.f13.results.toList) := by kernel_rfl
theorem laws_eqEntryS.ok (k : Nat) : SmOk Try.prog (laws_eqEntryS.sm k) :=
  sm_ok mixed (E := laws_eqEntryS.E) (pts := laws_eqEntryS.pts) (fun k => ⟨⟨tysOk, by kernel_rfl⟩, forall_cons ⟨laws_eqEntry.ok k, e60⟩ (forall_nil)⟩) (fun _ => rfl) (fun _ => rfl)
    ⟨Try.func13, by kernel_rfl, by kernel_rfl, by kernel_rfl, by kernel_rfl, by kernel_rfl, by kernel_rfl⟩ (forall_cons (fun x => ⟨rfl, fun k => laws_eqEntryS.h9 k x.1 x.2.1 x.2.2.1⟩) (forall_nil)) (fun k x => laws_eqEntryS.hf k x.1 x.2.1) k
noncomputable def b35 : Code := Try.f35.body.getD .skip
theorem e35 : OM.Entry Try.prog 35 := ⟨_, Try.func35, by kernel_rfl, by kernel_rfl⟩
@[reducible] noncomputable def laws_eqStore.g : Sig := ⟨[.fz tStore, .fz tStore], [.v .bool .z], []⟩
@[reducible] noncomputable def laws_eqStore.fk : Nat → denI laws_eqStore.g.pms → Option (denR (outTys laws_eqStore.g.rts laws_eqStore.g.pms)) := fun k x => laws_eqStore.f k x.1 x.2.1
@[reducible] noncomputable def laws_eqStore.sm (k : Nat) : Sm := ⟨35, laws_eqStore.g.pms, laws_eqStore.g.rts, laws_eqStore.fk k⟩
noncomputable def laws_eqStore.E (k : Nat) : Env := ⟨tys, [laws_eqEntryS.sm k], [], [], []⟩
noncomputable def laws_eqStore.pts : List (Pt (denR (outTys laws_eqStore.g.rts laws_eqStore.g.pms))) := []
theorem laws_eqStore.hf (k : Nat) (a0 : Store) (a1 : Store) : (laws_eqStore.f k a0 a1 : Option (denR (outTys laws_eqStore.g.rts laws_eqStore.g.pms))) = evC (laws_eqStore.E k) (fun κ s => lhOf k κ s laws_eqStore.pts) b35 (OM.start laws_eqStore.g.pms 0 (a0, a1, ())) (OM.fin laws_eqStore.g Try.f35.results.toList) := by kernel_rfl
theorem laws_eqStore.ok (k : Nat) : SmOk Try.prog (laws_eqStore.sm k) :=
  sm_ok mixed (E := laws_eqStore.E) (pts := laws_eqStore.pts) (fun k => ⟨⟨tysOk, by kernel_rfl⟩, forall_cons ⟨laws_eqEntryS.ok k, e13⟩ (forall_nil)⟩) (fun _ => rfl) (fun _ => rfl)
    ⟨Try.func35, by kernel_rfl, by kernel_rfl, by kernel_rfl, by kernel_rfl, by kernel_rfl, by kernel_rfl⟩ (forall_nil) (fun k x => laws_eqStore.hf k x.1 x.2.1) k
noncomputable def b37 : Code := Try.f37.body.getD .skip
theorem e37 : OM.Entry Try.prog 37 := ⟨_, Try.func37, by kernel_rfl, by kernel_rfl⟩
@[reducible] noncomputable def laws_eqIntS.g : Sig := ⟨[.fz (.sl (.int .i64)), .fz (.sl (.int .i64))], [.v .bool .z], []⟩
@[reducible] noncomputable def laws_eqIntS.fk : Nat → denI laws_eqIntS.g.pms → Option (denR (outTys laws_eqIntS.g.rts laws_eqIntS.g.pms)) := fun k x => laws_eqIntS.f k x.1 x.2.1
@[reducible] noncomputable def laws_eqIntS.sm (k : Nat) : Sm := ⟨37, laws_eqIntS.g.pms, laws_eqIntS.g.rts, laws_eqIntS.fk k⟩
noncomputable def laws_eqIntS.E (k : Nat) : Env := ⟨tys, [], [], [], []⟩
@[reducible] noncomputable def laws_eqIntS.s9 : List Slot := [.v 0 (.sl (.int .i64)) .z [] 0, .v 4 (.sl (.int .i64)) .z [] 0, .v 20 (.int .i64) .z [] 0]
noncomputable def laws_eqIntS.pts : List (Pt (denR (outTys laws_eqIntS.g.rts laws_eqIntS.g.pms))) := [⟨9, laws_eqIntS.s9, fun k x => laws_eqIntS.p9 k x.1 x.2.1 x.2.2.1⟩]
theorem laws_eqIntS.h9 (k : Nat) (x0 : (List Int)) (x1 : (List Int)) (x2 : Int) : (laws_eqIntS.p9 (k + 1) x0 x1 x2 : Option (denR (outTys laws_eqIntS.g.rts laws_eqIntS.g.pms))) = evAt (laws_eqIntS.E k) (fun κ s => lhOf k κ s laws_eqIntS.pts) 9 b37 (unproj laws_eqIntS.s9 (x0, x1, x2, ())) (OM.fin laws_eqIntS.g Try.f37.results.toList) := by kernel_rfl
theorem laws_eqIntS.hf (k : Nat) (a0 : (List Int)) (a1 : (List Int)) : (laws_eqIntS.f k a0 a1 : Option (denR (outTys laws_eqIntS.g.rts laws_eqIntS.g.pms))) = evC (laws_eqIntS.E k) (fun κ s => lhOf k κ s laws_eqIntS.pts) b37 (OM.start laws_eqIntS.g.pms 0 (a0, a1, ())) (OM.fin laws_eqIntS.g Try.f37.results.toList) := by kernel_rfl
theorem laws_eqIntS.ok (k : Nat) : SmOk Try.prog (laws_eqIntS.sm k) :=
  sm_ok mixed (E := laws_eqIntS.E) (pts := laws_eqIntS.pts) (fun k => ⟨⟨tysOk, by kernel_rfl⟩, forall_nil⟩) (fun _ => rfl) (fun _ => rfl)
    ⟨Try.func37, by kernel_rfl, by kernel_rfl, by kernel_rfl, by kernel_rfl, by kernel_rfl, by kernel_rfl⟩ (forall_cons (fun x => ⟨rfl, fun k => laws_eqIntS.h9 k x.1 x.2.1 x.2.2.1⟩) (forall_nil)) (fun k x => laws_eqIntS.hf k x.1 x.2.1) k
noncomputable def b36 : Code := Try.f36.body.getD .skip
theorem e36 : OM.Entry Try.prog 36 := ⟨_, Try.func36, by kernel_rfl, by kernel_rfl⟩
@[reducible] noncomputable def laws_eqConfig.g : Sig := ⟨[.fz tConfig, .fz tConfig], [.v .bool .z], []⟩
@[reducible] noncomputable def laws_eqConfig.fk : Nat → denI laws_eqConfig.g.pms → Option (denR (outTys laws_eqConfig.g.rts laws_eqConfig.g.pms)) := fun k x => laws_eqConfig.f k x.1 x.2.1
@[reducible] noncomputable def laws_eqConfig.sm (k : Nat) : Sm := ⟨36, laws_eqConfig.g.pms, laws_eqConfig.g.rts, laws_eqConfig.fk k⟩
noncomputable def laws_eqConfig.E (k : Nat) : Env := ⟨tys, [laws_eqIntS.sm k], [], [], []⟩
noncomputable def laws_eqConfig.pts : List (Pt (denR (outTys laws_eqConfig.g.rts laws_eqConfig.g.pms))) := []
theorem laws_eqConfig.hf (k : Nat) (a0 : Config) (a1 : Config) : (laws_eqConfig.f k a0 a1 : Option (denR (outTys laws_eqConfig.g.rts laws_eqConfig.g.pms))) = evC (laws_eqConfig.E k) (fun κ s => lhOf k κ s laws_eqConfig.pts) b36 (OM.start laws_eqConfig.g.pms 0 (a0, a1, ())) (OM.fin laws_eqConfig.g Try.f36.results.toList) := by kernel_rfl
theorem laws_eqConfig.ok (k : Nat) : SmOk Try.prog (laws_eqConfig.sm k) :=
  sm_ok mixed (E := laws_eqConfig.E) (pts := laws_eqConfig.pts) (fun k => ⟨⟨tysOk, by kernel_rfl⟩, forall_cons ⟨laws_eqIntS.ok k, e37⟩ (forall_nil)⟩) (fun _ => rfl) (fun _ => rfl)
    ⟨Try.func36, by kernel_rfl, by kernel_rfl, by kernel_rfl, by kernel_rfl, by kernel_rfl, by kernel_rfl⟩ (forall_nil) (fun k x => laws_eqConfig.hf k x.1 x.2.1) k
noncomputable def b14 : Code := Try.f14.body.getD .skip
theorem e14 : OM.Entry Try.prog 14 := ⟨_, Try.func14, by kernel_rfl, by kernel_rfl⟩
@[reducible] noncomputable def laws_eqStoreS.g : Sig := ⟨[.fz (.sl tStore), .fz (.sl tStore)], [.v .bool .z], []⟩
@[reducible] noncomputable def laws_eqStoreS.fk : Nat → denI laws_eqStoreS.g.pms → Option (denR (outTys laws_eqStoreS.g.rts laws_eqStoreS.g.pms)) := fun k x => laws_eqStoreS.f k x.1 x.2.1
@[reducible] noncomputable def laws_eqStoreS.sm (k : Nat) : Sm := ⟨14, laws_eqStoreS.g.pms, laws_eqStoreS.g.rts, laws_eqStoreS.fk k⟩
noncomputable def laws_eqStoreS.E (k : Nat) : Env := ⟨tys, [laws_eqStore.sm k], [], [], []⟩
@[reducible] noncomputable def laws_eqStoreS.s9 : List Slot := [.v 0 (.sl tStore) .z [] 0, .v 4 (.sl tStore) .z [] 0, .v 20 (.int .i64) .z [] 0]
noncomputable def laws_eqStoreS.pts : List (Pt (denR (outTys laws_eqStoreS.g.rts laws_eqStoreS.g.pms))) := [⟨9, laws_eqStoreS.s9, fun k x => laws_eqStoreS.p9 k x.1 x.2.1 x.2.2.1⟩]
theorem laws_eqStoreS.h9 (k : Nat) (x0 : (List Store)) (x1 : (List Store)) (x2 : Int) : (laws_eqStoreS.p9 (k + 1) x0 x1 x2 : Option (denR (outTys laws_eqStoreS.g.rts laws_eqStoreS.g.pms))) = evAt (laws_eqStoreS.E k) (fun κ s => lhOf k κ s laws_eqStoreS.pts) 9 b14 (unproj laws_eqStoreS.s9 (x0, x1, x2, ())) (OM.fin laws_eqStoreS.g Try.f14.results.toList) := by kernel_rfl
theorem laws_eqStoreS.hf (k : Nat) (a0 : (List Store)) (a1 : (List Store)) : (laws_eqStoreS.f k a0 a1 : Option (denR (outTys laws_eqStoreS.g.rts laws_eqStoreS.g.pms))) = evC (laws_eqStoreS.E k) (fun κ s => lhOf k κ s laws_eqStoreS.pts) b14 (OM.start laws_eqStoreS.g.pms 0 (a0, a1, ())) (OM.fin laws_eqStoreS.g Try.f14.results.toList) := by kernel_rfl
theorem laws_eqStoreS.ok (k : Nat) : SmOk Try.prog (laws_eqStoreS.sm k) :=
  sm_ok mixed (E := laws_eqStoreS.E) (pts := laws_eqStoreS.pts) (fun k => ⟨⟨tysOk, by kernel_rfl⟩, forall_cons ⟨laws_eqStore.ok k, e35⟩ (forall_nil)⟩) (fun _ => rfl) (fun _ => rfl)
    ⟨Try.func14, by kernel_rfl, by kernel_rfl, by kernel_rfl, by kernel_rfl, by kernel_rfl, by kernel_rfl⟩ (forall_cons (fun x => ⟨rfl, fun k => laws_eqStoreS.h9 k x.1 x.2.1 x.2.2.1⟩) (forall_nil)) (fun k x => laws_eqStoreS.hf k x.1 x.2.1) k
noncomputable def b39 : Code := Try.f39.body.getD .skip
theorem e39 : OM.Entry Try.prog 39 := ⟨_, Try.func39, by kernel_rfl, by kernel_rfl⟩
@[reducible] noncomputable def laws_markIntS.g : Sig := ⟨[.mut (.sl (.int .i64)) (.own .z), .fz (.int .i64)], [.v (.int .i64) .z], [0]⟩
@[reducible] noncomputable def laws_markIntS.fk : Nat → denI laws_markIntS.g.pms → Option (denR (outTys laws_markIntS.g.rts laws_markIntS.g.pms)) := fun k x => laws_markIntS.f k x.1 x.2.1
@[reducible] noncomputable def laws_markIntS.sm (k : Nat) : Sm := ⟨39, laws_markIntS.g.pms, laws_markIntS.g.rts, laws_markIntS.fk k⟩
noncomputable def laws_markIntS.E (k : Nat) : Env := ⟨tys, [], [], [], []⟩
@[reducible] noncomputable def laws_markIntS.s5 : List Slot := [.v 0 (.sl (.int .i64)) (.own .z) [] 1, .v 4 (.int .i64) .z [] 0, .v 20 (.int .i64) .z [] 0]
noncomputable def laws_markIntS.pts : List (Pt (denR (outTys laws_markIntS.g.rts laws_markIntS.g.pms))) := [⟨5, laws_markIntS.s5, fun k x => laws_markIntS.p5 k x.1 x.2.1 x.2.2.1⟩]
theorem laws_markIntS.h5 (k : Nat) (x0 : (List Int)) (x1 : Int) (x2 : Int) : (laws_markIntS.p5 (k + 1) x0 x1 x2 : Option (denR (outTys laws_markIntS.g.rts laws_markIntS.g.pms))) = evAt (laws_markIntS.E k) (fun κ s => lhOf k κ s laws_markIntS.pts) 5 b39 (unproj laws_markIntS.s5 (x0, x1, x2, ())) (OM.fin laws_markIntS.g Try.f39.results.toList) := by kernel_rfl
theorem laws_markIntS.hf (k : Nat) (a0 : (List Int)) (a1 : Int) : (laws_markIntS.f k a0 a1 : Option (denR (outTys laws_markIntS.g.rts laws_markIntS.g.pms))) = evC (laws_markIntS.E k) (fun κ s => lhOf k κ s laws_markIntS.pts) b39 (OM.start laws_markIntS.g.pms 0 (a0, a1, ())) (OM.fin laws_markIntS.g Try.f39.results.toList) := by kernel_rfl
theorem laws_markIntS.ok (k : Nat) : SmOk Try.prog (laws_markIntS.sm k) :=
  sm_ok mixed (E := laws_markIntS.E) (pts := laws_markIntS.pts) (fun k => ⟨⟨tysOk, by kernel_rfl⟩, forall_nil⟩) (fun _ => rfl) (fun _ => rfl)
    ⟨Try.func39, by kernel_rfl, by kernel_rfl, by kernel_rfl, by kernel_rfl, by kernel_rfl, by kernel_rfl⟩ (forall_cons (fun x => ⟨rfl, fun k => laws_markIntS.h5 k x.1 x.2.1 x.2.2.1⟩) (forall_nil)) (fun k x => laws_markIntS.hf k x.1 x.2.1) k
noncomputable def b38 : Code := Try.f38.body.getD .skip
theorem e38 : OM.Entry Try.prog 38 := ⟨_, Try.func38, by kernel_rfl, by kernel_rfl⟩
@[reducible] noncomputable def laws_markConfig.g : Sig := ⟨[.mut tConfig (.two (.own .z) .z), .fz (.int .i64)], [.v (.int .i64) .z], [9]⟩
@[reducible] noncomputable def laws_markConfig.fk : Nat → denI laws_markConfig.g.pms → Option (denR (outTys laws_markConfig.g.rts laws_markConfig.g.pms)) := fun k x => laws_markConfig.f k x.1 x.2.1
@[reducible] noncomputable def laws_markConfig.sm (k : Nat) : Sm := ⟨38, laws_markConfig.g.pms, laws_markConfig.g.rts, laws_markConfig.fk k⟩
noncomputable def laws_markConfig.E (k : Nat) : Env := ⟨tys, [laws_markIntS.sm k], [], [], []⟩
noncomputable def laws_markConfig.pts : List (Pt (denR (outTys laws_markConfig.g.rts laws_markConfig.g.pms))) := []
theorem laws_markConfig.hf (k : Nat) (a0 : Config) (a1 : Int) : (laws_markConfig.f k a0 a1 : Option (denR (outTys laws_markConfig.g.rts laws_markConfig.g.pms))) = evC (laws_markConfig.E k) (fun κ s => lhOf k κ s laws_markConfig.pts) b38 (OM.start laws_markConfig.g.pms 0 (a0, a1, ())) (OM.fin laws_markConfig.g Try.f38.results.toList) := by kernel_rfl
theorem laws_markConfig.ok (k : Nat) : SmOk Try.prog (laws_markConfig.sm k) :=
  sm_ok mixed (E := laws_markConfig.E) (pts := laws_markConfig.pts) (fun k => ⟨⟨tysOk, by kernel_rfl⟩, forall_cons ⟨laws_markIntS.ok k, e39⟩ (forall_nil)⟩) (fun _ => rfl) (fun _ => rfl)
    ⟨Try.func38, by kernel_rfl, by kernel_rfl, by kernel_rfl, by kernel_rfl, by kernel_rfl, by kernel_rfl⟩ (forall_nil) (fun k x => laws_markConfig.hf k x.1 x.2.1) k
noncomputable def b61 : Code := Try.f61.body.getD .skip
theorem e61 : OM.Entry Try.prog 61 := ⟨_, Try.func61, by kernel_rfl, by kernel_rfl⟩
@[reducible] noncomputable def laws_markText.g : Sig := ⟨[.fz (.int .i64)], [.v .str .z], []⟩
@[reducible] noncomputable def laws_markText.fk : Nat → denI laws_markText.g.pms → Option (denR (outTys laws_markText.g.rts laws_markText.g.pms)) := fun k x => laws_markText.f k x.1
@[reducible] noncomputable def laws_markText.sm (k : Nat) : Sm := ⟨61, laws_markText.g.pms, laws_markText.g.rts, laws_markText.fk k⟩
noncomputable def laws_markText.E (k : Nat) : Env := ⟨tys, [], [], [], []⟩
@[reducible] noncomputable def laws_markText.s9 : List Slot := [.v 0 (.int .i64) .z [] 0, .v 12 .str .z [] 0]
noncomputable def laws_markText.pts : List (Pt (denR (outTys laws_markText.g.rts laws_markText.g.pms))) := [⟨9, laws_markText.s9, fun k x => laws_markText.p9 k x.1 x.2.1⟩]
theorem laws_markText.h9 (k : Nat) (x0 : Int) (x1 : ByteArray) : (laws_markText.p9 (k + 1) x0 x1 : Option (denR (outTys laws_markText.g.rts laws_markText.g.pms))) = evAt (laws_markText.E k) (fun κ s => lhOf k κ s laws_markText.pts) 9 b61 (unproj laws_markText.s9 (x0, x1, ())) (OM.fin laws_markText.g Try.f61.results.toList) := by kernel_rfl
theorem laws_markText.hf (k : Nat) (a0 : Int) : (laws_markText.f k a0 : Option (denR (outTys laws_markText.g.rts laws_markText.g.pms))) = evC (laws_markText.E k) (fun κ s => lhOf k κ s laws_markText.pts) b61 (OM.start laws_markText.g.pms 0 (a0, ())) (OM.fin laws_markText.g Try.f61.results.toList) := by kernel_rfl
theorem laws_markText.ok (k : Nat) : SmOk Try.prog (laws_markText.sm k) :=
  sm_ok mixed (E := laws_markText.E) (pts := laws_markText.pts) (fun k => ⟨⟨tysOk, by kernel_rfl⟩, forall_nil⟩) (fun _ => rfl) (fun _ => rfl)
    ⟨Try.func61, by kernel_rfl, by kernel_rfl, by kernel_rfl, by kernel_rfl, by kernel_rfl, by kernel_rfl⟩ (forall_cons (fun x => ⟨rfl, fun k => laws_markText.h9 k x.1 x.2.1⟩) (forall_nil)) (fun k x => laws_markText.hf k x.1) k
noncomputable def b16 : Code := Try.f16.body.getD .skip
theorem e16 : OM.Entry Try.prog 16 := ⟨_, Try.func16, by kernel_rfl, by kernel_rfl⟩
@[reducible] noncomputable def laws_markEntryS.g : Sig := ⟨[.mut (.sl tEntry) (.own .z), .fz (.int .i64)], [.v (.int .i64) .z], [0]⟩
@[reducible] noncomputable def laws_markEntryS.fk : Nat → denI laws_markEntryS.g.pms → Option (denR (outTys laws_markEntryS.g.rts laws_markEntryS.g.pms)) := fun k x => laws_markEntryS.f k x.1 x.2.1
@[reducible] noncomputable def laws_markEntryS.sm (k : Nat) : Sm := ⟨16, laws_markEntryS.g.pms, laws_markEntryS.g.rts, laws_markEntryS.fk k⟩
noncomputable def laws_markEntryS.E (k : Nat) : Env := ⟨tys, [laws_markText.sm k], [], [], []⟩
@[reducible] noncomputable def laws_markEntryS.s5 : List Slot := [.v 0 (.sl tEntry) (.own .z) [] 1, .v 4 (.int .i64) .z [] 0, .v 20 (.int .i64) .z [] 0]
noncomputable def laws_markEntryS.pts : List (Pt (denR (outTys laws_markEntryS.g.rts laws_markEntryS.g.pms))) := [⟨5, laws_markEntryS.s5, fun k x => laws_markEntryS.p5 k x.1 x.2.1 x.2.2.1⟩]
theorem laws_markEntryS.h5 (k : Nat) (x0 : (List Entry)) (x1 : Int) (x2 : Int) : (laws_markEntryS.p5 (k + 1) x0 x1 x2 : Option (denR (outTys laws_markEntryS.g.rts laws_markEntryS.g.pms))) = evAt (laws_markEntryS.E k) (fun κ s => lhOf k κ s laws_markEntryS.pts) 5 b16 (unproj laws_markEntryS.s5 (x0, x1, x2, ())) (OM.fin laws_markEntryS.g Try.f16.results.toList) := by kernel_rfl
theorem laws_markEntryS.hf (k : Nat) (a0 : (List Entry)) (a1 : Int) : (laws_markEntryS.f k a0 a1 : Option (denR (outTys laws_markEntryS.g.rts laws_markEntryS.g.pms))) = evC (laws_markEntryS.E k) (fun κ s => lhOf k κ s laws_markEntryS.pts) b16 (OM.start laws_markEntryS.g.pms 0 (a0, a1, ())) (OM.fin laws_markEntryS.g Try.f16.results.toList) := by kernel_rfl
theorem laws_markEntryS.ok (k : Nat) : SmOk Try.prog (laws_markEntryS.sm k) :=
  sm_ok mixed (E := laws_markEntryS.E) (pts := laws_markEntryS.pts) (fun k => ⟨⟨tysOk, by kernel_rfl⟩, forall_cons ⟨laws_markText.ok k, e61⟩ (forall_nil)⟩) (fun _ => rfl) (fun _ => rfl)
    ⟨Try.func16, by kernel_rfl, by kernel_rfl, by kernel_rfl, by kernel_rfl, by kernel_rfl, by kernel_rfl⟩ (forall_cons (fun x => ⟨rfl, fun k => laws_markEntryS.h5 k x.1 x.2.1 x.2.2.1⟩) (forall_nil)) (fun k x => laws_markEntryS.hf k x.1 x.2.1) k
noncomputable def b15 : Code := Try.f15.body.getD .skip
theorem e15 : OM.Entry Try.prog 15 := ⟨_, Try.func15, by kernel_rfl, by kernel_rfl⟩
@[reducible] noncomputable def laws_markStoreS.g : Sig := ⟨[.mut (.sl tStore) (.own (.two (.own .z) (.two (.own .z) .z))), .fz (.int .i64)], [.v (.int .i64) .z], [0]⟩
@[reducible] noncomputable def laws_markStoreS.fk : Nat → denI laws_markStoreS.g.pms → Option (denR (outTys laws_markStoreS.g.rts laws_markStoreS.g.pms)) := fun k x => laws_markStoreS.f k x.1 x.2.1
@[reducible] noncomputable def laws_markStoreS.sm (k : Nat) : Sm := ⟨15, laws_markStoreS.g.pms, laws_markStoreS.g.rts, laws_markStoreS.fk k⟩
noncomputable def laws_markStoreS.E (k : Nat) : Env := ⟨tys, [laws_markEntryS.sm k], [], [], []⟩
@[reducible] noncomputable def laws_markStoreS.s5 : List Slot := [.v 0 (.sl tStore) (.own (.two (.own .z) (.two (.own .z) .z))) [] 1, .v 4 (.int .i64) .z [] 0, .v 20 (.int .i64) .z [] 0]
noncomputable def laws_markStoreS.pts : List (Pt (denR (outTys laws_markStoreS.g.rts laws_markStoreS.g.pms))) := [⟨5, laws_markStoreS.s5, fun k x => laws_markStoreS.p5 k x.1 x.2.1 x.2.2.1⟩]
theorem laws_markStoreS.h5 (k : Nat) (x0 : (List Store)) (x1 : Int) (x2 : Int) : (laws_markStoreS.p5 (k + 1) x0 x1 x2 : Option (denR (outTys laws_markStoreS.g.rts laws_markStoreS.g.pms))) = evAt (laws_markStoreS.E k) (fun κ s => lhOf k κ s laws_markStoreS.pts) 5 b15 (unproj laws_markStoreS.s5 (x0, x1, x2, ())) (OM.fin laws_markStoreS.g Try.f15.results.toList) := by kernel_rfl
theorem laws_markStoreS.hf (k : Nat) (a0 : (List Store)) (a1 : Int) : (laws_markStoreS.f k a0 a1 : Option (denR (outTys laws_markStoreS.g.rts laws_markStoreS.g.pms))) = evC (laws_markStoreS.E k) (fun κ s => lhOf k κ s laws_markStoreS.pts) b15 (OM.start laws_markStoreS.g.pms 0 (a0, a1, ())) (OM.fin laws_markStoreS.g Try.f15.results.toList) := by kernel_rfl
theorem laws_markStoreS.ok (k : Nat) : SmOk Try.prog (laws_markStoreS.sm k) :=
  sm_ok mixed (E := laws_markStoreS.E) (pts := laws_markStoreS.pts) (fun k => ⟨⟨tysOk, by kernel_rfl⟩, forall_cons ⟨laws_markEntryS.ok k, e16⟩ (forall_nil)⟩) (fun _ => rfl) (fun _ => rfl)
    ⟨Try.func15, by kernel_rfl, by kernel_rfl, by kernel_rfl, by kernel_rfl, by kernel_rfl, by kernel_rfl⟩ (forall_cons (fun x => ⟨rfl, fun k => laws_markStoreS.h5 k x.1 x.2.1 x.2.2.1⟩) (forall_nil)) (fun k x => laws_markStoreS.hf k x.1 x.2.1) k
noncomputable def b40 : Code := Try.f40.body.getD .skip
theorem e40 : OM.Entry Try.prog 40 := ⟨_, Try.func40, by kernel_rfl, by kernel_rfl⟩
@[reducible] noncomputable def laws_markStore.g : Sig := ⟨[.mut tStore (.two (.own .z) (.two (.own .z) .z)), .fz (.int .i64)], [.v (.int .i64) .z], [9]⟩
@[reducible] noncomputable def laws_markStore.fk : Nat → denI laws_markStore.g.pms → Option (denR (outTys laws_markStore.g.rts laws_markStore.g.pms)) := fun k x => laws_markStore.f k x.1 x.2.1
@[reducible] noncomputable def laws_markStore.sm (k : Nat) : Sm := ⟨40, laws_markStore.g.pms, laws_markStore.g.rts, laws_markStore.fk k⟩
noncomputable def laws_markStore.E (k : Nat) : Env := ⟨tys, [laws_markEntryS.sm k], [], [], []⟩
noncomputable def laws_markStore.pts : List (Pt (denR (outTys laws_markStore.g.rts laws_markStore.g.pms))) := []
theorem laws_markStore.hf (k : Nat) (a0 : Store) (a1 : Int) : (laws_markStore.f k a0 a1 : Option (denR (outTys laws_markStore.g.rts laws_markStore.g.pms))) = evC (laws_markStore.E k) (fun κ s => lhOf k κ s laws_markStore.pts) b40 (OM.start laws_markStore.g.pms 0 (a0, a1, ())) (OM.fin laws_markStore.g Try.f40.results.toList) := by kernel_rfl
theorem laws_markStore.ok (k : Nat) : SmOk Try.prog (laws_markStore.sm k) :=
  sm_ok mixed (E := laws_markStore.E) (pts := laws_markStore.pts) (fun k => ⟨⟨tysOk, by kernel_rfl⟩, forall_cons ⟨laws_markEntryS.ok k, e16⟩ (forall_nil)⟩) (fun _ => rfl) (fun _ => rfl)
    ⟨Try.func40, by kernel_rfl, by kernel_rfl, by kernel_rfl, by kernel_rfl, by kernel_rfl, by kernel_rfl⟩ (forall_nil) (fun k x => laws_markStore.hf k x.1 x.2.1) k
noncomputable def b17 : Code := Try.f17.body.getD .skip
theorem e17 : OM.Entry Try.prog 17 := ⟨_, Try.func17, by kernel_rfl, by kernel_rfl⟩
@[reducible] noncomputable def laws_heldEntryS.g : Sig := ⟨[.fz (.sl tEntry), .fz (.int .i64)], [.v (.int .i64) .z], []⟩
@[reducible] noncomputable def laws_heldEntryS.fk : Nat → denI laws_heldEntryS.g.pms → Option (denR (outTys laws_heldEntryS.g.rts laws_heldEntryS.g.pms)) := fun k x => laws_heldEntryS.f k x.1 x.2.1
@[reducible] noncomputable def laws_heldEntryS.sm (k : Nat) : Sm := ⟨17, laws_heldEntryS.g.pms, laws_heldEntryS.g.rts, laws_heldEntryS.fk k⟩
noncomputable def laws_heldEntryS.E (k : Nat) : Env := ⟨tys, [laws_markText.sm k], [], [], [4]⟩
@[reducible] noncomputable def laws_heldEntryS.s5 : List Slot := [.v 0 (.sl tEntry) .z [] 0, .v 4 (.int .i64) .z [] 0, .v 20 (.int .i64) .z [] 0]
noncomputable def laws_heldEntryS.pts : List (Pt (denR (outTys laws_heldEntryS.g.rts laws_heldEntryS.g.pms))) := [⟨5, laws_heldEntryS.s5, fun k x => laws_heldEntryS.p5 k x.1 x.2.1 x.2.2.1⟩]
theorem laws_heldEntryS.h5 (k : Nat) (x0 : (List Entry)) (x1 : Int) (x2 : Int) : (laws_heldEntryS.p5 (k + 1) x0 x1 x2 : Option (denR (outTys laws_heldEntryS.g.rts laws_heldEntryS.g.pms))) = evAt (laws_heldEntryS.E k) (fun κ s => lhOf k κ s laws_heldEntryS.pts) 5 b17 (unproj laws_heldEntryS.s5 (x0, x1, x2, ())) (OM.fin laws_heldEntryS.g Try.f17.results.toList) := by kernel_rfl
theorem laws_heldEntryS.hf (k : Nat) (a0 : (List Entry)) (a1 : Int) : (laws_heldEntryS.f k a0 a1 : Option (denR (outTys laws_heldEntryS.g.rts laws_heldEntryS.g.pms))) = evC (laws_heldEntryS.E k) (fun κ s => lhOf k κ s laws_heldEntryS.pts) b17 (OM.start laws_heldEntryS.g.pms 0 (a0, a1, ())) (OM.fin laws_heldEntryS.g Try.f17.results.toList) := by kernel_rfl
theorem laws_heldEntryS.ok (k : Nat) : SmOk Try.prog (laws_heldEntryS.sm k) :=
  sm_ok mixed (E := laws_heldEntryS.E) (pts := laws_heldEntryS.pts) (fun k => ⟨⟨tysOk, by kernel_rfl⟩, forall_cons ⟨laws_markText.ok k, e61⟩ (forall_nil)⟩) (fun _ => rfl) (fun _ => rfl)
    ⟨Try.func17, by kernel_rfl, by kernel_rfl, by kernel_rfl, by kernel_rfl, by kernel_rfl, by kernel_rfl⟩ (forall_cons (fun x => ⟨rfl, fun k => laws_heldEntryS.h5 k x.1 x.2.1 x.2.2.1⟩) (forall_nil)) (fun k x => laws_heldEntryS.hf k x.1 x.2.1) k
noncomputable def b41 : Code := Try.f41.body.getD .skip
theorem e41 : OM.Entry Try.prog 41 := ⟨_, Try.func41, by kernel_rfl, by kernel_rfl⟩
@[reducible] noncomputable def laws_heldStore.g : Sig := ⟨[.fz tStore, .fz (.int .i64)], [.v (.int .i64) .z], []⟩
@[reducible] noncomputable def laws_heldStore.fk : Nat → denI laws_heldStore.g.pms → Option (denR (outTys laws_heldStore.g.rts laws_heldStore.g.pms)) := fun k x => laws_heldStore.f k x.1 x.2.1
@[reducible] noncomputable def laws_heldStore.sm (k : Nat) : Sm := ⟨41, laws_heldStore.g.pms, laws_heldStore.g.rts, laws_heldStore.fk k⟩
noncomputable def laws_heldStore.E (k : Nat) : Env := ⟨tys, [laws_heldEntryS.sm k], [], [], []⟩
noncomputable def laws_heldStore.pts : List (Pt (denR (outTys laws_heldStore.g.rts laws_heldStore.g.pms))) := []
theorem laws_heldStore.hf (k : Nat) (a0 : Store) (a1 : Int) : (laws_heldStore.f k a0 a1 : Option (denR (outTys laws_heldStore.g.rts laws_heldStore.g.pms))) = evC (laws_heldStore.E k) (fun κ s => lhOf k κ s laws_heldStore.pts) b41 (OM.start laws_heldStore.g.pms 0 (a0, a1, ())) (OM.fin laws_heldStore.g Try.f41.results.toList) := by kernel_rfl
theorem laws_heldStore.ok (k : Nat) : SmOk Try.prog (laws_heldStore.sm k) :=
  sm_ok mixed (E := laws_heldStore.E) (pts := laws_heldStore.pts) (fun k => ⟨⟨tysOk, by kernel_rfl⟩, forall_cons ⟨laws_heldEntryS.ok k, e17⟩ (forall_nil)⟩) (fun _ => rfl) (fun _ => rfl)
    ⟨Try.func41, by kernel_rfl, by kernel_rfl, by kernel_rfl, by kernel_rfl, by kernel_rfl, by kernel_rfl⟩ (forall_nil) (fun k x => laws_heldStore.hf k x.1 x.2.1) k
noncomputable def b6 : Code := Try.f6.body.getD .skip
theorem e6 : OM.Entry Try.prog 6 := ⟨_, Try.func6, by kernel_rfl, by kernel_rfl⟩
@[reducible] noncomputable def laws_FnExactFill.g : Sig := ⟨[.fz tConfig, .fz (.sl tStore), .fz (.sl (.int .i64)), .fz (.int .i64), .fz (.int .i64)], [.v .bool .z], []⟩
@[reducible] noncomputable def laws_FnExactFill.fk : Nat → denI laws_FnExactFill.g.pms → Option (denR (outTys laws_FnExactFill.g.rts laws_FnExactFill.g.pms)) := fun k x => laws_FnExactFill.f k x.1 x.2.1 x.2.2.1 x.2.2.2.1 x.2.2.2.2.1
@[reducible] noncomputable def laws_FnExactFill.sm (k : Nat) : Sm := ⟨6, laws_FnExactFill.g.pms, laws_FnExactFill.g.rts, laws_FnExactFill.fk k⟩
noncomputable def laws_FnExactFill.E (k : Nat) : Env := ⟨tys, [laws_szConfig.sm k, laws_szStoreS.sm k, laws_toIntS.sm k, laws_toConfig.sm k, laws_toStoreS.sm k, spec_Fill.sm k, impl_Fill.sm k, laws_eqStore.sm k, laws_eqIntS.sm k, laws_eqConfig.sm k, laws_eqStoreS.sm k, laws_markIntS.sm k, laws_markConfig.sm k, laws_markStoreS.sm k, laws_markStore.sm k, laws_heldStore.sm k], [], [], [4]⟩
noncomputable def laws_FnExactFill.pts : List (Pt (denR (outTys laws_FnExactFill.g.rts laws_FnExactFill.g.pms))) := []
theorem laws_FnExactFill.hf (k : Nat) (a0 : Config) (a1 : (List Store)) (a2 : (List Int)) (a3 : Int) (a4 : Int) : (laws_FnExactFill.f k a0 a1 a2 a3 a4 : Option (denR (outTys laws_FnExactFill.g.rts laws_FnExactFill.g.pms))) = evC (laws_FnExactFill.E k) (fun κ s => lhOf k κ s laws_FnExactFill.pts) b6 (OM.start laws_FnExactFill.g.pms 0 (a0, a1, a2, a3, a4, ())) (OM.fin laws_FnExactFill.g Try.f6.results.toList) := by kernel_rfl
theorem laws_FnExactFill.ok (k : Nat) : SmOk Try.prog (laws_FnExactFill.sm k) :=
  sm_ok mixed (E := laws_FnExactFill.E) (pts := laws_FnExactFill.pts) (fun k => ⟨⟨tysOk, by kernel_rfl⟩, forall_cons ⟨laws_szConfig.ok k, e32⟩ (forall_cons ⟨laws_szStoreS.ok k, e9⟩ (forall_cons ⟨laws_toIntS.ok k, e34⟩ (forall_cons ⟨laws_toConfig.ok k, e33⟩ (forall_cons ⟨laws_toStoreS.ok k, e11⟩ (forall_cons ⟨spec_Fill.ok k, e26⟩ (forall_cons ⟨impl_Fill.ok k, e25⟩ (forall_cons ⟨laws_eqStore.ok k, e35⟩ (forall_cons ⟨laws_eqIntS.ok k, e37⟩ (forall_cons ⟨laws_eqConfig.ok k, e36⟩ (forall_cons ⟨laws_eqStoreS.ok k, e14⟩ (forall_cons ⟨laws_markIntS.ok k, e39⟩ (forall_cons ⟨laws_markConfig.ok k, e38⟩ (forall_cons ⟨laws_markStoreS.ok k, e15⟩ (forall_cons ⟨laws_markStore.ok k, e40⟩ (forall_cons ⟨laws_heldStore.ok k, e41⟩ (forall_nil))))))))))))))))⟩) (fun _ => rfl) (fun _ => rfl)
    ⟨Try.func6, by kernel_rfl, by kernel_rfl, by kernel_rfl, by kernel_rfl, by kernel_rfl, by kernel_rfl⟩ (forall_nil) (fun k x => laws_FnExactFill.hf k x.1 x.2.1 x.2.2.1 x.2.2.2.1 x.2.2.2.2.1) k
end Go.Proofs.Ythgnikafeamidaa.OmFnExactFill
