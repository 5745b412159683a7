import Derived.Test.YthgnikafeamidabFFnExactReaderNext
import Derived.Test.YthgnikafeamidabChecked
set_option maxRecDepth 1000000
set_option linter.unusedVariables false
namespace Go.Proofs.Ythgnikafeamidab.OmFnExactReaderNext
open Go Go.OM
noncomputable def tys : List (Option Ty) := [none, none, some (.int .i64), some (.int .i64), some .bool, some (.int .u8), some (.int .u8), some (.pair (.int .i64) (.pair (.int .i64) (.pair .bool (.pair (.int .u8) .unit)))), some (.pair (.int .i64) (.pair (.int .i64) (.pair .bool (.pair (.int .u8) .unit)))), some .str, some .str, some .str, some (.int .u64), some (.pair .str (.pair (.int .u64) .unit)), some (.pair .str (.pair (.int .u64) .unit)), none, none, none, none, none, none, some (.int .i32), some (.sl (.int .u8)), none, some (.sl (.int .i64)), some tConfig, some tConfig, some (.sl tEntry), some (.sl (.sl (.int .i64))), some tMend, some tMend, none, none, none, none, some tEntry, some tEntry, none, none, none, none, none, none, none, none, some (.sl tEra), some tRegister, some tRegister, some (.sl tEvent), some tReader, some tReader, some (.sl tAnswer), none, none, none, none, some tEvent, some tEvent, none, some tAnswer, some tAnswer, none, none, none, none, some tConfig, some (.sl tEra), some tRegister, some tRegister, some (.sl tEvent), some tReader, some tReader, some (.sl tAnswer), none, none, none, none, none, none, none, none, none, none, none, none, none, none, none, none, none, none, none, none, none, none, none, none, none, none, none, none, none, none, none, none, none, none, none, none, none, none, none, none, none, none, none, none, some tEra, some tEra, none, none, none, none, none, none, none, none, none, none, none, none, none, some tEntry, some tAnswer, some tAnswer, none, none, none, none, none, none, none, none, none, none, none, none, none, none, none, none, none, none, none, none, none, some tl1Cur, some tl1Cur, none, none, none, none, none, none, none, some tEra, none, some tEvent, none, none, none, none, none, none, none, some (.int .u64), none, some (.sl .str), none, none, none, none, none, none, none, none, none, none, none, none, some (.sl .bool), none, none, some tStore, some tStore, none, none, none, none, none, none, none, none, none, none, none, none, none, none, none, none, none, none, none, none, none, none, some (.int .u32), some (.int .u8), some (.int .u8), none, none, some (.int .i32), some (.int .i32), none, none, none]
theorem tysOk : okTys Try.prog tys 0 tys = true := by kernel_rfl
theorem mixed : Try.prog.follows .mixedOrders = true := by kernel_rfl
noncomputable def b100 : Code := Try.f100.body.getD .skip
theorem e100 : OM.Entry Try.prog 100 := ⟨_, Try.func100, by kernel_rfl, by kernel_rfl⟩
@[reducible] noncomputable def laws_szIntS.g : Sig := ⟨[.fz (.sl (.int .i64)), .fz (.int .i64)], [.v (.int .i64) .z], []⟩
@[reducible] noncomputable def laws_szIntS.fk : Nat → denI laws_szIntS.g.pms → Option (denR (outTys laws_szIntS.g.rts laws_szIntS.g.pms)) := fun k x => laws_szIntS.f x.1 x.2.1
@[reducible] noncomputable def laws_szIntS.sm (k : Nat) : Sm := ⟨100, laws_szIntS.g.pms, laws_szIntS.g.rts, laws_szIntS.fk k⟩
noncomputable def laws_szIntS.E (k : Nat) : Env := ⟨tys, [], [], [], []⟩
noncomputable def laws_szIntS.pts : List (Pt (denR (outTys laws_szIntS.g.rts laws_szIntS.g.pms))) := []
theorem laws_szIntS.hf (k : Nat) (a0 : (List Int)) (a1 : Int) : (laws_szIntS.f a0 a1 : Option (denR (outTys laws_szIntS.g.rts laws_szIntS.g.pms))) = evC (laws_szIntS.E k) (fun κ s => lhOf k κ s laws_szIntS.pts) b100 (OM.start laws_szIntS.g.pms 0 (a0, a1, ())) (OM.fin laws_szIntS.g Try.f100.results.toList) := by kernel_rfl
theorem laws_szIntS.ok (k : Nat) : SmOk Try.prog (laws_szIntS.sm k) :=
  sm_ok mixed (E := laws_szIntS.E) (pts := laws_szIntS.pts) (fun k => ⟨⟨tysOk, by kernel_rfl⟩, forall_nil⟩) (fun _ => rfl) (fun _ => rfl)
    ⟨Try.func100, by kernel_rfl, by kernel_rfl, by kernel_rfl, by kernel_rfl, by kernel_rfl, by kernel_rfl⟩ (forall_nil) (fun k x => laws_szIntS.hf k x.1 x.2.1) k
noncomputable def b31 : Code := Try.f31.body.getD .skip
theorem e31 : OM.Entry Try.prog 31 := ⟨_, Try.func31, by kernel_rfl, by kernel_rfl⟩
@[reducible] noncomputable def laws_szConfig.g : Sig := ⟨[.fz tConfig, .fz (.int .i64)], [.v (.int .i64) .z], []⟩
@[reducible] noncomputable def laws_szConfig.fk : Nat → denI laws_szConfig.g.pms → Option (denR (outTys laws_szConfig.g.rts laws_szConfig.g.pms)) := fun k x => laws_szConfig.f x.1 x.2.1
@[reducible] noncomputable def laws_szConfig.sm (k : Nat) : Sm := ⟨31, laws_szConfig.g.pms, laws_szConfig.g.rts, laws_szConfig.fk k⟩
noncomputable def laws_szConfig.E (k : Nat) : Env := ⟨tys, [laws_szIntS.sm k], [], [], []⟩
noncomputable def laws_szConfig.pts : List (Pt (denR (outTys laws_szConfig.g.rts laws_szConfig.g.pms))) := []
theorem laws_szConfig.hf (k : Nat) (a0 : Config) (a1 : Int) : (laws_szConfig.f a0 a1 : Option (denR (outTys laws_szConfig.g.rts laws_szConfig.g.pms))) = evC (laws_szConfig.E k) (fun κ s => lhOf k κ s laws_szConfig.pts) b31 (OM.start laws_szConfig.g.pms 0 (a0, a1, ())) (OM.fin laws_szConfig.g Try.f31.results.toList) := by kernel_rfl
theorem laws_szConfig.ok (k : Nat) : SmOk Try.prog (laws_szConfig.sm k) :=
  sm_ok mixed (E := laws_szConfig.E) (pts := laws_szConfig.pts) (fun k => ⟨⟨tysOk, by kernel_rfl⟩, forall_cons ⟨laws_szIntS.ok k, e100⟩ (forall_nil)⟩) (fun _ => rfl) (fun _ => rfl)
    ⟨Try.func31, by kernel_rfl, by kernel_rfl, by kernel_rfl, by kernel_rfl, by kernel_rfl, by kernel_rfl⟩ (forall_nil) (fun k x => laws_szConfig.hf k x.1 x.2.1) k
noncomputable def b148 : Code := Try.f148.body.getD .skip
theorem e148 : OM.Entry Try.prog 148 := ⟨_, Try.func148, by kernel_rfl, by kernel_rfl⟩
@[reducible] noncomputable def laws_szEra.g : Sig := ⟨[.fz tEra, .fz (.int .i64)], [.v (.int .i64) .z], []⟩
@[reducible] noncomputable def laws_szEra.fk : Nat → denI laws_szEra.g.pms → Option (denR (outTys laws_szEra.g.rts laws_szEra.g.pms)) := fun k x => laws_szEra.f x.1 x.2.1
@[reducible] noncomputable def laws_szEra.sm (k : Nat) : Sm := ⟨148, laws_szEra.g.pms, laws_szEra.g.rts, laws_szEra.fk k⟩
noncomputable def laws_szEra.E (k : Nat) : Env := ⟨tys, [laws_szIntS.sm k], [], [], []⟩
noncomputable def laws_szEra.pts : List (Pt (denR (outTys laws_szEra.g.rts laws_szEra.g.pms))) := []
theorem laws_szEra.hf (k : Nat) (a0 : Era) (a1 : Int) : (laws_szEra.f a0 a1 : Option (denR (outTys laws_szEra.g.rts laws_szEra.g.pms))) = evC (laws_szEra.E k) (fun κ s => lhOf k κ s laws_szEra.pts) b148 (OM.start laws_szEra.g.pms 0 (a0, a1, ())) (OM.fin laws_szEra.g Try.f148.results.toList) := by kernel_rfl
theorem laws_szEra.ok (k : Nat) : SmOk Try.prog (laws_szEra.sm k) :=
  sm_ok mixed (E := laws_szEra.E) (pts := laws_szEra.pts) (fun k => ⟨⟨tysOk, by kernel_rfl⟩, forall_cons ⟨laws_szIntS.ok k, e100⟩ (forall_nil)⟩) (fun _ => rfl) (fun _ => rfl)
    ⟨Try.func148, by kernel_rfl, by kernel_rfl, by kernel_rfl, by kernel_rfl, by kernel_rfl, by kernel_rfl⟩ (forall_nil) (fun k x => laws_szEra.hf k x.1 x.2.1) k
noncomputable def b101 : Code := Try.f101.body.getD .skip
theorem e101 : OM.Entry Try.prog 101 := ⟨_, Try.func101, by kernel_rfl, by kernel_rfl⟩
@[reducible] noncomputable def laws_szEraS.g : Sig := ⟨[.fz (.sl tEra), .fz (.int .i64)], [.v (.int .i64) .z], []⟩
@[reducible] noncomputable def laws_szEraS.fk : Nat → denI laws_szEraS.g.pms → Option (denR (outTys laws_szEraS.g.rts laws_szEraS.g.pms)) := fun k x => laws_szEraS.f k x.1 x.2.1
@[reducible] noncomputable def laws_szEraS.sm (k : Nat) : Sm := ⟨101, laws_szEraS.g.pms, laws_szEraS.g.rts, laws_szEraS.fk k⟩
noncomputable def laws_szEraS.E (k : Nat) : Env := ⟨tys, [laws_szEra.sm k], [], [], []⟩
@[reducible] noncomputable def laws_szEraS.s11 : List Slot := [.v 0 (.sl tEra) .z [] 0, .v 4 (.int .i64) .z [] 0, .v 20 (.int .i64) .z [] 0]
noncomputable def laws_szEraS.pts : List (Pt (denR (outTys laws_szEraS.g.rts laws_szEraS.g.pms))) := [⟨11, laws_szEraS.s11, fun k x => laws_szEraS.p11 k x.1 x.2.1 x.2.2.1⟩]
theorem laws_szEraS.h11 (k : Nat) (x0 : (List Era)) (x1 : Int) (x2 : Int) : (laws_szEraS.p11 (k + 1) x0 x1 x2 : Option (denR (outTys laws_szEraS.g.rts laws_szEraS.g.pms))) = evAt (laws_szEraS.E k) (fun κ s => lhOf k κ s laws_szEraS.pts) 11 b101 (unproj laws_szEraS.s11 (x0, x1, x2, ())) (OM.fin laws_szEraS.g Try.f101.results.toList) := by kernel_rfl
theorem laws_szEraS.hf (k : Nat) (a0 : (List Era)) (a1 : Int) : (laws_szEraS.f k a0 a1 : Option (denR (outTys laws_szEraS.g.rts laws_szEraS.g.pms))) = evC (laws_szEraS.E k) (fun κ s => lhOf k κ s laws_szEraS.pts) b101 (OM.start laws_szEraS.g.pms 0 (a0, a1, ())) (OM.fin laws_szEraS.g Try.f101.results.toList) := by kernel_rfl
theorem laws_szEraS.ok (k : Nat) : SmOk Try.prog (laws_szEraS.sm k) :=
  sm_ok mixed (E := laws_szEraS.E) (pts := laws_szEraS.pts) (fun k => ⟨⟨tysOk, by kernel_rfl⟩, forall_cons ⟨laws_szEra.ok k, e148⟩ (forall_nil)⟩) (fun _ => rfl) (fun _ => rfl)
    ⟨Try.func101, by kernel_rfl, by kernel_rfl, by kernel_rfl, by kernel_rfl, by kernel_rfl, by kernel_rfl⟩ (forall_cons (fun x => ⟨rfl, fun k => laws_szEraS.h11 k x.1 x.2.1 x.2.2.1⟩) (forall_nil)) (fun k x => laws_szEraS.hf k x.1 x.2.1) k
noncomputable def b32 : Code := Try.f32.body.getD .skip
theorem e32 : OM.Entry Try.prog 32 := ⟨_, Try.func32, by kernel_rfl, by kernel_rfl⟩
@[reducible] noncomputable def laws_szRegister.g : Sig := ⟨[.fz tRegister, .fz (.int .i64)], [.v (.int .i64) .z], []⟩
@[reducible] noncomputable def laws_szRegister.fk : Nat → denI laws_szRegister.g.pms → Option (denR (outTys laws_szRegister.g.rts laws_szRegister.g.pms)) := fun k x => laws_szRegister.f k x.1 x.2.1
@[reducible] noncomputable def laws_szRegister.sm (k : Nat) : Sm := ⟨32, laws_szRegister.g.pms, laws_szRegister.g.rts, laws_szRegister.fk k⟩
noncomputable def laws_szRegister.E (k : Nat) : Env := ⟨tys, [laws_szEraS.sm k], [], [], []⟩
noncomputable def laws_szRegister.pts : List (Pt (denR (outTys laws_szRegister.g.rts laws_szRegister.g.pms))) := []
theorem laws_szRegister.hf (k : Nat) (a0 : Register) (a1 : Int) : (laws_szRegister.f k a0 a1 : Option (denR (outTys laws_szRegister.g.rts laws_szRegister.g.pms))) = evC (laws_szRegister.E k) (fun κ s => lhOf k κ s laws_szRegister.pts) b32 (OM.start laws_szRegister.g.pms 0 (a0, a1, ())) (OM.fin laws_szRegister.g Try.f32.results.toList) := by kernel_rfl
theorem laws_szRegister.ok (k : Nat) : SmOk Try.prog (laws_szRegister.sm k) :=
  sm_ok mixed (E := laws_szRegister.E) (pts := laws_szRegister.pts) (fun k => ⟨⟨tysOk, by kernel_rfl⟩, forall_cons ⟨laws_szEraS.ok k, e101⟩ (forall_nil)⟩) (fun _ => rfl) (fun _ => rfl)
    ⟨Try.func32, by kernel_rfl, by kernel_rfl, by kernel_rfl, by kernel_rfl, by kernel_rfl, by kernel_rfl⟩ (forall_nil) (fun k x => laws_szRegister.hf k x.1 x.2.1) k
noncomputable def b149 : Code := Try.f149.body.getD .skip
theorem e149 : OM.Entry Try.prog 149 := ⟨_, Try.func149, by kernel_rfl, by kernel_rfl⟩
@[reducible] noncomputable def laws_szEvent.g : Sig := ⟨[.fz tEvent, .fz (.int .i64)], [.v (.int .i64) .z], []⟩
@[reducible] noncomputable def laws_szEvent.fk : Nat → denI laws_szEvent.g.pms → Option (denR (outTys laws_szEvent.g.rts laws_szEvent.g.pms)) := fun k x => laws_szEvent.f x.1 x.2.1
@[reducible] noncomputable def laws_szEvent.sm (k : Nat) : Sm := ⟨149, laws_szEvent.g.pms, laws_szEvent.g.rts, laws_szEvent.fk k⟩
noncomputable def laws_szEvent.E (k : Nat) : Env := ⟨tys, [], [], [], []⟩
noncomputable def laws_szEvent.pts : List (Pt (denR (outTys laws_szEvent.g.rts laws_szEvent.g.pms))) := []
theorem laws_szEvent.hf (k : Nat) (a0 : Event) (a1 : Int) : (laws_szEvent.f a0 a1 : Option (denR (outTys laws_szEvent.g.rts laws_szEvent.g.pms))) = evC (laws_szEvent.E k) (fun κ s => lhOf k κ s laws_szEvent.pts) b149 (OM.start laws_szEvent.g.pms 0 (a0, a1, ())) (OM.fin laws_szEvent.g Try.f149.results.toList) := by kernel_rfl
theorem laws_szEvent.ok (k : Nat) : SmOk Try.prog (laws_szEvent.sm k) :=
  sm_ok mixed (E := laws_szEvent.E) (pts := laws_szEvent.pts) (fun k => ⟨⟨tysOk, by kernel_rfl⟩, forall_nil⟩) (fun _ => rfl) (fun _ => rfl)
    ⟨Try.func149, by kernel_rfl, by kernel_rfl, by kernel_rfl, by kernel_rfl, by kernel_rfl, by kernel_rfl⟩ (forall_nil) (fun k x => laws_szEvent.hf k x.1 x.2.1) k
noncomputable def b102 : Code := Try.f102.body.getD .skip
theorem e102 : OM.Entry Try.prog 102 := ⟨_, Try.func102, by kernel_rfl, by kernel_rfl⟩
@[reducible] noncomputable def laws_szEventS.g : Sig := ⟨[.fz (.sl tEvent), .fz (.int .i64)], [.v (.int .i64) .z], []⟩
@[reducible] noncomputable def laws_szEventS.fk : Nat → denI laws_szEventS.g.pms → Option (denR (outTys laws_szEventS.g.rts laws_szEventS.g.pms)) := fun k x => laws_szEventS.f k x.1 x.2.1
@[reducible] noncomputable def laws_szEventS.sm (k : Nat) : Sm := ⟨102, laws_szEventS.g.pms, laws_szEventS.g.rts, laws_szEventS.fk k⟩
noncomputable def laws_szEventS.E (k : Nat) : Env := ⟨tys, [laws_szEvent.sm k], [], [], []⟩
@[reducible] noncomputable def laws_szEventS.s11 : List Slot := [.v 0 (.sl tEvent) .z [] 0, .v 4 (.int .i64) .z [] 0, .v 20 (.int .i64) .z [] 0]
noncomputable def laws_szEventS.pts : List (Pt (denR (outTys laws_szEventS.g.rts laws_szEventS.g.pms))) := [⟨11, laws_szEventS.s11, fun k x => laws_szEventS.p11 k x.1 x.2.1 x.2.2.1⟩]
theorem laws_szEventS.h11 (k : Nat) (x0 : (List Event)) (x1 : Int) (x2 : Int) : (laws_szEventS.p11 (k + 1) x0 x1 x2 : Option (denR (outTys laws_szEventS.g.rts laws_szEventS.g.pms))) = evAt (laws_szEventS.E k) (fun κ s => lhOf k κ s laws_szEventS.pts) 11 b102 (unproj laws_szEventS.s11 (x0, x1, x2, ())) (OM.fin laws_szEventS.g Try.f102.results.toList) := by kernel_rfl
theorem laws_szEventS.hf (k : Nat) (a0 : (List Event)) (a1 : Int) : (laws_szEventS.f k a0 a1 : Option (denR (outTys laws_szEventS.g.rts laws_szEventS.g.pms))) = evC (laws_szEventS.E k) (fun κ s => lhOf k κ s laws_szEventS.pts) b102 (OM.start laws_szEventS.g.pms 0 (a0, a1, ())) (OM.fin laws_szEventS.g Try.f102.results.toList) := by kernel_rfl
theorem laws_szEventS.ok (k : Nat) : SmOk Try.prog (laws_szEventS.sm k) :=
  sm_ok mixed (E := laws_szEventS.E) (pts := laws_szEventS.pts) (fun k => ⟨⟨tysOk, by kernel_rfl⟩, forall_cons ⟨laws_szEvent.ok k, e149⟩ (forall_nil)⟩) (fun _ => rfl) (fun _ => rfl)
    ⟨Try.func102, by kernel_rfl, by kernel_rfl, by kernel_rfl, by kernel_rfl, by kernel_rfl, by kernel_rfl⟩ (forall_cons (fun x => ⟨rfl, fun k => laws_szEventS.h11 k x.1 x.2.1 x.2.2.1⟩) (forall_nil)) (fun k x => laws_szEventS.hf k x.1 x.2.1) k
noncomputable def b33 : Code := Try.f33.body.getD .skip
theorem e33 : OM.Entry Try.prog 33 := ⟨_, Try.func33, by kernel_rfl, by kernel_rfl⟩
@[reducible] noncomputable def laws_szReader.g : Sig := ⟨[.fz tReader, .fz (.int .i64)], [.v (.int .i64) .z], []⟩
@[reducible] noncomputable def laws_szReader.fk : Nat → denI laws_szReader.g.pms → Option (denR (outTys laws_szReader.g.rts laws_szReader.g.pms)) := fun k x => laws_szReader.f k x.1 x.2.1
@[reducible] noncomputable def laws_szReader.sm (k : Nat) : Sm := ⟨33, laws_szReader.g.pms, laws_szReader.g.rts, laws_szReader.fk k⟩
noncomputable def laws_szReader.E (k : Nat) : Env := ⟨tys, [laws_szEventS.sm k], [], [], []⟩
noncomputable def laws_szReader.pts : List (Pt (denR (outTys laws_szReader.g.rts laws_szReader.g.pms))) := []
theorem laws_szReader.hf (k : Nat) (a0 : Reader) (a1 : Int) : (laws_szReader.f k a0 a1 : Option (denR (outTys laws_szReader.g.rts laws_szReader.g.pms))) = evC (laws_szReader.E k) (fun κ s => lhOf k κ s laws_szReader.pts) b33 (OM.start laws_szReader.g.pms 0 (a0, a1, ())) (OM.fin laws_szReader.g Try.f33.results.toList) := by kernel_rfl
theorem laws_szReader.ok (k : Nat) : SmOk Try.prog (laws_szReader.sm k) :=
  sm_ok mixed (E := laws_szReader.E) (pts := laws_szReader.pts) (fun k => ⟨⟨tysOk, by kernel_rfl⟩, forall_cons ⟨laws_szEventS.ok k, e102⟩ (forall_nil)⟩) (fun _ => rfl) (fun _ => rfl)
    ⟨Try.func33, by kernel_rfl, by kernel_rfl, by kernel_rfl, by kernel_rfl, by kernel_rfl, by kernel_rfl⟩ (forall_nil) (fun k x => laws_szReader.hf k x.1 x.2.1) k
noncomputable def b150 : Code := Try.f150.body.getD .skip
theorem e150 : OM.Entry Try.prog 150 := ⟨_, Try.func150, by kernel_rfl, by kernel_rfl⟩
@[reducible] noncomputable def laws_szEntry.g : Sig := ⟨[.fz tEntry, .fz (.int .i64)], [.v (.int .i64) .z], []⟩
@[reducible] noncomputable def laws_szEntry.fk : Nat → denI laws_szEntry.g.pms → Option (denR (outTys laws_szEntry.g.rts laws_szEntry.g.pms)) := fun k x => laws_szEntry.f x.1 x.2.1
@[reducible] noncomputable def laws_szEntry.sm (k : Nat) : Sm := ⟨150, laws_szEntry.g.pms, laws_szEntry.g.rts, laws_szEntry.fk k⟩
noncomputable def laws_szEntry.E (k : Nat) : Env := ⟨tys, [], [], [], []⟩
noncomputable def laws_szEntry.pts : List (Pt (denR (outTys laws_szEntry.g.rts laws_szEntry.g.pms))) := []
theorem laws_szEntry.hf (k : Nat) (a0 : Entry) (a1 : Int) : (laws_szEntry.f a0 a1 : Option (denR (outTys laws_szEntry.g.rts laws_szEntry.g.pms))) = evC (laws_szEntry.E k) (fun κ s => lhOf k κ s laws_szEntry.pts) b150 (OM.start laws_szEntry.g.pms 0 (a0, a1, ())) (OM.fin laws_szEntry.g Try.f150.results.toList) := by kernel_rfl
theorem laws_szEntry.ok (k : Nat) : SmOk Try.prog (laws_szEntry.sm k) :=
  sm_ok mixed (E := laws_szEntry.E) (pts := laws_szEntry.pts) (fun k => ⟨⟨tysOk, by kernel_rfl⟩, forall_nil⟩) (fun _ => rfl) (fun _ => rfl)
    ⟨Try.func150, by kernel_rfl, by kernel_rfl, by kernel_rfl, by kernel_rfl, by kernel_rfl, by kernel_rfl⟩ (forall_nil) (fun k x => laws_szEntry.hf k x.1 x.2.1) k
noncomputable def b103 : Code := Try.f103.body.getD .skip
theorem e103 : OM.Entry Try.prog 103 := ⟨_, Try.func103, by kernel_rfl, by kernel_rfl⟩
@[reducible] noncomputable def laws_szAnswer.g : Sig := ⟨[.fz tAnswer, .fz (.int .i64)], [.v (.int .i64) .z], []⟩
@[reducible] noncomputable def laws_szAnswer.fk : Nat → denI laws_szAnswer.g.pms → Option (denR (outTys laws_szAnswer.g.rts laws_szAnswer.g.pms)) := fun k x => laws_szAnswer.f x.1 x.2.1
@[reducible] noncomputable def laws_szAnswer.sm (k : Nat) : Sm := ⟨103, laws_szAnswer.g.pms, laws_szAnswer.g.rts, laws_szAnswer.fk k⟩
noncomputable def laws_szAnswer.E (k : Nat) : Env := ⟨tys, [laws_szEntry.sm k], [], [], []⟩
noncomputable def laws_szAnswer.pts : List (Pt (denR (outTys laws_szAnswer.g.rts laws_szAnswer.g.pms))) := []
theorem laws_szAnswer.hf (k : Nat) (a0 : Answer) (a1 : Int) : (laws_szAnswer.f a0 a1 : Option (denR (outTys laws_szAnswer.g.rts laws_szAnswer.g.pms))) = evC (laws_szAnswer.E k) (fun κ s => lhOf k κ s laws_szAnswer.pts) b103 (OM.start laws_szAnswer.g.pms 0 (a0, a1, ())) (OM.fin laws_szAnswer.g Try.f103.results.toList) := by kernel_rfl
theorem laws_szAnswer.ok (k : Nat) : SmOk Try.prog (laws_szAnswer.sm k) :=
  sm_ok mixed (E := laws_szAnswer.E) (pts := laws_szAnswer.pts) (fun k => ⟨⟨tysOk, by kernel_rfl⟩, forall_cons ⟨laws_szEntry.ok k, e150⟩ (forall_nil)⟩) (fun _ => rfl) (fun _ => rfl)
    ⟨Try.func103, by kernel_rfl, by kernel_rfl, by kernel_rfl, by kernel_rfl, by kernel_rfl, by kernel_rfl⟩ (forall_nil) (fun k x => laws_szAnswer.hf k x.1 x.2.1) k
noncomputable def b34 : Code := Try.f34.body.getD .skip
theorem e34 : OM.Entry Try.prog 34 := ⟨_, Try.func34, by kernel_rfl, by kernel_rfl⟩
@[reducible] noncomputable def laws_szAnswerS.g : Sig := ⟨[.fz (.sl tAnswer), .fz (.int .i64)], [.v (.int .i64) .z], []⟩
@[reducible] noncomputable def laws_szAnswerS.fk : Nat → denI laws_szAnswerS.g.pms → Option (denR (outTys laws_szAnswerS.g.rts laws_szAnswerS.g.pms)) := fun k x => laws_szAnswerS.f k x.1 x.2.1
@[reducible] noncomputable def laws_szAnswerS.sm (k : Nat) : Sm := ⟨34, laws_szAnswerS.g.pms, laws_szAnswerS.g.rts, laws_szAnswerS.fk k⟩
noncomputable def laws_szAnswerS.E (k : Nat) : Env := ⟨tys, [laws_szAnswer.sm k], [], [], []⟩
@[reducible] noncomputable def laws_szAnswerS.s11 : List Slot := [.v 0 (.sl tAnswer) .z [] 0, .v 4 (.int .i64) .z [] 0, .v 20 (.int .i64) .z [] 0]
noncomputable def laws_szAnswerS.pts : List (Pt (denR (outTys laws_szAnswerS.g.rts laws_szAnswerS.g.pms))) := [⟨11, laws_szAnswerS.s11, fun k x => laws_szAnswerS.p11 k x.1 x.2.1 x.2.2.1⟩]
theorem laws_szAnswerS.h11 (k : Nat) (x0 : (List Answer)) (x1 : Int) (x2 : Int) : (laws_szAnswerS.p11 (k + 1) x0 x1 x2 : Option (denR (outTys laws_szAnswerS.g.rts laws_szAnswerS.g.pms))) = evAt (laws_szAnswerS.E k) (fun κ s => lhOf k κ s laws_szAnswerS.pts) 11 b34 (unproj laws_szAnswerS.s11 (x0, x1, x2, ())) (OM.fin laws_szAnswerS.g Try.f34.results.toList) := by kernel_rfl
theorem laws_szAnswerS.hf (k : Nat) (a0 : (List Answer)) (a1 : Int) : (laws_szAnswerS.f k a0 a1 : Option (denR (outTys laws_szAnswerS.g.rts laws_szAnswerS.g.pms))) = evC (laws_szAnswerS.E k) (fun κ s => lhOf k κ s laws_szAnswerS.pts) b34 (OM.start laws_szAnswerS.g.pms 0 (a0, a1, ())) (OM.fin laws_szAnswerS.g Try.f34.results.toList) := by kernel_rfl
theorem laws_szAnswerS.ok (k : Nat) : SmOk Try.prog (laws_szAnswerS.sm k) :=
  sm_ok mixed (E := laws_szAnswerS.E) (pts := laws_szAnswerS.pts) (fun k => ⟨⟨tysOk, by kernel_rfl⟩, forall_cons ⟨laws_szAnswer.ok k, e103⟩ (forall_nil)⟩) (fun _ => rfl) (fun _ => rfl)
    ⟨Try.func34, by kernel_rfl, by kernel_rfl, by kernel_rfl, by kernel_rfl, by kernel_rfl, by kernel_rfl⟩ (forall_cons (fun x => ⟨rfl, fun k => laws_szAnswerS.h11 k x.1 x.2.1 x.2.2.1⟩) (forall_nil)) (fun k x => laws_szAnswerS.hf k x.1 x.2.1) k
noncomputable def b104 : Code := Try.f104.body.getD .skip
theorem e104 : OM.Entry Try.prog 104 := ⟨_, Try.func104, by kernel_rfl, by kernel_rfl⟩
@[reducible] noncomputable def laws_toIntS.g : Sig := ⟨[.fz (.sl (.int .i64))], [.v (.sl (.int .i64)) (.own .z)], []⟩
@[reducible] noncomputable def laws_toIntS.fk : Nat → denI laws_toIntS.g.pms → Option (denR (outTys laws_toIntS.g.rts laws_toIntS.g.pms)) := fun k x => laws_toIntS.f k x.1
@[reducible] noncomputable def laws_toIntS.sm (k : Nat) : Sm := ⟨104, laws_toIntS.g.pms, laws_toIntS.g.rts, laws_toIntS.fk k⟩
noncomputable def laws_toIntS.E (k : Nat) : Env := ⟨tys, [], [19], [], []⟩
@[reducible] noncomputable def laws_toIntS.s7 : List Slot := [.v 0 (.sl (.int .i64)) .z [] 0, .v 12 (.sl (.int .i64)) (.own .z) [] 0, .v 16 (.int .i64) .z [] 0]
noncomputable def laws_toIntS.pts : List (Pt (denR (outTys laws_toIntS.g.rts laws_toIntS.g.pms))) := [⟨7, laws_toIntS.s7, fun k x => laws_toIntS.p7 k x.1 x.2.1 x.2.2.1⟩]
theorem laws_toIntS.h7 (k : Nat) (x0 : (List Int)) (x1 : (List Int)) (x2 : Int) : (laws_toIntS.p7 (k + 1) x0 x1 x2 : Option (denR (outTys laws_toIntS.g.rts laws_toIntS.g.pms))) = evAt (laws_toIntS.E k) (fun κ s => lhOf k κ s laws_toIntS.pts) 7 b104 (unproj laws_toIntS.s7 (x0, x1, x2, ())) (OM.fin laws_toIntS.g Try.f104.results.toList) := by kernel_rfl
theorem laws_toIntS.hf (k : Nat) (a0 : (List Int)) : (laws_toIntS.f k a0 : Option (denR (outTys laws_toIntS.g.rts laws_toIntS.g.pms))) = evC (laws_toIntS.E k) (fun κ s => lhOf k κ s laws_toIntS.pts) b104 (OM.start laws_toIntS.g.pms 0 (a0, ())) (OM.fin laws_toIntS.g Try.f104.results.toList) := by kernel_rfl
theorem laws_toIntS.ok (k : Nat) : SmOk Try.prog (laws_toIntS.sm k) :=
  sm_ok mixed (E := laws_toIntS.E) (pts := laws_toIntS.pts) (fun k => ⟨⟨tysOk, by kernel_rfl⟩, forall_nil⟩) (fun _ => rfl) (fun _ => rfl)
    ⟨Try.func104, by kernel_rfl, by kernel_rfl, by kernel_rfl, by kernel_rfl, by kernel_rfl, by kernel_rfl⟩ (forall_cons (fun x => ⟨rfl, fun k => laws_toIntS.h7 k x.1 x.2.1 x.2.2.1⟩) (forall_nil)) (fun k x => laws_toIntS.hf k x.1) k
noncomputable def b35 : Code := Try.f35.body.getD .skip
theorem e35 : OM.Entry Try.prog 35 := ⟨_, Try.func35, by kernel_rfl, by kernel_rfl⟩
@[reducible] noncomputable def laws_toConfig.g : Sig := ⟨[.fz tConfig], [.v tConfig (.two (.own .z) .z)], []⟩
@[reducible] noncomputable def laws_toConfig.fk : Nat → denI laws_toConfig.g.pms → Option (denR (outTys laws_toConfig.g.rts laws_toConfig.g.pms)) := fun k x => laws_toConfig.f k x.1
@[reducible] noncomputable def laws_toConfig.sm (k : Nat) : Sm := ⟨35, laws_toConfig.g.pms, laws_toConfig.g.rts, laws_toConfig.fk k⟩
noncomputable def laws_toConfig.E (k : Nat) : Env := ⟨tys, [laws_toIntS.sm k], [9], [], []⟩
noncomputable def laws_toConfig.pts : List (Pt (denR (outTys laws_toConfig.g.rts laws_toConfig.g.pms))) := []
theorem laws_toConfig.hf (k : Nat) (a0 : Config) : (laws_toConfig.f k a0 : Option (denR (outTys laws_toConfig.g.rts laws_toConfig.g.pms))) = evC (laws_toConfig.E k) (fun κ s => lhOf k κ s laws_toConfig.pts) b35 (OM.start laws_toConfig.g.pms 0 (a0, ())) (OM.fin laws_toConfig.g Try.f35.results.toList) := by kernel_rfl
theorem laws_toConfig.ok (k : Nat) : SmOk Try.prog (laws_toConfig.sm k) :=
  sm_ok mixed (E := laws_toConfig.E) (pts := laws_toConfig.pts) (fun k => ⟨⟨tysOk, by kernel_rfl⟩, forall_cons ⟨laws_toIntS.ok k, e104⟩ (forall_nil)⟩) (fun _ => rfl) (fun _ => rfl)
    ⟨Try.func35, by kernel_rfl, by kernel_rfl, by kernel_rfl, by kernel_rfl, by kernel_rfl, by kernel_rfl⟩ (forall_nil) (fun k x => laws_toConfig.hf k x.1) k
noncomputable def b151 : Code := Try.f151.body.getD .skip
theorem e151 : OM.Entry Try.prog 151 := ⟨_, Try.func151, by kernel_rfl, by kernel_rfl⟩
@[reducible] noncomputable def laws_toEra.g : Sig := ⟨[.fz tEra], [.v tEra (.two (.own .z) .z)], []⟩
@[reducible] noncomputable def laws_toEra.fk : Nat → denI laws_toEra.g.pms → Option (denR (outTys laws_toEra.g.rts laws_toEra.g.pms)) := fun k x => laws_toEra.f k x.1
@[reducible] noncomputable def laws_toEra.sm (k : Nat) : Sm := ⟨151, laws_toEra.g.pms, laws_toEra.g.rts, laws_toEra.fk k⟩
noncomputable def laws_toEra.E (k : Nat) : Env := ⟨tys, [laws_toIntS.sm k], [12], [], []⟩
noncomputable def laws_toEra.pts : List (Pt (denR (outTys laws_toEra.g.rts laws_toEra.g.pms))) := []
theorem laws_toEra.hf (k : Nat) (a0 : Era) : (laws_toEra.f k a0 : Option (denR (outTys laws_toEra.g.rts laws_toEra.g.pms))) = evC (laws_toEra.E k) (fun κ s => lhOf k κ s laws_toEra.pts) b151 (OM.start laws_toEra.g.pms 0 (a0, ())) (OM.fin laws_toEra.g Try.f151.results.toList) := by kernel_rfl
theorem laws_toEra.ok (k : Nat) : SmOk Try.prog (laws_toEra.sm k) :=
  sm_ok mixed (E := laws_toEra.E) (pts := laws_toEra.pts) (fun k => ⟨⟨tysOk, by kernel_rfl⟩, forall_cons ⟨laws_toIntS.ok k, e104⟩ (forall_nil)⟩) (fun _ => rfl) (fun _ => rfl)
    ⟨Try.func151, by kernel_rfl, by kernel_rfl, by kernel_rfl, by kernel_rfl, by kernel_rfl, by kernel_rfl⟩ (forall_nil) (fun k x => laws_toEra.hf k x.1) k
noncomputable def b105 : Code := Try.f105.body.getD .skip
theorem e105 : OM.Entry Try.prog 105 := ⟨_, Try.func105, by kernel_rfl, by kernel_rfl⟩
@[reducible] noncomputable def laws_toEraS.g : Sig := ⟨[.fz (.sl tEra)], [.v (.sl tEra) (.own (.two (.own .z) .z))], []⟩
@[reducible] noncomputable def laws_toEraS.fk : Nat → denI laws_toEraS.g.pms → Option (denR (outTys laws_toEraS.g.rts laws_toEraS.g.pms)) := fun k x => laws_toEraS.f k x.1
@[reducible] noncomputable def laws_toEraS.sm (k : Nat) : Sm := ⟨105, laws_toEraS.g.pms, laws_toEraS.g.rts, laws_toEraS.fk k⟩
noncomputable def laws_toEraS.E (k : Nat) : Env := ⟨tys, [laws_toEra.sm k], [], [], []⟩
@[reducible] noncomputable def laws_toEraS.s7 : List Slot := [.v 0 (.sl tEra) .z [] 0, .v 12 (.sl tEra) (.own (.two (.own .z) .z)) [] 0, .v 16 (.int .i64) .z [] 0]
noncomputable def laws_toEraS.pts : List (Pt (denR (outTys laws_toEraS.g.rts laws_toEraS.g.pms))) := [⟨7, laws_toEraS.s7, fun k x => laws_toEraS.p7 k x.1 x.2.1 x.2.2.1⟩]
theorem laws_toEraS.h7 (k : Nat) (x0 : (List Era)) (x1 : (List Era)) (x2 : Int) : (laws_toEraS.p7 (k + 1) x0 x1 x2 : Option (denR (outTys laws_toEraS.g.rts laws_toEraS.g.pms))) = evAt (laws_toEraS.E k) (fun κ s => lhOf k κ s laws_toEraS.pts) 7 b105 (unproj laws_toEraS.s7 (x0, x1, x2, ())) (OM.fin laws_toEraS.g Try.f105.results.toList) := by kernel_rfl
theorem laws_toEraS.hf (k : Nat) (a0 : (List Era)) : (laws_toEraS.f k a0 : Option (denR (outTys laws_toEraS.g.rts laws_toEraS.g.pms))) = evC (laws_toEraS.E k) (fun κ s => lhOf k κ s laws_toEraS.pts) b105 (OM.start laws_toEraS.g.pms 0 (a0, ())) (OM.fin laws_toEraS.g Try.f105.results.toList) := by kernel_rfl
theorem laws_toEraS.ok (k : Nat) : SmOk Try.prog (laws_toEraS.sm k) :=
  sm_ok mixed (E := laws_toEraS.E) (pts := laws_toEraS.pts) (fun k => ⟨⟨tysOk, by kernel_rfl⟩, forall_cons ⟨laws_toEra.ok k, e151⟩ (forall_nil)⟩) (fun _ => rfl) (fun _ => rfl)
    ⟨Try.func105, by kernel_rfl, by kernel_rfl, by kernel_rfl, by kernel_rfl, by kernel_rfl, by kernel_rfl⟩ (forall_cons (fun x => ⟨rfl, fun k => laws_toEraS.h7 k x.1 x.2.1 x.2.2.1⟩) (forall_nil)) (fun k x => laws_toEraS.hf k x.1) k
noncomputable def b36 : Code := Try.f36.body.getD .skip
theorem e36 : OM.Entry Try.prog 36 := ⟨_, Try.func36, by kernel_rfl, by kernel_rfl⟩
@[reducible] noncomputable def laws_toRegister.g : Sig := ⟨[.fz tRegister], [.v tRegister (.two (.own (.two (.own .z) .z)) .z)], []⟩
@[reducible] noncomputable def laws_toRegister.fk : Nat → denI laws_toRegister.g.pms → Option (denR (outTys laws_toRegister.g.rts laws_toRegister.g.pms)) := fun k x => laws_toRegister.f k x.1
@[reducible] noncomputable def laws_toRegister.sm (k : Nat) : Sm := ⟨36, laws_toRegister.g.pms, laws_toRegister.g.rts, laws_toRegister.fk k⟩
noncomputable def laws_toRegister.E (k : Nat) : Env := ⟨tys, [laws_toEraS.sm k], [9], [], []⟩
noncomputable def laws_toRegister.pts : List (Pt (denR (outTys laws_toRegister.g.rts laws_toRegister.g.pms))) := []
theorem laws_toRegister.hf (k : Nat) (a0 : Register) : (laws_toRegister.f k a0 : Option (denR (outTys laws_toRegister.g.rts laws_toRegister.g.pms))) = evC (laws_toRegister.E k) (fun κ s => lhOf k κ s laws_toRegister.pts) b36 (OM.start laws_toRegister.g.pms 0 (a0, ())) (OM.fin laws_toRegister.g Try.f36.results.toList) := by kernel_rfl
theorem laws_toRegister.ok (k : Nat) : SmOk Try.prog (laws_toRegister.sm k) :=
  sm_ok mixed (E := laws_toRegister.E) (pts := laws_toRegister.pts) (fun k => ⟨⟨tysOk, by kernel_rfl⟩, forall_cons ⟨laws_toEraS.ok k, e105⟩ (forall_nil)⟩) (fun _ => rfl) (fun _ => rfl)
    ⟨Try.func36, by kernel_rfl, by kernel_rfl, by kernel_rfl, by kernel_rfl, by kernel_rfl, by kernel_rfl⟩ (forall_nil) (fun k x => laws_toRegister.hf k x.1) k
noncomputable def b152 : Code := Try.f152.body.getD .skip
theorem e152 : OM.Entry Try.prog 152 := ⟨_, Try.func152, by kernel_rfl, by kernel_rfl⟩
@[reducible] noncomputable def laws_toEvent.g : Sig := ⟨[.fz tEvent], [.v tEvent .z], []⟩
@[reducible] noncomputable def laws_toEvent.fk : Nat → denI laws_toEvent.g.pms → Option (denR (outTys laws_toEvent.g.rts laws_toEvent.g.pms)) := fun k x => laws_toEvent.f x.1
@[reducible] noncomputable def laws_toEvent.sm (k : Nat) : Sm := ⟨152, laws_toEvent.g.pms, laws_toEvent.g.rts, laws_toEvent.fk k⟩
noncomputable def laws_toEvent.E (k : Nat) : Env := ⟨tys, [], [11], [], []⟩
noncomputable def laws_toEvent.pts : List (Pt (denR (outTys laws_toEvent.g.rts laws_toEvent.g.pms))) := []
theorem laws_toEvent.hf (k : Nat) (a0 : Event) : (laws_toEvent.f a0 : Option (denR (outTys laws_toEvent.g.rts laws_toEvent.g.pms))) = evC (laws_toEvent.E k) (fun κ s => lhOf k κ s laws_toEvent.pts) b152 (OM.start laws_toEvent.g.pms 0 (a0, ())) (OM.fin laws_toEvent.g Try.f152.results.toList) := by kernel_rfl
theorem laws_toEvent.ok (k : Nat) : SmOk Try.prog (laws_toEvent.sm k) :=
  sm_ok mixed (E := laws_toEvent.E) (pts := laws_toEvent.pts) (fun k => ⟨⟨tysOk, by kernel_rfl⟩, forall_nil⟩) (fun _ => rfl) (fun _ => rfl)
    ⟨Try.func152, by kernel_rfl, by kernel_rfl, by kernel_rfl, by kernel_rfl, by kernel_rfl, by kernel_rfl⟩ (forall_nil) (fun k x => laws_toEvent.hf k x.1) k
noncomputable def b106 : Code := Try.f106.body.getD .skip
theorem e106 : OM.Entry Try.prog 106 := ⟨_, Try.func106, by kernel_rfl, by kernel_rfl⟩
@[reducible] noncomputable def laws_toEventS.g : Sig := ⟨[.fz (.sl tEvent)], [.v (.sl tEvent) (.own .z)], []⟩
@[reducible] noncomputable def laws_toEventS.fk : Nat → denI laws_toEventS.g.pms → Option (denR (outTys laws_toEventS.g.rts laws_toEventS.g.pms)) := fun k x => laws_toEventS.f k x.1
@[reducible] noncomputable def laws_toEventS.sm (k : Nat) : Sm := ⟨106, laws_toEventS.g.pms, laws_toEventS.g.rts, laws_toEventS.fk k⟩
noncomputable def laws_toEventS.E (k : Nat) : Env := ⟨tys, [laws_toEvent.sm k], [], [], []⟩
@[reducible] noncomputable def laws_toEventS.s7 : List Slot := [.v 0 (.sl tEvent) .z [] 0, .v 12 (.sl tEvent) (.own .z) [] 0, .v 16 (.int .i64) .z [] 0]
noncomputable def laws_toEventS.pts : List (Pt (denR (outTys laws_toEventS.g.rts laws_toEventS.g.pms))) := [⟨7, laws_toEventS.s7, fun k x => laws_toEventS.p7 k x.1 x.2.1 x.2.2.1⟩]
theorem laws_toEventS.h7 (k : Nat) (x0 : (List Event)) (x1 : (List Event)) (x2 : Int) : (laws_toEventS.p7 (k + 1) x0 x1 x2 : Option (denR (outTys laws_toEventS.g.rts laws_toEventS.g.pms))) = evAt (laws_toEventS.E k) (fun κ s => lhOf k κ s laws_toEventS.pts) 7 b106 (unproj laws_toEventS.s7 (x0, x1, x2, ())) (OM.fin laws_toEventS.g Try.f106.results.toList) := by kernel_rfl
theorem laws_toEventS.hf (k : Nat) (a0 : (List Event)) : (laws_toEventS.f k a0 : Option (denR (outTys laws_toEventS.g.rts laws_toEventS.g.pms))) = evC (laws_toEventS.E k) (fun κ s => lhOf k κ s laws_toEventS.pts) b106 (OM.start laws_toEventS.g.pms 0 (a0, ())) (OM.fin laws_toEventS.g Try.f106.results.toList) := by kernel_rfl
theorem laws_toEventS.ok (k : Nat) : SmOk Try.prog (laws_toEventS.sm k) :=
  sm_ok mixed (E := laws_toEventS.E) (pts := laws_toEventS.pts) (fun k => ⟨⟨tysOk, by kernel_rfl⟩, forall_cons ⟨laws_toEvent.ok k, e152⟩ (forall_nil)⟩) (fun _ => rfl) (fun _ => rfl)
    ⟨Try.func106, by kernel_rfl, by kernel_rfl, by kernel_rfl, by kernel_rfl, by kernel_rfl, by kernel_rfl⟩ (forall_cons (fun x => ⟨rfl, fun k => laws_toEventS.h7 k x.1 x.2.1 x.2.2.1⟩) (forall_nil)) (fun k x => laws_toEventS.hf k x.1) k
noncomputable def b37 : Code := Try.f37.body.getD .skip
theorem e37 : OM.Entry Try.prog 37 := ⟨_, Try.func37, by kernel_rfl, by kernel_rfl⟩
@[reducible] noncomputable def laws_toReader.g : Sig := ⟨[.fz tReader], [.v tReader (.two .z (.two .z (.two (.own .z) .z)))], []⟩
@[reducible] noncomputable def laws_toReader.fk : Nat → denI laws_toReader.g.pms → Option (denR (outTys laws_toReader.g.rts laws_toReader.g.pms)) := fun k x => laws_toReader.f k x.1
@[reducible] noncomputable def laws_toReader.sm (k : Nat) : Sm := ⟨37, laws_toReader.g.pms, laws_toReader.g.rts, laws_toReader.fk k⟩
noncomputable def laws_toReader.E (k : Nat) : Env := ⟨tys, [laws_toEventS.sm k], [], [], []⟩
noncomputable def laws_toReader.pts : List (Pt (denR (outTys laws_toReader.g.rts laws_toReader.g.pms))) := []
theorem laws_toReader.hf (k : Nat) (a0 : Reader) : (laws_toReader.f k a0 : Option (denR (outTys laws_toReader.g.rts laws_toReader.g.pms))) = evC (laws_toReader.E k) (fun κ s => lhOf k κ s laws_toReader.pts) b37 (OM.start laws_toReader.g.pms 0 (a0, ())) (OM.fin laws_toReader.g Try.f37.results.toList) := by kernel_rfl
theorem laws_toReader.ok (k : Nat) : SmOk Try.prog (laws_toReader.sm k) :=
  sm_ok mixed (E := laws_toReader.E) (pts := laws_toReader.pts) (fun k => ⟨⟨tysOk, by kernel_rfl⟩, forall_cons ⟨laws_toEventS.ok k, e106⟩ (forall_nil)⟩) (fun _ => rfl) (fun _ => rfl)
    ⟨Try.func37, by kernel_rfl, by kernel_rfl, by kernel_rfl, by kernel_rfl, by kernel_rfl, by kernel_rfl⟩ (forall_nil) (fun k x => laws_toReader.hf k x.1) k
noncomputable def b153 : Code := Try.f153.body.getD .skip
theorem e153 : OM.Entry Try.prog 153 := ⟨_, Try.func153, by kernel_rfl, by kernel_rfl⟩
@[reducible] noncomputable def laws_toEntry.g : Sig := ⟨[.fz tEntry], [.v tEntry .z], []⟩
@[reducible] noncomputable def laws_toEntry.fk : Nat → denI laws_toEntry.g.pms → Option (denR (outTys laws_toEntry.g.rts laws_toEntry.g.pms)) := fun k x => laws_toEntry.f x.1
@[reducible] noncomputable def laws_toEntry.sm (k : Nat) : Sm := ⟨153, laws_toEntry.g.pms, laws_toEntry.g.rts, laws_toEntry.fk k⟩
noncomputable def laws_toEntry.E (k : Nat) : Env := ⟨tys, [], [14], [], []⟩
noncomputable def laws_toEntry.pts : List (Pt (denR (outTys laws_toEntry.g.rts laws_toEntry.g.pms))) := []
theorem laws_toEntry.hf (k : Nat) (a0 : Entry) : (laws_toEntry.f a0 : Option (denR (outTys laws_toEntry.g.rts laws_toEntry.g.pms))) = evC (laws_toEntry.E k) (fun κ s => lhOf k κ s laws_toEntry.pts) b153 (OM.start laws_toEntry.g.pms 0 (a0, ())) (OM.fin laws_toEntry.g Try.f153.results.toList) := by kernel_rfl
theorem laws_toEntry.ok (k : Nat) : SmOk Try.prog (laws_toEntry.sm k) :=
  sm_ok mixed (E := laws_toEntry.E) (pts := laws_toEntry.pts) (fun k => ⟨⟨tysOk, by kernel_rfl⟩, forall_nil⟩) (fun _ => rfl) (fun _ => rfl)
    ⟨Try.func153, by kernel_rfl, by kernel_rfl, by kernel_rfl, by kernel_rfl, by kernel_rfl, by kernel_rfl⟩ (forall_nil) (fun k x => laws_toEntry.hf k x.1) k
noncomputable def b107 : Code := Try.f107.body.getD .skip
theorem e107 : OM.Entry Try.prog 107 := ⟨_, Try.func107, by kernel_rfl, by kernel_rfl⟩
@[reducible] noncomputable def laws_toAnswer.g : Sig := ⟨[.fz tAnswer], [.v tAnswer .z], []⟩
@[reducible] noncomputable def laws_toAnswer.fk : Nat → denI laws_toAnswer.g.pms → Option (denR (outTys laws_toAnswer.g.rts laws_toAnswer.g.pms)) := fun k x => laws_toAnswer.f x.1
@[reducible] noncomputable def laws_toAnswer.sm (k : Nat) : Sm := ⟨107, laws_toAnswer.g.pms, laws_toAnswer.g.rts, laws_toAnswer.fk k⟩
noncomputable def laws_toAnswer.E (k : Nat) : Env := ⟨tys, [laws_toEntry.sm k], [], [], []⟩
noncomputable def laws_toAnswer.pts : List (Pt (denR (outTys laws_toAnswer.g.rts laws_toAnswer.g.pms))) := []
theorem laws_toAnswer.hf (k : Nat) (a0 : Answer) : (laws_toAnswer.f a0 : Option (denR (outTys laws_toAnswer.g.rts laws_toAnswer.g.pms))) = evC (laws_toAnswer.E k) (fun κ s => lhOf k κ s laws_toAnswer.pts) b107 (OM.start laws_toAnswer.g.pms 0 (a0, ())) (OM.fin laws_toAnswer.g Try.f107.results.toList) := by kernel_rfl
theorem laws_toAnswer.ok (k : Nat) : SmOk Try.prog (laws_toAnswer.sm k) :=
  sm_ok mixed (E := laws_toAnswer.E) (pts := laws_toAnswer.pts) (fun k => ⟨⟨tysOk, by kernel_rfl⟩, forall_cons ⟨laws_toEntry.ok k, e153⟩ (forall_nil)⟩) (fun _ => rfl) (fun _ => rfl)
    ⟨Try.func107, by kernel_rfl, by kernel_rfl, by kernel_rfl, by kernel_rfl, by kernel_rfl, by kernel_rfl⟩ (forall_nil) (fun k x => laws_toAnswer.hf k x.1) k
noncomputable def b38 : Code := Try.f38.body.getD .skip
theorem e38 : OM.Entry Try.prog 38 := ⟨_, Try.func38, by kernel_rfl, by kernel_rfl⟩
@[reducible] noncomputable def laws_toAnswerS.g : Sig := ⟨[.fz (.sl tAnswer)], [.v (.sl tAnswer) (.own .z)], []⟩
@[reducible] noncomputable def laws_toAnswerS.fk : Nat → denI laws_toAnswerS.g.pms → Option (denR (outTys laws_toAnswerS.g.rts laws_toAnswerS.g.pms)) := fun k x => laws_toAnswerS.f k x.1
@[reducible] noncomputable def laws_toAnswerS.sm (k : Nat) : Sm := ⟨38, laws_toAnswerS.g.pms, laws_toAnswerS.g.rts, laws_toAnswerS.fk k⟩
noncomputable def laws_toAnswerS.E (k : Nat) : Env := ⟨tys, [laws_toAnswer.sm k], [], [], []⟩
@[reducible] noncomputable def laws_toAnswerS.s7 : List Slot := [.v 0 (.sl tAnswer) .z [] 0, .v 12 (.sl tAnswer) (.own .z) [] 0, .v 16 (.int .i64) .z [] 0]
noncomputable def laws_toAnswerS.pts : List (Pt (denR (outTys laws_toAnswerS.g.rts laws_toAnswerS.g.pms))) := [⟨7, laws_toAnswerS.s7, fun k x => laws_toAnswerS.p7 k x.1 x.2.1 x.2.2.1⟩]
theorem laws_toAnswerS.h7 (k : Nat) (x0 : (List Answer)) (x1 : (List Answer)) (x2 : Int) : (laws_toAnswerS.p7 (k + 1) x0 x1 x2 : Option (denR (outTys laws_toAnswerS.g.rts laws_toAnswerS.g.pms))) = evAt (laws_toAnswerS.E k) (fun κ s => lhOf k κ s laws_toAnswerS.pts) 7 b38 (unproj laws_toAnswerS.s7 (x0, x1, x2, ())) (OM.fin laws_toAnswerS.g Try.f38.results.toList) := by kernel_rfl
theorem laws_toAnswerS.hf (k : Nat) (a0 : (List Answer)) : (laws_toAnswerS.f k a0 : Option (denR (outTys laws_toAnswerS.g.rts laws_toAnswerS.g.pms))) = evC (laws_toAnswerS.E k) (fun κ s => lhOf k κ s laws_toAnswerS.pts) b38 (OM.start laws_toAnswerS.g.pms 0 (a0, ())) (OM.fin laws_toAnswerS.g Try.f38.results.toList) := by kernel_rfl
theorem laws_toAnswerS.ok (k : Nat) : SmOk Try.prog (laws_toAnswerS.sm k) :=
  sm_ok mixed (E := laws_toAnswerS.E) (pts := laws_toAnswerS.pts) (fun k => ⟨⟨tysOk, by kernel_rfl⟩, forall_cons ⟨laws_toAnswer.ok k, e107⟩ (forall_nil)⟩) (fun _ => rfl) (fun _ => rfl)
    ⟨Try.func38, by kernel_rfl, by kernel_rfl, by kernel_rfl, by kernel_rfl, by kernel_rfl, by kernel_rfl⟩ (forall_cons (fun x => ⟨rfl, fun k => laws_toAnswerS.h7 k x.1 x.2.1 x.2.2.1⟩) (forall_nil)) (fun k x => laws_toAnswerS.hf k x.1) k
noncomputable def b71 : Code := Try.f71.body.getD .skip
theorem e71 : OM.Entry Try.prog 71 := ⟨_, Try.func71, by kernel_rfl, by kernel_rfl⟩
@[reducible] noncomputable def spec_l1In.g : Sig := ⟨[.fz (.int .i64), .fz (.int .i64), .fz (.int .i64)], [.v .bool .z], []⟩
@[reducible] noncomputable def spec_l1In.fk : Nat → denI spec_l1In.g.pms → Option (denR (outTys spec_l1In.g.rts spec_l1In.g.pms)) := fun k x => spec_l1In.f x.1 x.2.1 x.2.2.1
@[reducible] noncomputable def spec_l1In.sm (k : Nat) : Sm := ⟨71, spec_l1In.g.pms, spec_l1In.g.rts, spec_l1In.fk k⟩
noncomputable def spec_l1In.E (k : Nat) : Env := ⟨tys, [], [], [], []⟩
noncomputable def spec_l1In.pts : List (Pt (denR (outTys spec_l1In.g.rts spec_l1In.g.pms))) := []
theorem spec_l1In.hf (k : Nat) (a0 : Int) (a1 : Int) (a2 : Int) : (spec_l1In.f a0 a1 a2 : Option (denR (outTys spec_l1In.g.rts spec_l1In.g.pms))) = evC (spec_l1In.E k) (fun κ s => lhOf k κ s spec_l1In.pts) b71 (OM.start spec_l1In.g.pms 0 (a0, a1, a2, ())) (OM.fin spec_l1In.g Try.f71.results.toList) := by kernel_rfl
theorem spec_l1In.ok (k : Nat) : SmOk Try.prog (spec_l1In.sm k) :=
  sm_ok mixed (E := spec_l1In.E) (pts := spec_l1In.pts) (fun k => ⟨⟨tysOk, by kernel_rfl⟩, forall_nil⟩) (fun _ => rfl) (fun _ => rfl)
    ⟨Try.func71, by kernel_rfl, by kernel_rfl, by kernel_rfl, by kernel_rfl, by kernel_rfl, by kernel_rfl⟩ (forall_nil) (fun k x => spec_l1In.hf k x.1 x.2.1 x.2.2.1) k
noncomputable def b70 : Code := Try.f70.body.getD .skip
theorem e70 : OM.Entry Try.prog 70 := ⟨_, Try.func70, by kernel_rfl, by kernel_rfl⟩
@[reducible] noncomputable def spec_ConfigOk.g : Sig := ⟨[.fz tConfig], [.v .bool .z], []⟩
@[reducible] noncomputable def spec_ConfigOk.fk : Nat → denI spec_ConfigOk.g.pms → Option (denR (outTys spec_ConfigOk.g.rts spec_ConfigOk.g.pms)) := fun k x => spec_ConfigOk.f k x.1
@[reducible] noncomputable def spec_ConfigOk.sm (k : Nat) : Sm := ⟨70, spec_ConfigOk.g.pms, spec_ConfigOk.g.rts, spec_ConfigOk.fk k⟩
noncomputable def spec_ConfigOk.E (k : Nat) : Env := ⟨tys, [spec_l1In.sm k], [], [], []⟩
@[reducible] noncomputable def spec_ConfigOk.s9 : List Slot := [.r 4 5 [] tConfig, .v 12 (.int .i64) .z [] 0, .v 5 tConfig .z [] 0]
noncomputable def spec_ConfigOk.pts : List (Pt (denR (outTys spec_ConfigOk.g.rts spec_ConfigOk.g.pms))) := [⟨9, spec_ConfigOk.s9, fun k x => spec_ConfigOk.p9 k x.1 x.2.1⟩]
theorem spec_ConfigOk.h9 (k : Nat) (x0 : Int) (x1 : Config) : (spec_ConfigOk.p9 (k + 1) x0 x1 : Option (denR (outTys spec_ConfigOk.g.rts spec_ConfigOk.g.pms))) = evAt (spec_ConfigOk.E k) (fun κ s => lhOf k κ s spec_ConfigOk.pts) 9 b70 (unproj spec_ConfigOk.s9 (x0, x1, ())) (OM.fin spec_ConfigOk.g Try.f70.results.toList) := by kernel_rfl
theorem spec_ConfigOk.hf (k : Nat) (a0 : Config) : (spec_ConfigOk.f k a0 : Option (denR (outTys spec_ConfigOk.g.rts spec_ConfigOk.g.pms))) = evC (spec_ConfigOk.E k) (fun κ s => lhOf k κ s spec_ConfigOk.pts) b70 (OM.start spec_ConfigOk.g.pms 0 (a0, ())) (OM.fin spec_ConfigOk.g Try.f70.results.toList) := by kernel_rfl
theorem spec_ConfigOk.ok (k : Nat) : SmOk Try.prog (spec_ConfigOk.sm k) :=
  sm_ok mixed (E := spec_ConfigOk.E) (pts := spec_ConfigOk.pts) (fun k => ⟨⟨tysOk, by kernel_rfl⟩, forall_cons ⟨spec_l1In.ok k, e71⟩ (forall_nil)⟩) (fun _ => rfl) (fun _ => rfl)
    ⟨Try.func70, by kernel_rfl, by kernel_rfl, by kernel_rfl, by kernel_rfl, by kernel_rfl, by kernel_rfl⟩ (forall_cons (fun x => ⟨rfl, fun k => spec_ConfigOk.h9 k x.1 x.2.1⟩) (forall_nil)) (fun k x => spec_ConfigOk.hf k x.1) k
noncomputable def b134 : Code := Try.f134.body.getD .skip
theorem e134 : OM.Entry Try.prog 134 := ⟨_, Try.func134, by kernel_rfl, by kernel_rfl⟩
@[reducible] noncomputable def spec_l4Asc.g : Sig := ⟨[.fz (.sl (.int .i64)), .fz (.int .i64), .fz (.int .i64)], [.v .bool .z], []⟩
@[reducible] noncomputable def spec_l4Asc.fk : Nat → denI spec_l4Asc.g.pms → Option (denR (outTys spec_l4Asc.g.rts spec_l4Asc.g.pms)) := fun k x => spec_l4Asc.f k x.1 x.2.1 x.2.2.1
@[reducible] noncomputable def spec_l4Asc.sm (k : Nat) : Sm := ⟨134, spec_l4Asc.g.pms, spec_l4Asc.g.rts, spec_l4Asc.fk k⟩
noncomputable def spec_l4Asc.E (k : Nat) : Env := ⟨tys, [spec_l1In.sm k], [], [], []⟩
@[reducible] noncomputable def spec_l4Asc.s5 : List Slot := [.v 0 (.sl (.int .i64)) .z [] 0, .v 4 (.int .i64) .z [] 0, .v 8 (.int .i64) .z [] 0, .v 28 (.int .i64) .z [] 0]
noncomputable def spec_l4Asc.pts : List (Pt (denR (outTys spec_l4Asc.g.rts spec_l4Asc.g.pms))) := [⟨5, spec_l4Asc.s5, fun k x => spec_l4Asc.p5 k x.1 x.2.1 x.2.2.1 x.2.2.2.1⟩]
theorem spec_l4Asc.h5 (k : Nat) (x0 : (List Int)) (x1 : Int) (x2 : Int) (x3 : Int) : (spec_l4Asc.p5 (k + 1) x0 x1 x2 x3 : Option (denR (outTys spec_l4Asc.g.rts spec_l4Asc.g.pms))) = evAt (spec_l4Asc.E k) (fun κ s => lhOf k κ s spec_l4Asc.pts) 5 b134 (unproj spec_l4Asc.s5 (x0, x1, x2, x3, ())) (OM.fin spec_l4Asc.g Try.f134.results.toList) := by kernel_rfl
theorem spec_l4Asc.hf (k : Nat) (a0 : (List Int)) (a1 : Int) (a2 : Int) : (spec_l4Asc.f k a0 a1 a2 : Option (denR (outTys spec_l4Asc.g.rts spec_l4Asc.g.pms))) = evC (spec_l4Asc.E k) (fun κ s => lhOf k κ s spec_l4Asc.pts) b134 (OM.start spec_l4Asc.g.pms 0 (a0, a1, a2, ())) (OM.fin spec_l4Asc.g Try.f134.results.toList) := by kernel_rfl
theorem spec_l4Asc.ok (k : Nat) : SmOk Try.prog (spec_l4Asc.sm k) :=
  sm_ok mixed (E := spec_l4Asc.E) (pts := spec_l4Asc.pts) (fun k => ⟨⟨tysOk, by kernel_rfl⟩, forall_cons ⟨spec_l1In.ok k, e71⟩ (forall_nil)⟩) (fun _ => rfl) (fun _ => rfl)
    ⟨Try.func134, by kernel_rfl, by kernel_rfl, by kernel_rfl, by kernel_rfl, by kernel_rfl, by kernel_rfl⟩ (forall_cons (fun x => ⟨rfl, fun k => spec_l4Asc.h5 k x.1 x.2.1 x.2.2.1 x.2.2.2.1⟩) (forall_nil)) (fun k x => spec_l4Asc.hf k x.1 x.2.1 x.2.2.1) k
noncomputable def b72 : Code := Try.f72.body.getD .skip
theorem e72 : OM.Entry Try.prog 72 := ⟨_, Try.func72, by kernel_rfl, by kernel_rfl⟩
@[reducible] noncomputable def spec_NodesOk.g : Sig := ⟨[.fz tConfig, .fz (.sl (.int .i64))], [.v .bool .z], []⟩
@[reducible] noncomputable def spec_NodesOk.fk : Nat → denI spec_NodesOk.g.pms → Option (denR (outTys spec_NodesOk.g.rts spec_NodesOk.g.pms)) := fun k x => spec_NodesOk.f k x.1 x.2.1
@[reducible] noncomputable def spec_NodesOk.sm (k : Nat) : Sm := ⟨72, spec_NodesOk.g.pms, spec_NodesOk.g.rts, spec_NodesOk.fk k⟩
noncomputable def spec_NodesOk.E (k : Nat) : Env := ⟨tys, [spec_ConfigOk.sm k, spec_l4Asc.sm k], [], [], []⟩
noncomputable def spec_NodesOk.pts : List (Pt (denR (outTys spec_NodesOk.g.rts spec_NodesOk.g.pms))) := []
theorem spec_NodesOk.hf (k : Nat) (a0 : Config) (a1 : (List Int)) : (spec_NodesOk.f k a0 a1 : Option (denR (outTys spec_NodesOk.g.rts spec_NodesOk.g.pms))) = evC (spec_NodesOk.E k) (fun κ s => lhOf k κ s spec_NodesOk.pts) b72 (OM.start spec_NodesOk.g.pms 0 (a0, a1, ())) (OM.fin spec_NodesOk.g Try.f72.results.toList) := by kernel_rfl
theorem spec_NodesOk.ok (k : Nat) : SmOk Try.prog (spec_NodesOk.sm k) :=
  sm_ok mixed (E := spec_NodesOk.E) (pts := spec_NodesOk.pts) (fun k => ⟨⟨tysOk, by kernel_rfl⟩, forall_cons ⟨spec_ConfigOk.ok k, e70⟩ (forall_cons ⟨spec_l4Asc.ok k, e134⟩ (forall_nil))⟩) (fun _ => rfl) (fun _ => rfl)
    ⟨Try.func72, by kernel_rfl, by kernel_rfl, by kernel_rfl, by kernel_rfl, by kernel_rfl, by kernel_rfl⟩ (forall_nil) (fun k x => spec_NodesOk.hf k x.1 x.2.1) k
noncomputable def b89 : Code := Try.f89.body.getD .skip
theorem e89 : OM.Entry Try.prog 89 := ⟨_, Try.func89, by kernel_rfl, by kernel_rfl⟩
@[reducible] noncomputable def spec_l10Nodes.g : Sig := ⟨[.fz tConfig, .fz (.sl tAnswer)], [.v (.sl (.int .i64)) (.own .z), .v .bool .z], []⟩
@[reducible] noncomputable def spec_l10Nodes.fk : Nat → denI spec_l10Nodes.g.pms → Option (denR (outTys spec_l10Nodes.g.rts spec_l10Nodes.g.pms)) := fun k x => spec_l10Nodes.f k x.1 x.2.1
@[reducible] noncomputable def spec_l10Nodes.sm (k : Nat) : Sm := ⟨89, spec_l10Nodes.g.pms, spec_l10Nodes.g.rts, spec_l10Nodes.fk k⟩
noncomputable def spec_l10Nodes.E (k : Nat) : Env := ⟨tys, [spec_NodesOk.sm k], [20], [], []⟩
@[reducible] noncomputable def spec_l10Nodes.s7 : List Slot := [.v 4 (.sl tAnswer) .z [] 0, .r 8 9 [] tConfig, .v 24 (.sl (.int .i64)) (.own .z) [] 0, .v 28 (.int .i64) .z [] 0, .v 9 tConfig .z [] 0]
noncomputable def spec_l10Nodes.pts : List (Pt (denR (outTys spec_l10Nodes.g.rts spec_l10Nodes.g.pms))) := [⟨7, spec_l10Nodes.s7, fun k x => spec_l10Nodes.p7 k x.1 x.2.1 x.2.2.1 x.2.2.2.1⟩]
theorem spec_l10Nodes.h7 (k : Nat) (x0 : (List Answer)) (x1 : (List Int)) (x2 : Int) (x3 : Config) : (spec_l10Nodes.p7 (k + 1) x0 x1 x2 x3 : Option (denR (outTys spec_l10Nodes.g.rts spec_l10Nodes.g.pms))) = evAt (spec_l10Nodes.E k) (fun κ s => lhOf k κ s spec_l10Nodes.pts) 7 b89 (unproj spec_l10Nodes.s7 (x0, x1, x2, x3, ())) (OM.fin spec_l10Nodes.g Try.f89.results.toList) := by kernel_rfl
theorem spec_l10Nodes.hf (k : Nat) (a0 : Config) (a1 : (List Answer)) : (spec_l10Nodes.f k a0 a1 : Option (denR (outTys spec_l10Nodes.g.rts spec_l10Nodes.g.pms))) = evC (spec_l10Nodes.E k) (fun κ s => lhOf k κ s spec_l10Nodes.pts) b89 (OM.start spec_l10Nodes.g.pms 0 (a0, a1, ())) (OM.fin spec_l10Nodes.g Try.f89.results.toList) := by kernel_rfl
theorem spec_l10Nodes.ok (k : Nat) : SmOk Try.prog (spec_l10Nodes.sm k) :=
  sm_ok mixed (E := spec_l10Nodes.E) (pts := spec_l10Nodes.pts) (fun k => ⟨⟨tysOk, by kernel_rfl⟩, forall_cons ⟨spec_NodesOk.ok k, e72⟩ (forall_nil)⟩) (fun _ => rfl) (fun _ => rfl)
    ⟨Try.func89, by kernel_rfl, by kernel_rfl, by kernel_rfl, by kernel_rfl, by kernel_rfl, by kernel_rfl⟩ (forall_cons (fun x => ⟨rfl, fun k => spec_l10Nodes.h7 k x.1 x.2.1 x.2.2.1 x.2.2.2.1⟩) (forall_nil)) (fun k x => spec_l10Nodes.hf k x.1 x.2.1) k
noncomputable def b52 : Code := Try.f52.body.getD .skip
theorem e52 : OM.Entry Try.prog 52 := ⟨_, Try.func52, by kernel_rfl, by kernel_rfl⟩
@[reducible] noncomputable def spec_PlaceOk.g : Sig := ⟨[.fz (.int .i64)], [.v .bool .z], []⟩
@[reducible] noncomputable def spec_PlaceOk.fk : Nat → denI spec_PlaceOk.g.pms → Option (denR (outTys spec_PlaceOk.g.rts spec_PlaceOk.g.pms)) := fun k x => spec_PlaceOk.f x.1
@[reducible] noncomputable def spec_PlaceOk.sm (k : Nat) : Sm := ⟨52, spec_PlaceOk.g.pms, spec_PlaceOk.g.rts, spec_PlaceOk.fk k⟩
noncomputable def spec_PlaceOk.E (k : Nat) : Env := ⟨tys, [spec_l1In.sm k], [], [], []⟩
noncomputable def spec_PlaceOk.pts : List (Pt (denR (outTys spec_PlaceOk.g.rts spec_PlaceOk.g.pms))) := []
theorem spec_PlaceOk.hf (k : Nat) (a0 : Int) : (spec_PlaceOk.f a0 : Option (denR (outTys spec_PlaceOk.g.rts spec_PlaceOk.g.pms))) = evC (spec_PlaceOk.E k) (fun κ s => lhOf k κ s spec_PlaceOk.pts) b52 (OM.start spec_PlaceOk.g.pms 0 (a0, ())) (OM.fin spec_PlaceOk.g Try.f52.results.toList) := by kernel_rfl
theorem spec_PlaceOk.ok (k : Nat) : SmOk Try.prog (spec_PlaceOk.sm k) :=
  sm_ok mixed (E := spec_PlaceOk.E) (pts := spec_PlaceOk.pts) (fun k => ⟨⟨tysOk, by kernel_rfl⟩, forall_cons ⟨spec_l1In.ok k, e71⟩ (forall_nil)⟩) (fun _ => rfl) (fun _ => rfl)
    ⟨Try.func52, by kernel_rfl, by kernel_rfl, by kernel_rfl, by kernel_rfl, by kernel_rfl, by kernel_rfl⟩ (forall_nil) (fun k x => spec_PlaceOk.hf k x.1) k
noncomputable def b61 : Code := Try.f61.body.getD .skip
theorem e61 : OM.Entry Try.prog 61 := ⟨_, Try.func61, by kernel_rfl, by kernel_rfl⟩
@[reducible] noncomputable def spec_EpochOf.g : Sig := ⟨[.fz (.int .i64)], [.v (.int .i64) .z], []⟩
@[reducible] noncomputable def spec_EpochOf.fk : Nat → denI spec_EpochOf.g.pms → Option (denR (outTys spec_EpochOf.g.rts spec_EpochOf.g.pms)) := fun k x => spec_EpochOf.f x.1
@[reducible] noncomputable def spec_EpochOf.sm (k : Nat) : Sm := ⟨61, spec_EpochOf.g.pms, spec_EpochOf.g.rts, spec_EpochOf.fk k⟩
noncomputable def spec_EpochOf.E (k : Nat) : Env := ⟨tys, [spec_PlaceOk.sm k], [], [], []⟩
noncomputable def spec_EpochOf.pts : List (Pt (denR (outTys spec_EpochOf.g.rts spec_EpochOf.g.pms))) := []
theorem spec_EpochOf.hf (k : Nat) (a0 : Int) : (spec_EpochOf.f a0 : Option (denR (outTys spec_EpochOf.g.rts spec_EpochOf.g.pms))) = evC (spec_EpochOf.E k) (fun κ s => lhOf k κ s spec_EpochOf.pts) b61 (OM.start spec_EpochOf.g.pms 0 (a0, ())) (OM.fin spec_EpochOf.g Try.f61.results.toList) := by kernel_rfl
theorem spec_EpochOf.ok (k : Nat) : SmOk Try.prog (spec_EpochOf.sm k) :=
  sm_ok mixed (E := spec_EpochOf.E) (pts := spec_EpochOf.pts) (fun k => ⟨⟨tysOk, by kernel_rfl⟩, forall_cons ⟨spec_PlaceOk.ok k, e52⟩ (forall_nil)⟩) (fun _ => rfl) (fun _ => rfl)
    ⟨Try.func61, by kernel_rfl, by kernel_rfl, by kernel_rfl, by kernel_rfl, by kernel_rfl, by kernel_rfl⟩ (forall_nil) (fun k x => spec_EpochOf.hf k x.1) k
noncomputable def b147 : Code := Try.f147.body.getD .skip
theorem e147 : OM.Entry Try.prog 147 := ⟨_, Try.func147, by kernel_rfl, by kernel_rfl⟩
@[reducible] noncomputable def spec_l4Span.g : Sig := ⟨[.fz tConfig, .fz (.sl (.int .i64))], [.v (.int .i64) .z], []⟩
@[reducible] noncomputable def spec_l4Span.fk : Nat → denI spec_l4Span.g.pms → Option (denR (outTys spec_l4Span.g.rts spec_l4Span.g.pms)) := fun k x => spec_l4Span.f k x.1 x.2.1
@[reducible] noncomputable def spec_l4Span.sm (k : Nat) : Sm := ⟨147, spec_l4Span.g.pms, spec_l4Span.g.rts, spec_l4Span.fk k⟩
noncomputable def spec_l4Span.E (k : Nat) : Env := ⟨tys, [], [23], [], []⟩
@[reducible] noncomputable def spec_l4Span.s9 : List Slot := [.v 4 (.sl (.int .i64)) .z [] 0, .r 8 9 [] tConfig, .v 20 (.sl .bool) (.own .z) [] 0, .v 24 (.int .i64) .z [] 0, .v 28 (.int .i64) .z [] 0, .v 9 tConfig .z [] 0]
noncomputable def spec_l4Span.pts : List (Pt (denR (outTys spec_l4Span.g.rts spec_l4Span.g.pms))) := [⟨9, spec_l4Span.s9, fun k x => spec_l4Span.p9 k x.1 x.2.1 x.2.2.1 x.2.2.2.1 x.2.2.2.2.1⟩]
theorem spec_l4Span.h9 (k : Nat) (x0 : (List Int)) (x1 : (List Bool)) (x2 : Int) (x3 : Int) (x4 : Config) : (spec_l4Span.p9 (k + 1) x0 x1 x2 x3 x4 : Option (denR (outTys spec_l4Span.g.rts spec_l4Span.g.pms))) = evAt (spec_l4Span.E k) (fun κ s => lhOf k κ s spec_l4Span.pts) 9 b147 (unproj spec_l4Span.s9 (x0, x1, x2, x3, x4, ())) (OM.fin spec_l4Span.g Try.f147.results.toList) := by kernel_rfl
theorem spec_l4Span.hf (k : Nat) (a0 : Config) (a1 : (List Int)) : (spec_l4Span.f k a0 a1 : Option (denR (outTys spec_l4Span.g.rts spec_l4Span.g.pms))) = evC (spec_l4Span.E k) (fun κ s => lhOf k κ s spec_l4Span.pts) b147 (OM.start spec_l4Span.g.pms 0 (a0, a1, ())) (OM.fin spec_l4Span.g Try.f147.results.toList) := by kernel_rfl
theorem spec_l4Span.ok (k : Nat) : SmOk Try.prog (spec_l4Span.sm k) :=
  sm_ok mixed (E := spec_l4Span.E) (pts := spec_l4Span.pts) (fun k => ⟨⟨tysOk, by kernel_rfl⟩, forall_nil⟩) (fun _ => rfl) (fun _ => rfl)
    ⟨Try.func147, by kernel_rfl, by kernel_rfl, by kernel_rfl, by kernel_rfl, by kernel_rfl, by kernel_rfl⟩ (forall_cons (fun x => ⟨rfl, fun k => spec_l4Span.h9 k x.1 x.2.1 x.2.2.1 x.2.2.2.1 x.2.2.2.2.1⟩) (forall_nil)) (fun k x => spec_l4Span.hf k x.1 x.2.1) k
noncomputable def b145 : Code := Try.f145.body.getD .skip
theorem e145 : OM.Entry Try.prog 145 := ⟨_, Try.func145, by kernel_rfl, by kernel_rfl⟩
@[reducible] noncomputable def spec_Holds.g : Sig := ⟨[.fz tConfig, .fz (.sl (.int .i64))], [.v .bool .z], []⟩
@[reducible] noncomputable def spec_Holds.fk : Nat → denI spec_Holds.g.pms → Option (denR (outTys spec_Holds.g.rts spec_Holds.g.pms)) := fun k x => spec_Holds.f k x.1 x.2.1
@[reducible] noncomputable def spec_Holds.sm (k : Nat) : Sm := ⟨145, spec_Holds.g.pms, spec_Holds.g.rts, spec_Holds.fk k⟩
noncomputable def spec_Holds.E (k : Nat) : Env := ⟨tys, [spec_NodesOk.sm k, spec_l4Span.sm k], [], [], []⟩
noncomputable def spec_Holds.pts : List (Pt (denR (outTys spec_Holds.g.rts spec_Holds.g.pms))) := []
theorem spec_Holds.hf (k : Nat) (a0 : Config) (a1 : (List Int)) : (spec_Holds.f k a0 a1 : Option (denR (outTys spec_Holds.g.rts spec_Holds.g.pms))) = evC (spec_Holds.E k) (fun κ s => lhOf k κ s spec_Holds.pts) b145 (OM.start spec_Holds.g.pms 0 (a0, a1, ())) (OM.fin spec_Holds.g Try.f145.results.toList) := by kernel_rfl
theorem spec_Holds.ok (k : Nat) : SmOk Try.prog (spec_Holds.sm k) :=
  sm_ok mixed (E := spec_Holds.E) (pts := spec_Holds.pts) (fun k => ⟨⟨tysOk, by kernel_rfl⟩, forall_cons ⟨spec_NodesOk.ok k, e72⟩ (forall_cons ⟨spec_l4Span.ok k, e147⟩ (forall_nil))⟩) (fun _ => rfl) (fun _ => rfl)
    ⟨Try.func145, by kernel_rfl, by kernel_rfl, by kernel_rfl, by kernel_rfl, by kernel_rfl, by kernel_rfl⟩ (forall_nil) (fun k x => spec_Holds.hf k x.1 x.2.1) k
noncomputable def b90 : Code := Try.f90.body.getD .skip
theorem e90 : OM.Entry Try.prog 90 := ⟨_, Try.func90, by kernel_rfl, by kernel_rfl⟩
@[reducible] noncomputable def spec_RegOk.g : Sig := ⟨[.fz tConfig, .fz tRegister], [.v .bool .z], []⟩
@[reducible] noncomputable def spec_RegOk.fk : Nat → denI spec_RegOk.g.pms → Option (denR (outTys spec_RegOk.g.rts spec_RegOk.g.pms)) := fun k x => spec_RegOk.f k x.1 x.2.1
@[reducible] noncomputable def spec_RegOk.sm (k : Nat) : Sm := ⟨90, spec_RegOk.g.pms, spec_RegOk.g.rts, spec_RegOk.fk k⟩
noncomputable def spec_RegOk.E (k : Nat) : Env := ⟨tys, [spec_l1In.sm k, spec_ConfigOk.sm k, spec_PlaceOk.sm k, spec_EpochOf.sm k, spec_Holds.sm k], [45], [4, 10], []⟩
@[reducible] noncomputable def spec_RegOk.s8 : List Slot := [.r 8 9 [] tConfig, .r 12 13 [] tRegister, .v 20 (.int .i64) .z [] 0, .v 9 tConfig .z [] 0, .v 13 tRegister .z [] 0]
@[reducible] noncomputable def spec_RegOk.s11 : List Slot := [.r 8 9 [] tConfig, .r 12 13 [] tRegister, .v 20 (.int .i64) .z [] 0, .v 24 (.int .i64) .z [] 0, .v 9 tConfig .z [] 0, .v 13 tRegister .z [] 0]
@[reducible] noncomputable def spec_RegOk.s20 : List Slot := [.r 8 9 [] tConfig, .r 12 13 [] tRegister, .v 20 (.int .i64) .z [] 0, .v 24 (.int .i64) .z [] 0, .r 28 29 [] tEra, .r 208 29 [.snd, .snd, .fst] (.int .i64), .v 212 (.int .i64) .z [] 0, .v 216 .bool .z [] 0, .v 220 .bool .z [] 0, .r 232 29 [.snd, .fst] .bool, .v 236 .bool .z [] 0, .v 240 .bool .z [] 0, .v 244 .bool .z [] 0, .v 260 .bool .z [] 0, .v 9 tConfig .z [] 0, .v 13 tRegister .z [] 0, .v 29 tEra .z [] 0]
noncomputable def spec_RegOk.pts : List (Pt (denR (outTys spec_RegOk.g.rts spec_RegOk.g.pms))) := [⟨8, spec_RegOk.s8, fun k x => spec_RegOk.p8 k x.1 x.2.1 x.2.2.1⟩, ⟨11, spec_RegOk.s11, fun k x => spec_RegOk.p11 k x.1 x.2.1 x.2.2.1 x.2.2.2.1⟩, ⟨20, spec_RegOk.s20, fun k x => spec_RegOk.p20 k x.1 x.2.1 x.2.2.1 x.2.2.2.1 x.2.2.2.2.1 x.2.2.2.2.2.1 x.2.2.2.2.2.2.1 x.2.2.2.2.2.2.2.1 x.2.2.2.2.2.2.2.2.1 x.2.2.2.2.2.2.2.2.2.1 x.2.2.2.2.2.2.2.2.2.2.1 x.2.2.2.2.2.2.2.2.2.2.2.1⟩]
theorem spec_RegOk.h8 (k : Nat) (x0 : Int) (x1 : Config) (x2 : Register) : (spec_RegOk.p8 (k + 1) x0 x1 x2 : Option (denR (outTys spec_RegOk.g.rts spec_RegOk.g.pms))) = evAt (spec_RegOk.E k) (fun κ s => lhOf k κ s spec_RegOk.pts) 8 b90 (unproj spec_RegOk.s8 (x0, x1, x2, ())) (OM.fin spec_RegOk.g Try.f90.results.toList) := by kernel_rfl
theorem spec_RegOk.h11 (k : Nat) (x0 : Int) (x1 : Int) (x2 : Config) (x3 : Register) : (spec_RegOk.p11 (k + 1) x0 x1 x2 x3 : Option (denR (outTys spec_RegOk.g.rts spec_RegOk.g.pms))) = evAt (spec_RegOk.E k) (fun κ s => lhOf k κ s spec_RegOk.pts) 11 b90 (unproj spec_RegOk.s11 (x0, x1, x2, x3, ())) (OM.fin spec_RegOk.g Try.f90.results.toList) := by kernel_rfl
theorem spec_RegOk.h20 (k : Nat) (x0 : Int) (x1 : Int) (x2 : Int) (x3 : Bool) (x4 : Bool) (x5 : Bool) (x6 : Bool) (x7 : Bool) (x8 : Bool) (x9 : Config) (x10 : Register) (x11 : Era) : (spec_RegOk.p20 (k + 1) x0 x1 x2 x3 x4 x5 x6 x7 x8 x9 x10 x11 : Option (denR (outTys spec_RegOk.g.rts spec_RegOk.g.pms))) = evAt (spec_RegOk.E k) (fun κ s => lhOf k κ s spec_RegOk.pts) 20 b90 (unproj spec_RegOk.s20 (x0, x1, x2, x3, x4, x5, x6, x7, x8, x9, x10, x11, ())) (OM.fin spec_RegOk.g Try.f90.results.toList) := by kernel_rfl
theorem spec_RegOk.hf (k : Nat) (a0 : Config) (a1 : Register) : (spec_RegOk.f k a0 a1 : Option (denR (outTys spec_RegOk.g.rts spec_RegOk.g.pms))) = evC (spec_RegOk.E k) (fun κ s => lhOf k κ s spec_RegOk.pts) b90 (OM.start spec_RegOk.g.pms 0 (a0, a1, ())) (OM.fin spec_RegOk.g Try.f90.results.toList) := by kernel_rfl
theorem spec_RegOk.ok (k : Nat) : SmOk Try.prog (spec_RegOk.sm k) :=
  sm_ok mixed (E := spec_RegOk.E) (pts := spec_RegOk.pts) (fun k => ⟨⟨tysOk, by kernel_rfl⟩, forall_cons ⟨spec_l1In.ok k, e71⟩ (forall_cons ⟨spec_ConfigOk.ok k, e70⟩ (forall_cons ⟨spec_PlaceOk.ok k, e52⟩ (forall_cons ⟨spec_EpochOf.ok k, e61⟩ (forall_cons ⟨spec_Holds.ok k, e145⟩ (forall_nil)))))⟩) (fun _ => rfl) (fun _ => rfl)
    ⟨Try.func90, by kernel_rfl, by kernel_rfl, by kernel_rfl, by kernel_rfl, by kernel_rfl, by kernel_rfl⟩ (forall_cons (fun x => ⟨rfl, fun k => spec_RegOk.h8 k x.1 x.2.1 x.2.2.1⟩) (forall_cons (fun x => ⟨rfl, fun k => spec_RegOk.h11 k x.1 x.2.1 x.2.2.1 x.2.2.2.1⟩) (forall_cons (fun x => ⟨rfl, fun k => spec_RegOk.h20 k x.1 x.2.1 x.2.2.1 x.2.2.2.1 x.2.2.2.2.1 x.2.2.2.2.2.1 x.2.2.2.2.2.2.1 x.2.2.2.2.2.2.2.1 x.2.2.2.2.2.2.2.2.1 x.2.2.2.2.2.2.2.2.2.1 x.2.2.2.2.2.2.2.2.2.2.1 x.2.2.2.2.2.2.2.2.2.2.2.1⟩) (forall_nil)))) (fun k x => spec_RegOk.hf k x.1 x.2.1) k
noncomputable def b91 : Code := Try.f91.body.getD .skip
theorem e91 : OM.Entry Try.prog 91 := ⟨_, Try.func91, by kernel_rfl, by kernel_rfl⟩
@[reducible] noncomputable def spec_ReaderOk.g : Sig := ⟨[.fz tReader], [.v .bool .z], []⟩
@[reducible] noncomputable def spec_ReaderOk.fk : Nat → denI spec_ReaderOk.g.pms → Option (denR (outTys spec_ReaderOk.g.rts spec_ReaderOk.g.pms)) := fun k x => spec_ReaderOk.f x.1
@[reducible] noncomputable def spec_ReaderOk.sm (k : Nat) : Sm := ⟨91, spec_ReaderOk.g.pms, spec_ReaderOk.g.rts, spec_ReaderOk.fk k⟩
noncomputable def spec_ReaderOk.E (k : Nat) : Env := ⟨tys, [spec_l1In.sm k], [], [], []⟩
noncomputable def spec_ReaderOk.pts : List (Pt (denR (outTys spec_ReaderOk.g.rts spec_ReaderOk.g.pms))) := []
theorem spec_ReaderOk.hf (k : Nat) (a0 : Reader) : (spec_ReaderOk.f a0 : Option (denR (outTys spec_ReaderOk.g.rts spec_ReaderOk.g.pms))) = evC (spec_ReaderOk.E k) (fun κ s => lhOf k κ s spec_ReaderOk.pts) b91 (OM.start spec_ReaderOk.g.pms 0 (a0, ())) (OM.fin spec_ReaderOk.g Try.f91.results.toList) := by kernel_rfl
theorem spec_ReaderOk.ok (k : Nat) : SmOk Try.prog (spec_ReaderOk.sm k) :=
  sm_ok mixed (E := spec_ReaderOk.E) (pts := spec_ReaderOk.pts) (fun k => ⟨⟨tysOk, by kernel_rfl⟩, forall_cons ⟨spec_l1In.ok k, e71⟩ (forall_nil)⟩) (fun _ => rfl) (fun _ => rfl)
    ⟨Try.func91, by kernel_rfl, by kernel_rfl, by kernel_rfl, by kernel_rfl, by kernel_rfl, by kernel_rfl⟩ (forall_nil) (fun k x => spec_ReaderOk.hf k x.1) k
noncomputable def b92 : Code := Try.f92.body.getD .skip
theorem e92 : OM.Entry Try.prog 92 := ⟨_, Try.func92, by kernel_rfl, by kernel_rfl⟩
@[reducible] noncomputable def spec_l10Copy.g : Sig := ⟨[.fz tReader], [.v tReader (.two .z (.two .z (.two (.own .z) .z)))], []⟩
@[reducible] noncomputable def spec_l10Copy.fk : Nat → denI spec_l10Copy.g.pms → Option (denR (outTys spec_l10Copy.g.rts spec_l10Copy.g.pms)) := fun k x => spec_l10Copy.f x.1
@[reducible] noncomputable def spec_l10Copy.sm (k : Nat) : Sm := ⟨92, spec_l10Copy.g.pms, spec_l10Copy.g.rts, spec_l10Copy.fk k⟩
noncomputable def spec_l10Copy.E (k : Nat) : Env := ⟨tys, [], [], [], []⟩
noncomputable def spec_l10Copy.pts : List (Pt (denR (outTys spec_l10Copy.g.rts spec_l10Copy.g.pms))) := []
theorem spec_l10Copy.hf (k : Nat) (a0 : Reader) : (spec_l10Copy.f a0 : Option (denR (outTys spec_l10Copy.g.rts spec_l10Copy.g.pms))) = evC (spec_l10Copy.E k) (fun κ s => lhOf k κ s spec_l10Copy.pts) b92 (OM.start spec_l10Copy.g.pms 0 (a0, ())) (OM.fin spec_l10Copy.g Try.f92.results.toList) := by kernel_rfl
theorem spec_l10Copy.ok (k : Nat) : SmOk Try.prog (spec_l10Copy.sm k) :=
  sm_ok mixed (E := spec_l10Copy.E) (pts := spec_l10Copy.pts) (fun k => ⟨⟨tysOk, by kernel_rfl⟩, forall_nil⟩) (fun _ => rfl) (fun _ => rfl)
    ⟨Try.func92, by kernel_rfl, by kernel_rfl, by kernel_rfl, by kernel_rfl, by kernel_rfl, by kernel_rfl⟩ (forall_nil) (fun k x => spec_l10Copy.hf k x.1) k
noncomputable def b53 : Code := Try.f53.body.getD .skip
theorem e53 : OM.Entry Try.prog 53 := ⟨_, Try.func53, by kernel_rfl, by kernel_rfl⟩
@[reducible] noncomputable def spec_l1Place.g : Sig := ⟨[.fz (.int .i64), .fz (.int .i64)], [.v (.int .i64) .z], []⟩
@[reducible] noncomputable def spec_l1Place.fk : Nat → denI spec_l1Place.g.pms → Option (denR (outTys spec_l1Place.g.rts spec_l1Place.g.pms)) := fun k x => spec_l1Place.f x.1 x.2.1
@[reducible] noncomputable def spec_l1Place.sm (k : Nat) : Sm := ⟨53, spec_l1Place.g.pms, spec_l1Place.g.rts, spec_l1Place.fk k⟩
noncomputable def spec_l1Place.E (k : Nat) : Env := ⟨tys, [], [], [], []⟩
noncomputable def spec_l1Place.pts : List (Pt (denR (outTys spec_l1Place.g.rts spec_l1Place.g.pms))) := []
theorem spec_l1Place.hf (k : Nat) (a0 : Int) (a1 : Int) : (spec_l1Place.f a0 a1 : Option (denR (outTys spec_l1Place.g.rts spec_l1Place.g.pms))) = evC (spec_l1Place.E k) (fun κ s => lhOf k κ s spec_l1Place.pts) b53 (OM.start spec_l1Place.g.pms 0 (a0, a1, ())) (OM.fin spec_l1Place.g Try.f53.results.toList) := by kernel_rfl
theorem spec_l1Place.ok (k : Nat) : SmOk Try.prog (spec_l1Place.sm k) :=
  sm_ok mixed (E := spec_l1Place.E) (pts := spec_l1Place.pts) (fun k => ⟨⟨tysOk, by kernel_rfl⟩, forall_nil⟩) (fun _ => rfl) (fun _ => rfl)
    ⟨Try.func53, by kernel_rfl, by kernel_rfl, by kernel_rfl, by kernel_rfl, by kernel_rfl, by kernel_rfl⟩ (forall_nil) (fun k x => spec_l1Place.hf k x.1 x.2.1) k
noncomputable def b54 : Code := Try.f54.body.getD .skip
theorem e54 : OM.Entry Try.prog 54 := ⟨_, Try.func54, by kernel_rfl, by kernel_rfl⟩
@[reducible] noncomputable def spec_OffOf.g : Sig := ⟨[.fz (.int .i64)], [.v (.int .i64) .z], []⟩
@[reducible] noncomputable def spec_OffOf.fk : Nat → denI spec_OffOf.g.pms → Option (denR (outTys spec_OffOf.g.rts spec_OffOf.g.pms)) := fun k x => spec_OffOf.f x.1
@[reducible] noncomputable def spec_OffOf.sm (k : Nat) : Sm := ⟨54, spec_OffOf.g.pms, spec_OffOf.g.rts, spec_OffOf.fk k⟩
noncomputable def spec_OffOf.E (k : Nat) : Env := ⟨tys, [spec_PlaceOk.sm k], [], [], []⟩
noncomputable def spec_OffOf.pts : List (Pt (denR (outTys spec_OffOf.g.rts spec_OffOf.g.pms))) := []
theorem spec_OffOf.hf (k : Nat) (a0 : Int) : (spec_OffOf.f a0 : Option (denR (outTys spec_OffOf.g.rts spec_OffOf.g.pms))) = evC (spec_OffOf.E k) (fun κ s => lhOf k κ s spec_OffOf.pts) b54 (OM.start spec_OffOf.g.pms 0 (a0, ())) (OM.fin spec_OffOf.g Try.f54.results.toList) := by kernel_rfl
theorem spec_OffOf.ok (k : Nat) : SmOk Try.prog (spec_OffOf.sm k) :=
  sm_ok mixed (E := spec_OffOf.E) (pts := spec_OffOf.pts) (fun k => ⟨⟨tysOk, by kernel_rfl⟩, forall_cons ⟨spec_PlaceOk.ok k, e52⟩ (forall_nil)⟩) (fun _ => rfl) (fun _ => rfl)
    ⟨Try.func54, by kernel_rfl, by kernel_rfl, by kernel_rfl, by kernel_rfl, by kernel_rfl, by kernel_rfl⟩ (forall_nil) (fun k x => spec_OffOf.hf k x.1) k
noncomputable def b93 : Code := Try.f93.body.getD .skip
theorem e93 : OM.Entry Try.prog 93 := ⟨_, Try.func93, by kernel_rfl, by kernel_rfl⟩
@[reducible] noncomputable def spec_l10Tell.g : Sig := ⟨[.fz tReader, .fz tEvent, .fz (.int .i64), .fz (.int .i64)], [.v tReader (.two .z (.two .z (.two (.own .z) .z)))], []⟩
@[reducible] noncomputable def spec_l10Tell.fk : Nat → denI spec_l10Tell.g.pms → Option (denR (outTys spec_l10Tell.g.rts spec_l10Tell.g.pms)) := fun k x => spec_l10Tell.f x.1 x.2.1 x.2.2.1 x.2.2.2.1
@[reducible] noncomputable def spec_l10Tell.sm (k : Nat) : Sm := ⟨93, spec_l10Tell.g.pms, spec_l10Tell.g.rts, spec_l10Tell.fk k⟩
noncomputable def spec_l10Tell.E (k : Nat) : Env := ⟨tys, [spec_l10Copy.sm k], [14, 18, 20], [], []⟩
noncomputable def spec_l10Tell.pts : List (Pt (denR (outTys spec_l10Tell.g.rts spec_l10Tell.g.pms))) := []
theorem spec_l10Tell.hf (k : Nat) (a0 : Reader) (a1 : Event) (a2 : Int) (a3 : Int) : (spec_l10Tell.f a0 a1 a2 a3 : Option (denR (outTys spec_l10Tell.g.rts spec_l10Tell.g.pms))) = evC (spec_l10Tell.E k) (fun κ s => lhOf k κ s spec_l10Tell.pts) b93 (OM.start spec_l10Tell.g.pms 0 (a0, a1, a2, a3, ())) (OM.fin spec_l10Tell.g Try.f93.results.toList) := by kernel_rfl
theorem spec_l10Tell.ok (k : Nat) : SmOk Try.prog (spec_l10Tell.sm k) :=
  sm_ok mixed (E := spec_l10Tell.E) (pts := spec_l10Tell.pts) (fun k => ⟨⟨tysOk, by kernel_rfl⟩, forall_cons ⟨spec_l10Copy.ok k, e92⟩ (forall_nil)⟩) (fun _ => rfl) (fun _ => rfl)
    ⟨Try.func93, by kernel_rfl, by kernel_rfl, by kernel_rfl, by kernel_rfl, by kernel_rfl, by kernel_rfl⟩ (forall_nil) (fun k x => spec_l10Tell.hf k x.1 x.2.1 x.2.2.1 x.2.2.2.1) k
noncomputable def b129 : Code := Try.f129.body.getD .skip
theorem e129 : OM.Entry Try.prog 129 := ⟨_, Try.func129, by kernel_rfl, by kernel_rfl⟩
@[reducible] noncomputable def spec_l4Has.g : Sig := ⟨[.fz (.sl (.int .i64)), .fz (.int .i64)], [.v .bool .z], []⟩
@[reducible] noncomputable def spec_l4Has.fk : Nat → denI spec_l4Has.g.pms → Option (denR (outTys spec_l4Has.g.rts spec_l4Has.g.pms)) := fun k x => spec_l4Has.f k x.1 x.2.1
@[reducible] noncomputable def spec_l4Has.sm (k : Nat) : Sm := ⟨129, spec_l4Has.g.pms, spec_l4Has.g.rts, spec_l4Has.fk k⟩
noncomputable def spec_l4Has.E (k : Nat) : Env := ⟨tys, [], [], [], []⟩
@[reducible] noncomputable def spec_l4Has.s5 : List Slot := [.v 0 (.sl (.int .i64)) .z [] 0, .v 4 (.int .i64) .z [] 0, .v 20 (.int .i64) .z [] 0]
noncomputable def spec_l4Has.pts : List (Pt (denR (outTys spec_l4Has.g.rts spec_l4Has.g.pms))) := [⟨5, spec_l4Has.s5, fun k x => spec_l4Has.p5 k x.1 x.2.1 x.2.2.1⟩]
theorem spec_l4Has.h5 (k : Nat) (x0 : (List Int)) (x1 : Int) (x2 : Int) : (spec_l4Has.p5 (k + 1) x0 x1 x2 : Option (denR (outTys spec_l4Has.g.rts spec_l4Has.g.pms))) = evAt (spec_l4Has.E k) (fun κ s => lhOf k κ s spec_l4Has.pts) 5 b129 (unproj spec_l4Has.s5 (x0, x1, x2, ())) (OM.fin spec_l4Has.g Try.f129.results.toList) := by kernel_rfl
theorem spec_l4Has.hf (k : Nat) (a0 : (List Int)) (a1 : Int) : (spec_l4Has.f k a0 a1 : Option (denR (outTys spec_l4Has.g.rts spec_l4Has.g.pms))) = evC (spec_l4Has.E k) (fun κ s => lhOf k κ s spec_l4Has.pts) b129 (OM.start spec_l4Has.g.pms 0 (a0, a1, ())) (OM.fin spec_l4Has.g Try.f129.results.toList) := by kernel_rfl
theorem spec_l4Has.ok (k : Nat) : SmOk Try.prog (spec_l4Has.sm k) :=
  sm_ok mixed (E := spec_l4Has.E) (pts := spec_l4Has.pts) (fun k => ⟨⟨tysOk, by kernel_rfl⟩, forall_nil⟩) (fun _ => rfl) (fun _ => rfl)
    ⟨Try.func129, by kernel_rfl, by kernel_rfl, by kernel_rfl, by kernel_rfl, by kernel_rfl, by kernel_rfl⟩ (forall_cons (fun x => ⟨rfl, fun k => spec_l4Has.h5 k x.1 x.2.1 x.2.2.1⟩) (forall_nil)) (fun k x => spec_l4Has.hf k x.1 x.2.1) k
noncomputable def b146 : Code := Try.f146.body.getD .skip
theorem e146 : OM.Entry Try.prog 146 := ⟨_, Try.func146, by kernel_rfl, by kernel_rfl⟩
@[reducible] noncomputable def spec_l4Less.g : Sig := ⟨[.fz (.sl (.int .i64)), .fz (.sl (.int .i64))], [.v (.sl (.int .i64)) (.own .z)], []⟩
@[reducible] noncomputable def spec_l4Less.fk : Nat → denI spec_l4Less.g.pms → Option (denR (outTys spec_l4Less.g.rts spec_l4Less.g.pms)) := fun k x => spec_l4Less.f k x.1 x.2.1
@[reducible] noncomputable def spec_l4Less.sm (k : Nat) : Sm := ⟨146, spec_l4Less.g.pms, spec_l4Less.g.rts, spec_l4Less.fk k⟩
noncomputable def spec_l4Less.E (k : Nat) : Env := ⟨tys, [spec_l4Has.sm k], [25], [], []⟩
@[reducible] noncomputable def spec_l4Less.s7 : List Slot := [.v 0 (.sl (.int .i64)) .z [] 0, .v 4 (.sl (.int .i64)) .z [] 0, .v 20 (.sl (.int .i64)) (.own .z) [] 0, .v 24 (.int .i64) .z [] 0]
noncomputable def spec_l4Less.pts : List (Pt (denR (outTys spec_l4Less.g.rts spec_l4Less.g.pms))) := [⟨7, spec_l4Less.s7, fun k x => spec_l4Less.p7 k x.1 x.2.1 x.2.2.1 x.2.2.2.1⟩]
theorem spec_l4Less.h7 (k : Nat) (x0 : (List Int)) (x1 : (List Int)) (x2 : (List Int)) (x3 : Int) : (spec_l4Less.p7 (k + 1) x0 x1 x2 x3 : Option (denR (outTys spec_l4Less.g.rts spec_l4Less.g.pms))) = evAt (spec_l4Less.E k) (fun κ s => lhOf k κ s spec_l4Less.pts) 7 b146 (unproj spec_l4Less.s7 (x0, x1, x2, x3, ())) (OM.fin spec_l4Less.g Try.f146.results.toList) := by kernel_rfl
theorem spec_l4Less.hf (k : Nat) (a0 : (List Int)) (a1 : (List Int)) : (spec_l4Less.f k a0 a1 : Option (denR (outTys spec_l4Less.g.rts spec_l4Less.g.pms))) = evC (spec_l4Less.E k) (fun κ s => lhOf k κ s spec_l4Less.pts) b146 (OM.start spec_l4Less.g.pms 0 (a0, a1, ())) (OM.fin spec_l4Less.g Try.f146.results.toList) := by kernel_rfl
theorem spec_l4Less.ok (k : Nat) : SmOk Try.prog (spec_l4Less.sm k) :=
  sm_ok mixed (E := spec_l4Less.E) (pts := spec_l4Less.pts) (fun k => ⟨⟨tysOk, by kernel_rfl⟩, forall_cons ⟨spec_l4Has.ok k, e129⟩ (forall_nil)⟩) (fun _ => rfl) (fun _ => rfl)
    ⟨Try.func146, by kernel_rfl, by kernel_rfl, by kernel_rfl, by kernel_rfl, by kernel_rfl, by kernel_rfl⟩ (forall_cons (fun x => ⟨rfl, fun k => spec_l4Less.h7 k x.1 x.2.1 x.2.2.1 x.2.2.2.1⟩) (forall_nil)) (fun k x => spec_l4Less.hf k x.1 x.2.1) k
noncomputable def b95 : Code := Try.f95.body.getD .skip
theorem e95 : OM.Entry Try.prog 95 := ⟨_, Try.func95, by kernel_rfl, by kernel_rfl⟩
@[reducible] noncomputable def spec_l9Both.g : Sig := ⟨[.fz (.sl (.int .i64)), .fz (.sl (.int .i64))], [.v (.sl (.int .i64)) (.own .z)], []⟩
@[reducible] noncomputable def spec_l9Both.fk : Nat → denI spec_l9Both.g.pms → Option (denR (outTys spec_l9Both.g.rts spec_l9Both.g.pms)) := fun k x => spec_l9Both.f k x.1 x.2.1
@[reducible] noncomputable def spec_l9Both.sm (k : Nat) : Sm := ⟨95, spec_l9Both.g.pms, spec_l9Both.g.rts, spec_l9Both.fk k⟩
noncomputable def spec_l9Both.E (k : Nat) : Env := ⟨tys, [spec_l4Less.sm k], [], [], []⟩
noncomputable def spec_l9Both.pts : List (Pt (denR (outTys spec_l9Both.g.rts spec_l9Both.g.pms))) := []
theorem spec_l9Both.hf (k : Nat) (a0 : (List Int)) (a1 : (List Int)) : (spec_l9Both.f k a0 a1 : Option (denR (outTys spec_l9Both.g.rts spec_l9Both.g.pms))) = evC (spec_l9Both.E k) (fun κ s => lhOf k κ s spec_l9Both.pts) b95 (OM.start spec_l9Both.g.pms 0 (a0, a1, ())) (OM.fin spec_l9Both.g Try.f95.results.toList) := by kernel_rfl
theorem spec_l9Both.ok (k : Nat) : SmOk Try.prog (spec_l9Both.sm k) :=
  sm_ok mixed (E := spec_l9Both.E) (pts := spec_l9Both.pts) (fun k => ⟨⟨tysOk, by kernel_rfl⟩, forall_cons ⟨spec_l4Less.ok k, e146⟩ (forall_nil)⟩) (fun _ => rfl) (fun _ => rfl)
    ⟨Try.func95, by kernel_rfl, by kernel_rfl, by kernel_rfl, by kernel_rfl, by kernel_rfl, by kernel_rfl⟩ (forall_nil) (fun k x => spec_l9Both.hf k x.1 x.2.1) k
noncomputable def b94 : Code := Try.f94.body.getD .skip
theorem e94 : OM.Entry Try.prog 94 := ⟨_, Try.func94, by kernel_rfl, by kernel_rfl⟩
@[reducible] noncomputable def spec_Enough.g : Sig := ⟨[.fz tConfig, .fz (.sl (.int .i64)), .fz (.sl (.int .i64))], [.v .bool .z], []⟩
@[reducible] noncomputable def spec_Enough.fk : Nat → denI spec_Enough.g.pms → Option (denR (outTys spec_Enough.g.rts spec_Enough.g.pms)) := fun k x => spec_Enough.f k x.1 x.2.1 x.2.2.1
@[reducible] noncomputable def spec_Enough.sm (k : Nat) : Sm := ⟨94, spec_Enough.g.pms, spec_Enough.g.rts, spec_Enough.fk k⟩
noncomputable def spec_Enough.E (k : Nat) : Env := ⟨tys, [spec_NodesOk.sm k, spec_l4Span.sm k, spec_Holds.sm k, spec_l4Less.sm k], [], [], []⟩
noncomputable def spec_Enough.pts : List (Pt (denR (outTys spec_Enough.g.rts spec_Enough.g.pms))) := []
theorem spec_Enough.hf (k : Nat) (a0 : Config) (a1 : (List Int)) (a2 : (List Int)) : (spec_Enough.f k a0 a1 a2 : Option (denR (outTys spec_Enough.g.rts spec_Enough.g.pms))) = evC (spec_Enough.E k) (fun κ s => lhOf k κ s spec_Enough.pts) b94 (OM.start spec_Enough.g.pms 0 (a0, a1, a2, ())) (OM.fin spec_Enough.g Try.f94.results.toList) := by kernel_rfl
theorem spec_Enough.ok (k : Nat) : SmOk Try.prog (spec_Enough.sm k) :=
  sm_ok mixed (E := spec_Enough.E) (pts := spec_Enough.pts) (fun k => ⟨⟨tysOk, by kernel_rfl⟩, forall_cons ⟨spec_NodesOk.ok k, e72⟩ (forall_cons ⟨spec_l4Span.ok k, e147⟩ (forall_cons ⟨spec_Holds.ok k, e145⟩ (forall_cons ⟨spec_l4Less.ok k, e146⟩ (forall_nil))))⟩) (fun _ => rfl) (fun _ => rfl)
    ⟨Try.func94, by kernel_rfl, by kernel_rfl, by kernel_rfl, by kernel_rfl, by kernel_rfl, by kernel_rfl⟩ (forall_nil) (fun k x => spec_Enough.hf k x.1 x.2.1 x.2.2.1) k
noncomputable def b74 : Code := Try.f74.body.getD .skip
theorem e74 : OM.Entry Try.prog 74 := ⟨_, Try.func74, by kernel_rfl, by kernel_rfl⟩
@[reducible] noncomputable def spec_EntryOk.g : Sig := ⟨[.fz tEntry], [.v .bool .z], []⟩
@[reducible] noncomputable def spec_EntryOk.fk : Nat → denI spec_EntryOk.g.pms → Option (denR (outTys spec_EntryOk.g.rts spec_EntryOk.g.pms)) := fun k x => spec_EntryOk.f k x.1
@[reducible] noncomputable def spec_EntryOk.sm (k : Nat) : Sm := ⟨74, spec_EntryOk.g.pms, spec_EntryOk.g.rts, spec_EntryOk.fk k⟩
noncomputable def spec_EntryOk.E (k : Nat) : Env := ⟨tys, [spec_l1In.sm k, spec_PlaceOk.sm k, spec_EpochOf.sm k], [], [3], []⟩
@[reducible] noncomputable def spec_EntryOk.s6 : List Slot := [.r 4 5 [] tEntry, .v 5 tEntry .z [] 0]
noncomputable def spec_EntryOk.pts : List (Pt (denR (outTys spec_EntryOk.g.rts spec_EntryOk.g.pms))) := [⟨6, spec_EntryOk.s6, fun k x => spec_EntryOk.p6 k x.1⟩]
theorem spec_EntryOk.h6 (k : Nat) (x0 : Entry) : (spec_EntryOk.p6 (k + 1) x0 : Option (denR (outTys spec_EntryOk.g.rts spec_EntryOk.g.pms))) = evAt (spec_EntryOk.E k) (fun κ s => lhOf k κ s spec_EntryOk.pts) 6 b74 (unproj spec_EntryOk.s6 (x0, ())) (OM.fin spec_EntryOk.g Try.f74.results.toList) := by kernel_rfl
theorem spec_EntryOk.hf (k : Nat) (a0 : Entry) : (spec_EntryOk.f k a0 : Option (denR (outTys spec_EntryOk.g.rts spec_EntryOk.g.pms))) = evC (spec_EntryOk.E k) (fun κ s => lhOf k κ s spec_EntryOk.pts) b74 (OM.start spec_EntryOk.g.pms 0 (a0, ())) (OM.fin spec_EntryOk.g Try.f74.results.toList) := by kernel_rfl
theorem spec_EntryOk.ok (k : Nat) : SmOk Try.prog (spec_EntryOk.sm k) :=
  sm_ok mixed (E := spec_EntryOk.E) (pts := spec_EntryOk.pts) (fun k => ⟨⟨tysOk, by kernel_rfl⟩, forall_cons ⟨spec_l1In.ok k, e71⟩ (forall_cons ⟨spec_PlaceOk.ok k, e52⟩ (forall_cons ⟨spec_EpochOf.ok k, e61⟩ (forall_nil)))⟩) (fun _ => rfl) (fun _ => rfl)
    ⟨Try.func74, by kernel_rfl, by kernel_rfl, by kernel_rfl, by kernel_rfl, by kernel_rfl, by kernel_rfl⟩ (forall_cons (fun x => ⟨rfl, fun k => spec_EntryOk.h6 k x.1⟩) (forall_nil)) (fun k x => spec_EntryOk.hf k x.1) k
noncomputable def b130 : Code := Try.f130.body.getD .skip
theorem e130 : OM.Entry Try.prog 130 := ⟨_, Try.func130, by kernel_rfl, by kernel_rfl⟩
@[reducible] noncomputable def spec_Better.g : Sig := ⟨[.fz tEntry, .fz tEntry], [.v tEntry .z], []⟩
@[reducible] noncomputable def spec_Better.fk : Nat → denI spec_Better.g.pms → Option (denR (outTys spec_Better.g.rts spec_Better.g.pms)) := fun k x => spec_Better.f x.1 x.2.1
@[reducible] noncomputable def spec_Better.sm (k : Nat) : Sm := ⟨130, spec_Better.g.pms, spec_Better.g.rts, spec_Better.fk k⟩
noncomputable def spec_Better.E (k : Nat) : Env := ⟨tys, [], [], [], []⟩
noncomputable def spec_Better.pts : List (Pt (denR (outTys spec_Better.g.rts spec_Better.g.pms))) := []
theorem spec_Better.hf (k : Nat) (a0 : Entry) (a1 : Entry) : (spec_Better.f a0 a1 : Option (denR (outTys spec_Better.g.rts spec_Better.g.pms))) = evC (spec_Better.E k) (fun κ s => lhOf k κ s spec_Better.pts) b130 (OM.start spec_Better.g.pms 0 (a0, a1, ())) (OM.fin spec_Better.g Try.f130.results.toList) := by kernel_rfl
theorem spec_Better.ok (k : Nat) : SmOk Try.prog (spec_Better.sm k) :=
  sm_ok mixed (E := spec_Better.E) (pts := spec_Better.pts) (fun k => ⟨⟨tysOk, by kernel_rfl⟩, forall_nil⟩) (fun _ => rfl) (fun _ => rfl)
    ⟨Try.func130, by kernel_rfl, by kernel_rfl, by kernel_rfl, by kernel_rfl, by kernel_rfl, by kernel_rfl⟩ (forall_nil) (fun k x => spec_Better.hf k x.1 x.2.1) k
noncomputable def b96 : Code := Try.f96.body.getD .skip
theorem e96 : OM.Entry Try.prog 96 := ⟨_, Try.func96, by kernel_rfl, by kernel_rfl⟩
@[reducible] noncomputable def spec_l10Best.g : Sig := ⟨[.fz (.sl (.int .i64)), .fz (.int .i64), .fz (.sl tAnswer)], [.v tEvent .z], []⟩
@[reducible] noncomputable def spec_l10Best.fk : Nat → denI spec_l10Best.g.pms → Option (denR (outTys spec_l10Best.g.rts spec_l10Best.g.pms)) := fun k x => spec_l10Best.f k x.1 x.2.1 x.2.2.1
@[reducible] noncomputable def spec_l10Best.sm (k : Nat) : Sm := ⟨96, spec_l10Best.g.pms, spec_l10Best.g.rts, spec_l10Best.fk k⟩
noncomputable def spec_l10Best.E (k : Nat) : Env := ⟨tys, [spec_l4Has.sm k, spec_EntryOk.sm k, spec_Better.sm k], [21, 56, 61, 63, 65], [], []⟩
@[reducible] noncomputable def spec_l10Best.s9 : List Slot := [.v 0 (.sl (.int .i64)) .z [] 0, .v 4 (.int .i64) .z [] 0, .v 8 (.sl tAnswer) .z [] 0, .r 24 25 [] tEvent, .r 28 29 [] tEntry, .v 32 .bool .z [] 0, .v 36 (.int .i64) .z [] 0, .v 25 tEvent .z [] 0, .v 29 tEntry .z [] 0]
noncomputable def spec_l10Best.pts : List (Pt (denR (outTys spec_l10Best.g.rts spec_l10Best.g.pms))) := [⟨9, spec_l10Best.s9, fun k x => spec_l10Best.p9 k x.1 x.2.1 x.2.2.1 x.2.2.2.1 x.2.2.2.2.1 x.2.2.2.2.2.1 x.2.2.2.2.2.2.1⟩]
theorem spec_l10Best.h9 (k : Nat) (x0 : (List Int)) (x1 : Int) (x2 : (List Answer)) (x3 : Bool) (x4 : Int) (x5 : Event) (x6 : Entry) : (spec_l10Best.p9 (k + 1) x0 x1 x2 x3 x4 x5 x6 : Option (denR (outTys spec_l10Best.g.rts spec_l10Best.g.pms))) = evAt (spec_l10Best.E k) (fun κ s => lhOf k κ s spec_l10Best.pts) 9 b96 (unproj spec_l10Best.s9 (x0, x1, x2, x3, x4, x5, x6, ())) (OM.fin spec_l10Best.g Try.f96.results.toList) := by kernel_rfl
theorem spec_l10Best.hf (k : Nat) (a0 : (List Int)) (a1 : Int) (a2 : (List Answer)) : (spec_l10Best.f k a0 a1 a2 : Option (denR (outTys spec_l10Best.g.rts spec_l10Best.g.pms))) = evC (spec_l10Best.E k) (fun κ s => lhOf k κ s spec_l10Best.pts) b96 (OM.start spec_l10Best.g.pms 0 (a0, a1, a2, ())) (OM.fin spec_l10Best.g Try.f96.results.toList) := by kernel_rfl
theorem spec_l10Best.ok (k : Nat) : SmOk Try.prog (spec_l10Best.sm k) :=
  sm_ok mixed (E := spec_l10Best.E) (pts := spec_l10Best.pts) (fun k => ⟨⟨tysOk, by kernel_rfl⟩, forall_cons ⟨spec_l4Has.ok k, e129⟩ (forall_cons ⟨spec_EntryOk.ok k, e74⟩ (forall_cons ⟨spec_Better.ok k, e130⟩ (forall_nil)))⟩) (fun _ => rfl) (fun _ => rfl)
    ⟨Try.func96, by kernel_rfl, by kernel_rfl, by kernel_rfl, by kernel_rfl, by kernel_rfl, by kernel_rfl⟩ (forall_cons (fun x => ⟨rfl, fun k => spec_l10Best.h9 k x.1 x.2.1 x.2.2.1 x.2.2.2.1 x.2.2.2.2.1 x.2.2.2.2.2.1 x.2.2.2.2.2.2.1⟩) (forall_nil)) (fun k x => spec_l10Best.hf k x.1 x.2.1 x.2.2.1) k
noncomputable def b24 : Code := Try.f24.body.getD .skip
theorem e24 : OM.Entry Try.prog 24 := ⟨_, Try.func24, by kernel_rfl, by kernel_rfl⟩
@[reducible] noncomputable def spec_ReaderNext.g : Sig := ⟨[.fz tConfig, .fz tRegister, .fz (.int .i64), .fz tReader, .fz (.sl tAnswer)], [.v tReader (.two .z (.two .z (.two (.own .z) .z))), .v (.int .i64) .z], []⟩
@[reducible] noncomputable def spec_ReaderNext.fk : Nat → denI spec_ReaderNext.g.pms → Option (denR (outTys spec_ReaderNext.g.rts spec_ReaderNext.g.pms)) := fun k x => spec_ReaderNext.f k x.1 x.2.1 x.2.2.1 x.2.2.2.1 x.2.2.2.2.1
@[reducible] noncomputable def spec_ReaderNext.sm (k : Nat) : Sm := ⟨24, spec_ReaderNext.g.pms, spec_ReaderNext.g.rts, spec_ReaderNext.fk k⟩
noncomputable def spec_ReaderNext.E (k : Nat) : Env := ⟨tys, [spec_l10Nodes.sm k, spec_EpochOf.sm k, spec_RegOk.sm k, spec_ReaderOk.sm k, spec_l10Copy.sm k, spec_l1Place.sm k, spec_OffOf.sm k, spec_l10Tell.sm k, spec_l9Both.sm k, spec_Enough.sm k, spec_l10Best.sm k], [56], [16], []⟩
@[reducible] noncomputable def spec_ReaderNext.s32 : List Slot := [.v 16 (.sl tAnswer) .z [] 0, .r 32 33 [] tReader, .r 40 41 [] tReader, .r 56 57 [] tEra, .v 60 (.int .i64) .z [] 0, .v 33 tReader .z [] 0, .v 41 tReader (.two .z (.two .z (.two (.own .a) .z))) [] 0, .v 57 tEra .z [] 0]
noncomputable def spec_ReaderNext.pts : List (Pt (denR (outTys spec_ReaderNext.g.rts spec_ReaderNext.g.pms))) := [⟨32, spec_ReaderNext.s32, fun k x => spec_ReaderNext.p32 k x.1 x.2.1 x.2.2.1 x.2.2.2.1 x.2.2.2.2.1⟩]
theorem spec_ReaderNext.h32 (k : Nat) (x0 : (List Answer)) (x1 : Int) (x2 : Reader) (x3 : Reader) (x4 : Era) : (spec_ReaderNext.p32 (k + 1) x0 x1 x2 x3 x4 : Option (denR (outTys spec_ReaderNext.g.rts spec_ReaderNext.g.pms))) = evAt (spec_ReaderNext.E k) (fun κ s => lhOf k κ s spec_ReaderNext.pts) 32 b24 (unproj spec_ReaderNext.s32 (x0, x1, x2, x3, x4, ())) (OM.fin spec_ReaderNext.g Try.f24.results.toList) := by kernel_rfl
theorem spec_ReaderNext.hf (k : Nat) (a0 : Config) (a1 : Register) (a2 : Int) (a3 : Reader) (a4 : (List Answer)) : (spec_ReaderNext.f k a0 a1 a2 a3 a4 : Option (denR (outTys spec_ReaderNext.g.rts spec_ReaderNext.g.pms))) = evC (spec_ReaderNext.E k) (fun κ s => lhOf k κ s spec_ReaderNext.pts) b24 (OM.start spec_ReaderNext.g.pms 0 (a0, a1, a2, a3, a4, ())) (OM.fin spec_ReaderNext.g Try.f24.results.toList) := by kernel_rfl
theorem spec_ReaderNext.ok (k : Nat) : SmOk Try.prog (spec_ReaderNext.sm k) :=
  sm_ok mixed (E := spec_ReaderNext.E) (pts := spec_ReaderNext.pts) (fun k => ⟨⟨tysOk, by kernel_rfl⟩, forall_cons ⟨spec_l10Nodes.ok k, e89⟩ (forall_cons ⟨spec_EpochOf.ok k, e61⟩ (forall_cons ⟨spec_RegOk.ok k, e90⟩ (forall_cons ⟨spec_ReaderOk.ok k, e91⟩ (forall_cons ⟨spec_l10Copy.ok k, e92⟩ (forall_cons ⟨spec_l1Place.ok k, e53⟩ (forall_cons ⟨spec_OffOf.ok k, e54⟩ (forall_cons ⟨spec_l10Tell.ok k, e93⟩ (forall_cons ⟨spec_l9Both.ok k, e95⟩ (forall_cons ⟨spec_Enough.ok k, e94⟩ (forall_cons ⟨spec_l10Best.ok k, e96⟩ (forall_nil)))))))))))⟩) (fun _ => rfl) (fun _ => rfl)
    ⟨Try.func24, by kernel_rfl, by kernel_rfl, by kernel_rfl, by kernel_rfl, by kernel_rfl, by kernel_rfl⟩ (forall_cons (fun x => ⟨rfl, fun k => spec_ReaderNext.h32 k x.1 x.2.1 x.2.2.1 x.2.2.2.1 x.2.2.2.2.1⟩) (forall_nil)) (fun k x => spec_ReaderNext.hf k x.1 x.2.1 x.2.2.1 x.2.2.2.1 x.2.2.2.2.1) k
noncomputable def b67 : Code := Try.f67.body.getD .skip
theorem e67 : OM.Entry Try.prog 67 := ⟨_, Try.func67, by kernel_rfl, by kernel_rfl⟩
@[reducible] noncomputable def impl_within.g : Sig := ⟨[.fz (.int .i64), .fz (.int .i64), .fz (.int .i64)], [.v .bool .z], []⟩
@[reducible] noncomputable def impl_within.fk : Nat → denI impl_within.g.pms → Option (denR (outTys impl_within.g.rts impl_within.g.pms)) := fun k x => impl_within.f x.1 x.2.1 x.2.2.1
@[reducible] noncomputable def impl_within.sm (k : Nat) : Sm := ⟨67, impl_within.g.pms, impl_within.g.rts, impl_within.fk k⟩
noncomputable def impl_within.E (k : Nat) : Env := ⟨tys, [], [], [], []⟩
noncomputable def impl_within.pts : List (Pt (denR (outTys impl_within.g.rts impl_within.g.pms))) := []
theorem impl_within.hf (k : Nat) (a0 : Int) (a1 : Int) (a2 : Int) : (impl_within.f a0 a1 a2 : Option (denR (outTys impl_within.g.rts impl_within.g.pms))) = evC (impl_within.E k) (fun κ s => lhOf k κ s impl_within.pts) b67 (OM.start impl_within.g.pms 0 (a0, a1, a2, ())) (OM.fin impl_within.g Try.f67.results.toList) := by kernel_rfl
theorem impl_within.ok (k : Nat) : SmOk Try.prog (impl_within.sm k) :=
  sm_ok mixed (E := impl_within.E) (pts := impl_within.pts) (fun k => ⟨⟨tysOk, by kernel_rfl⟩, forall_nil⟩) (fun _ => rfl) (fun _ => rfl)
    ⟨Try.func67, by kernel_rfl, by kernel_rfl, by kernel_rfl, by kernel_rfl, by kernel_rfl, by kernel_rfl⟩ (forall_nil) (fun k x => impl_within.hf k x.1 x.2.1 x.2.2.1) k
noncomputable def b68 : Code := Try.f68.body.getD .skip
theorem e68 : OM.Entry Try.prog 68 := ⟨_, Try.func68, by kernel_rfl, by kernel_rfl⟩
@[reducible] noncomputable def impl_ConfigOk.g : Sig := ⟨[.fz tConfig], [.v .bool .z], []⟩
@[reducible] noncomputable def impl_ConfigOk.fk : Nat → denI impl_ConfigOk.g.pms → Option (denR (outTys impl_ConfigOk.g.rts impl_ConfigOk.g.pms)) := fun k x => impl_ConfigOk.f k x.1
@[reducible] noncomputable def impl_ConfigOk.sm (k : Nat) : Sm := ⟨68, impl_ConfigOk.g.pms, impl_ConfigOk.g.rts, impl_ConfigOk.fk k⟩
noncomputable def impl_ConfigOk.E (k : Nat) : Env := ⟨tys, [impl_within.sm k], [11], [], []⟩
@[reducible] noncomputable def impl_ConfigOk.s5 : List Slot := [.r 4 5 [] tConfig, .v 24 (.sl (.int .i64)) .z [] 0, .v 28 (.int .i64) .z [] 0, .v 32 (.int .i64) .z [] 0, .v 5 tConfig .z [] 0]
noncomputable def impl_ConfigOk.pts : List (Pt (denR (outTys impl_ConfigOk.g.rts impl_ConfigOk.g.pms))) := [⟨5, impl_ConfigOk.s5, fun k x => impl_ConfigOk.p5 k x.1 x.2.1 x.2.2.1 x.2.2.2.1⟩]
theorem impl_ConfigOk.h5 (k : Nat) (x0 : (List Int)) (x1 : Int) (x2 : Int) (x3 : Config) : (impl_ConfigOk.p5 (k + 1) x0 x1 x2 x3 : Option (denR (outTys impl_ConfigOk.g.rts impl_ConfigOk.g.pms))) = evAt (impl_ConfigOk.E k) (fun κ s => lhOf k κ s impl_ConfigOk.pts) 5 b68 (unproj impl_ConfigOk.s5 (x0, x1, x2, x3, ())) (OM.fin impl_ConfigOk.g Try.f68.results.toList) := by kernel_rfl
theorem impl_ConfigOk.hf (k : Nat) (a0 : Config) : (impl_ConfigOk.f k a0 : Option (denR (outTys impl_ConfigOk.g.rts impl_ConfigOk.g.pms))) = evC (impl_ConfigOk.E k) (fun κ s => lhOf k κ s impl_ConfigOk.pts) b68 (OM.start impl_ConfigOk.g.pms 0 (a0, ())) (OM.fin impl_ConfigOk.g Try.f68.results.toList) := by kernel_rfl
theorem impl_ConfigOk.ok (k : Nat) : SmOk Try.prog (impl_ConfigOk.sm k) :=
  sm_ok mixed (E := impl_ConfigOk.E) (pts := impl_ConfigOk.pts) (fun k => ⟨⟨tysOk, by kernel_rfl⟩, forall_cons ⟨impl_within.ok k, e67⟩ (forall_nil)⟩) (fun _ => rfl) (fun _ => rfl)
    ⟨Try.func68, by kernel_rfl, by kernel_rfl, by kernel_rfl, by kernel_rfl, by kernel_rfl, by kernel_rfl⟩ (forall_cons (fun x => ⟨rfl, fun k => impl_ConfigOk.h5 k x.1 x.2.1 x.2.2.1 x.2.2.2.1⟩) (forall_nil)) (fun k x => impl_ConfigOk.hf k x.1) k
noncomputable def b132 : Code := Try.f132.body.getD .skip
theorem e132 : OM.Entry Try.prog 132 := ⟨_, Try.func132, by kernel_rfl, by kernel_rfl⟩
@[reducible] noncomputable def impl_ascends.g : Sig := ⟨[.fz (.sl (.int .i64)), .fz (.int .i64)], [.v .bool .z], []⟩
@[reducible] noncomputable def impl_ascends.fk : Nat → denI impl_ascends.g.pms → Option (denR (outTys impl_ascends.g.rts impl_ascends.g.pms)) := fun k x => impl_ascends.f k x.1 x.2.1
@[reducible] noncomputable def impl_ascends.sm (k : Nat) : Sm := ⟨132, impl_ascends.g.pms, impl_ascends.g.rts, impl_ascends.fk k⟩
noncomputable def impl_ascends.E (k : Nat) : Env := ⟨tys, [impl_within.sm k], [13], [], []⟩
@[reducible] noncomputable def impl_ascends.s5 : List Slot := [.v 0 (.sl (.int .i64)) .z [] 0, .v 4 (.int .i64) .z [] 0, .v 28 (.sl (.int .i64)) .z [] 0, .v 32 (.int .i64) .z [] 0, .v 36 (.int .i64) .z [] 0]
noncomputable def impl_ascends.pts : List (Pt (denR (outTys impl_ascends.g.rts impl_ascends.g.pms))) := [⟨5, impl_ascends.s5, fun k x => impl_ascends.p5 k x.1 x.2.1 x.2.2.1 x.2.2.2.1 x.2.2.2.2.1⟩]
theorem impl_ascends.h5 (k : Nat) (x0 : (List Int)) (x1 : Int) (x2 : (List Int)) (x3 : Int) (x4 : Int) : (impl_ascends.p5 (k + 1) x0 x1 x2 x3 x4 : Option (denR (outTys impl_ascends.g.rts impl_ascends.g.pms))) = evAt (impl_ascends.E k) (fun κ s => lhOf k κ s impl_ascends.pts) 5 b132 (unproj impl_ascends.s5 (x0, x1, x2, x3, x4, ())) (OM.fin impl_ascends.g Try.f132.results.toList) := by kernel_rfl
theorem impl_ascends.hf (k : Nat) (a0 : (List Int)) (a1 : Int) : (impl_ascends.f k a0 a1 : Option (denR (outTys impl_ascends.g.rts impl_ascends.g.pms))) = evC (impl_ascends.E k) (fun κ s => lhOf k κ s impl_ascends.pts) b132 (OM.start impl_ascends.g.pms 0 (a0, a1, ())) (OM.fin impl_ascends.g Try.f132.results.toList) := by kernel_rfl
theorem impl_ascends.ok (k : Nat) : SmOk Try.prog (impl_ascends.sm k) :=
  sm_ok mixed (E := impl_ascends.E) (pts := impl_ascends.pts) (fun k => ⟨⟨tysOk, by kernel_rfl⟩, forall_cons ⟨impl_within.ok k, e67⟩ (forall_nil)⟩) (fun _ => rfl) (fun _ => rfl)
    ⟨Try.func132, by kernel_rfl, by kernel_rfl, by kernel_rfl, by kernel_rfl, by kernel_rfl, by kernel_rfl⟩ (forall_cons (fun x => ⟨rfl, fun k => impl_ascends.h5 k x.1 x.2.1 x.2.2.1 x.2.2.2.1 x.2.2.2.2.1⟩) (forall_nil)) (fun k x => impl_ascends.hf k x.1 x.2.1) k
noncomputable def b64 : Code := Try.f64.body.getD .skip
theorem e64 : OM.Entry Try.prog 64 := ⟨_, Try.func64, by kernel_rfl, by kernel_rfl⟩
@[reducible] noncomputable def impl_NodesOk.g : Sig := ⟨[.fz tConfig, .fz (.sl (.int .i64))], [.v .bool .z], []⟩
@[reducible] noncomputable def impl_NodesOk.fk : Nat → denI impl_NodesOk.g.pms → Option (denR (outTys impl_NodesOk.g.rts impl_NodesOk.g.pms)) := fun k x => impl_NodesOk.f k x.1 x.2.1
@[reducible] noncomputable def impl_NodesOk.sm (k : Nat) : Sm := ⟨64, impl_NodesOk.g.pms, impl_NodesOk.g.rts, impl_NodesOk.fk k⟩
noncomputable def impl_NodesOk.E (k : Nat) : Env := ⟨tys, [impl_ConfigOk.sm k, impl_ascends.sm k], [], [], []⟩
noncomputable def impl_NodesOk.pts : List (Pt (denR (outTys impl_NodesOk.g.rts impl_NodesOk.g.pms))) := []
theorem impl_NodesOk.hf (k : Nat) (a0 : Config) (a1 : (List Int)) : (impl_NodesOk.f k a0 a1 : Option (denR (outTys impl_NodesOk.g.rts impl_NodesOk.g.pms))) = evC (impl_NodesOk.E k) (fun κ s => lhOf k κ s impl_NodesOk.pts) b64 (OM.start impl_NodesOk.g.pms 0 (a0, a1, ())) (OM.fin impl_NodesOk.g Try.f64.results.toList) := by kernel_rfl
theorem impl_NodesOk.ok (k : Nat) : SmOk Try.prog (impl_NodesOk.sm k) :=
  sm_ok mixed (E := impl_NodesOk.E) (pts := impl_NodesOk.pts) (fun k => ⟨⟨tysOk, by kernel_rfl⟩, forall_cons ⟨impl_ConfigOk.ok k, e68⟩ (forall_cons ⟨impl_ascends.ok k, e132⟩ (forall_nil))⟩) (fun _ => rfl) (fun _ => rfl)
    ⟨Try.func64, by kernel_rfl, by kernel_rfl, by kernel_rfl, by kernel_rfl, by kernel_rfl, by kernel_rfl⟩ (forall_nil) (fun k x => impl_NodesOk.hf k x.1 x.2.1) k
noncomputable def b168 : Code := Try.f168.body.getD .skip
theorem e168 : OM.Entry Try.prog 168 := ⟨_, Try.func168, by kernel_rfl, by kernel_rfl⟩
@[reducible] noncomputable def slices_Index_int_int.g : Sig := ⟨[.fz (.sl (.int .i64)), .fz (.int .i64)], [.v (.int .i64) .z], []⟩
@[reducible] noncomputable def slices_Index_int_int.fk : Nat → denI slices_Index_int_int.g.pms → Option (denR (outTys slices_Index_int_int.g.rts slices_Index_int_int.g.pms)) := fun k x => slices_Index_int_int.f k x.1 x.2.1
@[reducible] noncomputable def slices_Index_int_int.sm (k : Nat) : Sm := ⟨168, slices_Index_int_int.g.pms, slices_Index_int_int.g.rts, slices_Index_int_int.fk k⟩
noncomputable def slices_Index_int_int.E (k : Nat) : Env := ⟨tys, [], [], [], []⟩
@[reducible] noncomputable def slices_Index_int_int.s5 : List Slot := [.v 0 (.sl (.int .i64)) .z [] 0, .v 4 (.int .i64) .z [] 0, .v 28 (.int .i64) .z [] 0, .v 32 (.int .i64) .z [] 0]
noncomputable def slices_Index_int_int.pts : List (Pt (denR (outTys slices_Index_int_int.g.rts slices_Index_int_int.g.pms))) := [⟨5, slices_Index_int_int.s5, fun k x => slices_Index_int_int.p5 k x.1 x.2.1 x.2.2.1 x.2.2.2.1⟩]
theorem slices_Index_int_int.h5 (k : Nat) (x0 : (List Int)) (x1 : Int) (x2 : Int) (x3 : Int) : (slices_Index_int_int.p5 (k + 1) x0 x1 x2 x3 : Option (denR (outTys slices_Index_int_int.g.rts slices_Index_int_int.g.pms))) = evAt (slices_Index_int_int.E k) (fun κ s => lhOf k κ s slices_Index_int_int.pts) 5 b168 (unproj slices_Index_int_int.s5 (x0, x1, x2, x3, ())) (OM.fin slices_Index_int_int.g Try.f168.results.toList) := by kernel_rfl
theorem slices_Index_int_int.hf (k : Nat) (a0 : (List Int)) (a1 : Int) : (slices_Index_int_int.f k a0 a1 : Option (denR (outTys slices_Index_int_int.g.rts slices_Index_int_int.g.pms))) = evC (slices_Index_int_int.E k) (fun κ s => lhOf k κ s slices_Index_int_int.pts) b168 (OM.start slices_Index_int_int.g.pms 0 (a0, a1, ())) (OM.fin slices_Index_int_int.g Try.f168.results.toList) := by kernel_rfl
theorem slices_Index_int_int.ok (k : Nat) : SmOk Try.prog (slices_Index_int_int.sm k) :=
  sm_ok mixed (E := slices_Index_int_int.E) (pts := slices_Index_int_int.pts) (fun k => ⟨⟨tysOk, by kernel_rfl⟩, forall_nil⟩) (fun _ => rfl) (fun _ => rfl)
    ⟨Try.func168, by kernel_rfl, by kernel_rfl, by kernel_rfl, by kernel_rfl, by kernel_rfl, by kernel_rfl⟩ (forall_cons (fun x => ⟨rfl, fun k => slices_Index_int_int.h5 k x.1 x.2.1 x.2.2.1 x.2.2.2.1⟩) (forall_nil)) (fun k x => slices_Index_int_int.hf k x.1 x.2.1) k
noncomputable def b137 : Code := Try.f137.body.getD .skip
theorem e137 : OM.Entry Try.prog 137 := ⟨_, Try.func137, by kernel_rfl, by kernel_rfl⟩
@[reducible] noncomputable def slices_Contains_int_int.g : Sig := ⟨[.fz (.sl (.int .i64)), .fz (.int .i64)], [.v .bool .z], []⟩
@[reducible] noncomputable def slices_Contains_int_int.fk : Nat → denI slices_Contains_int_int.g.pms → Option (denR (outTys slices_Contains_int_int.g.rts slices_Contains_int_int.g.pms)) := fun k x => slices_Contains_int_int.f k x.1 x.2.1
@[reducible] noncomputable def slices_Contains_int_int.sm (k : Nat) : Sm := ⟨137, slices_Contains_int_int.g.pms, slices_Contains_int_int.g.rts, slices_Contains_int_int.fk k⟩
noncomputable def slices_Contains_int_int.E (k : Nat) : Env := ⟨tys, [slices_Index_int_int.sm k], [], [], []⟩
noncomputable def slices_Contains_int_int.pts : List (Pt (denR (outTys slices_Contains_int_int.g.rts slices_Contains_int_int.g.pms))) := []
theorem slices_Contains_int_int.hf (k : Nat) (a0 : (List Int)) (a1 : Int) : (slices_Contains_int_int.f k a0 a1 : Option (denR (outTys slices_Contains_int_int.g.rts slices_Contains_int_int.g.pms))) = evC (slices_Contains_int_int.E k) (fun κ s => lhOf k κ s slices_Contains_int_int.pts) b137 (OM.start slices_Contains_int_int.g.pms 0 (a0, a1, ())) (OM.fin slices_Contains_int_int.g Try.f137.results.toList) := by kernel_rfl
theorem slices_Contains_int_int.ok (k : Nat) : SmOk Try.prog (slices_Contains_int_int.sm k) :=
  sm_ok mixed (E := slices_Contains_int_int.E) (pts := slices_Contains_int_int.pts) (fun k => ⟨⟨tysOk, by kernel_rfl⟩, forall_cons ⟨slices_Index_int_int.ok k, e168⟩ (forall_nil)⟩) (fun _ => rfl) (fun _ => rfl)
    ⟨Try.func137, by kernel_rfl, by kernel_rfl, by kernel_rfl, by kernel_rfl, by kernel_rfl, by kernel_rfl⟩ (forall_nil) (fun k x => slices_Contains_int_int.hf k x.1 x.2.1) k
noncomputable def b77 : Code := Try.f77.body.getD .skip
theorem e77 : OM.Entry Try.prog 77 := ⟨_, Try.func77, by kernel_rfl, by kernel_rfl⟩
@[reducible] noncomputable def impl_SpanOf.g : Sig := ⟨[.fz tConfig, .fz (.sl (.int .i64))], [.v (.int .i64) .z], []⟩
@[reducible] noncomputable def impl_SpanOf.fk : Nat → denI impl_SpanOf.g.pms → Option (denR (outTys impl_SpanOf.g.rts impl_SpanOf.g.pms)) := fun k x => impl_SpanOf.f k x.1 x.2.1
@[reducible] noncomputable def impl_SpanOf.sm (k : Nat) : Sm := ⟨77, impl_SpanOf.g.pms, impl_SpanOf.g.rts, impl_SpanOf.fk k⟩
noncomputable def impl_SpanOf.E (k : Nat) : Env := ⟨tys, [impl_NodesOk.sm k, slices_Contains_int_int.sm k], [18, 32], [], []⟩
@[reducible] noncomputable def impl_SpanOf.s11 : List Slot := [.r 8 9 [] tConfig, .v 20 (.sl (.int .i64)) (.own .z) [] 0, .v 52 (.sl (.int .i64)) .z [] 0, .v 56 (.int .i64) .z [] 0, .v 60 (.int .i64) .z [] 0, .v 9 tConfig .z [] 0]
noncomputable def impl_SpanOf.pts : List (Pt (denR (outTys impl_SpanOf.g.rts impl_SpanOf.g.pms))) := [⟨11, impl_SpanOf.s11, fun k x => impl_SpanOf.p11 k x.1 x.2.1 x.2.2.1 x.2.2.2.1 x.2.2.2.2.1⟩]
theorem impl_SpanOf.h11 (k : Nat) (x0 : (List Int)) (x1 : (List Int)) (x2 : Int) (x3 : Int) (x4 : Config) : (impl_SpanOf.p11 (k + 1) x0 x1 x2 x3 x4 : Option (denR (outTys impl_SpanOf.g.rts impl_SpanOf.g.pms))) = evAt (impl_SpanOf.E k) (fun κ s => lhOf k κ s impl_SpanOf.pts) 11 b77 (unproj impl_SpanOf.s11 (x0, x1, x2, x3, x4, ())) (OM.fin impl_SpanOf.g Try.f77.results.toList) := by kernel_rfl
theorem impl_SpanOf.hf (k : Nat) (a0 : Config) (a1 : (List Int)) : (impl_SpanOf.f k a0 a1 : Option (denR (outTys impl_SpanOf.g.rts impl_SpanOf.g.pms))) = evC (impl_SpanOf.E k) (fun κ s => lhOf k κ s impl_SpanOf.pts) b77 (OM.start impl_SpanOf.g.pms 0 (a0, a1, ())) (OM.fin impl_SpanOf.g Try.f77.results.toList) := by kernel_rfl
theorem impl_SpanOf.ok (k : Nat) : SmOk Try.prog (impl_SpanOf.sm k) :=
  sm_ok mixed (E := impl_SpanOf.E) (pts := impl_SpanOf.pts) (fun k => ⟨⟨tysOk, by kernel_rfl⟩, forall_cons ⟨impl_NodesOk.ok k, e64⟩ (forall_cons ⟨slices_Contains_int_int.ok k, e137⟩ (forall_nil))⟩) (fun _ => rfl) (fun _ => rfl)
    ⟨Try.func77, by kernel_rfl, by kernel_rfl, by kernel_rfl, by kernel_rfl, by kernel_rfl, by kernel_rfl⟩ (forall_cons (fun x => ⟨rfl, fun k => impl_SpanOf.h11 k x.1 x.2.1 x.2.2.1 x.2.2.2.1 x.2.2.2.2.1⟩) (forall_nil)) (fun k x => impl_SpanOf.hf k x.1 x.2.1) k
noncomputable def b20 : Code := Try.f20.body.getD .skip
theorem e20 : OM.Entry Try.prog 20 := ⟨_, Try.func20, by kernel_rfl, by kernel_rfl⟩
@[reducible] noncomputable def impl_Holds.g : Sig := ⟨[.fz tConfig, .fz (.sl (.int .i64))], [.v .bool .z], []⟩
@[reducible] noncomputable def impl_Holds.fk : Nat → denI impl_Holds.g.pms → Option (denR (outTys impl_Holds.g.rts impl_Holds.g.pms)) := fun k x => impl_Holds.f k x.1 x.2.1
@[reducible] noncomputable def impl_Holds.sm (k : Nat) : Sm := ⟨20, impl_Holds.g.pms, impl_Holds.g.rts, impl_Holds.fk k⟩
noncomputable def impl_Holds.E (k : Nat) : Env := ⟨tys, [impl_NodesOk.sm k, impl_SpanOf.sm k], [], [], []⟩
noncomputable def impl_Holds.pts : List (Pt (denR (outTys impl_Holds.g.rts impl_Holds.g.pms))) := []
theorem impl_Holds.hf (k : Nat) (a0 : Config) (a1 : (List Int)) : (impl_Holds.f k a0 a1 : Option (denR (outTys impl_Holds.g.rts impl_Holds.g.pms))) = evC (impl_Holds.E k) (fun κ s => lhOf k κ s impl_Holds.pts) b20 (OM.start impl_Holds.g.pms 0 (a0, a1, ())) (OM.fin impl_Holds.g Try.f20.results.toList) := by kernel_rfl
theorem impl_Holds.ok (k : Nat) : SmOk Try.prog (impl_Holds.sm k) :=
  sm_ok mixed (E := impl_Holds.E) (pts := impl_Holds.pts) (fun k => ⟨⟨tysOk, by kernel_rfl⟩, forall_cons ⟨impl_NodesOk.ok k, e64⟩ (forall_cons ⟨impl_SpanOf.ok k, e77⟩ (forall_nil))⟩) (fun _ => rfl) (fun _ => rfl)
    ⟨Try.func20, by kernel_rfl, by kernel_rfl, by kernel_rfl, by kernel_rfl, by kernel_rfl, by kernel_rfl⟩ (forall_nil) (fun k x => impl_Holds.hf k x.1 x.2.1) k
noncomputable def b141 : Code := Try.f141.body.getD .skip
theorem e141 : OM.Entry Try.prog 141 := ⟨_, Try.func141, by kernel_rfl, by kernel_rfl⟩
@[reducible] noncomputable def impl_eraOk.g : Sig := ⟨[.fz tConfig, .fz tEra], [.v .bool .z], []⟩
@[reducible] noncomputable def impl_eraOk.fk : Nat → denI impl_eraOk.g.pms → Option (denR (outTys impl_eraOk.g.rts impl_eraOk.g.pms)) := fun k x => impl_eraOk.f k x.1 x.2.1
@[reducible] noncomputable def impl_eraOk.sm (k : Nat) : Sm := ⟨141, impl_eraOk.g.pms, impl_eraOk.g.rts, impl_eraOk.fk k⟩
noncomputable def impl_eraOk.E (k : Nat) : Env := ⟨tys, [impl_within.sm k, impl_Holds.sm k], [], [], []⟩
noncomputable def impl_eraOk.pts : List (Pt (denR (outTys impl_eraOk.g.rts impl_eraOk.g.pms))) := []
theorem impl_eraOk.hf (k : Nat) (a0 : Config) (a1 : Era) : (impl_eraOk.f k a0 a1 : Option (denR (outTys impl_eraOk.g.rts impl_eraOk.g.pms))) = evC (impl_eraOk.E k) (fun κ s => lhOf k κ s impl_eraOk.pts) b141 (OM.start impl_eraOk.g.pms 0 (a0, a1, ())) (OM.fin impl_eraOk.g Try.f141.results.toList) := by kernel_rfl
theorem impl_eraOk.ok (k : Nat) : SmOk Try.prog (impl_eraOk.sm k) :=
  sm_ok mixed (E := impl_eraOk.E) (pts := impl_eraOk.pts) (fun k => ⟨⟨tysOk, by kernel_rfl⟩, forall_cons ⟨impl_within.ok k, e67⟩ (forall_cons ⟨impl_Holds.ok k, e20⟩ (forall_nil))⟩) (fun _ => rfl) (fun _ => rfl)
    ⟨Try.func141, by kernel_rfl, by kernel_rfl, by kernel_rfl, by kernel_rfl, by kernel_rfl, by kernel_rfl⟩ (forall_nil) (fun k x => impl_eraOk.hf k x.1 x.2.1) k
noncomputable def b66 : Code := Try.f66.body.getD .skip
theorem e66 : OM.Entry Try.prog 66 := ⟨_, Try.func66, by kernel_rfl, by kernel_rfl⟩
@[reducible] noncomputable def impl_isEpoch.g : Sig := ⟨[.fz (.int .i64)], [.v .bool .z], []⟩
@[reducible] noncomputable def impl_isEpoch.fk : Nat → denI impl_isEpoch.g.pms → Option (denR (outTys impl_isEpoch.g.rts impl_isEpoch.g.pms)) := fun k x => impl_isEpoch.f x.1
@[reducible] noncomputable def impl_isEpoch.sm (k : Nat) : Sm := ⟨66, impl_isEpoch.g.pms, impl_isEpoch.g.rts, impl_isEpoch.fk k⟩
noncomputable def impl_isEpoch.E (k : Nat) : Env := ⟨tys, [impl_within.sm k], [], [], []⟩
noncomputable def impl_isEpoch.pts : List (Pt (denR (outTys impl_isEpoch.g.rts impl_isEpoch.g.pms))) := []
theorem impl_isEpoch.hf (k : Nat) (a0 : Int) : (impl_isEpoch.f a0 : Option (denR (outTys impl_isEpoch.g.rts impl_isEpoch.g.pms))) = evC (impl_isEpoch.E k) (fun κ s => lhOf k κ s impl_isEpoch.pts) b66 (OM.start impl_isEpoch.g.pms 0 (a0, ())) (OM.fin impl_isEpoch.g Try.f66.results.toList) := by kernel_rfl
theorem impl_isEpoch.ok (k : Nat) : SmOk Try.prog (impl_isEpoch.sm k) :=
  sm_ok mixed (E := impl_isEpoch.E) (pts := impl_isEpoch.pts) (fun k => ⟨⟨tysOk, by kernel_rfl⟩, forall_cons ⟨impl_within.ok k, e67⟩ (forall_nil)⟩) (fun _ => rfl) (fun _ => rfl)
    ⟨Try.func66, by kernel_rfl, by kernel_rfl, by kernel_rfl, by kernel_rfl, by kernel_rfl, by kernel_rfl⟩ (forall_nil) (fun k x => impl_isEpoch.hf k x.1) k
noncomputable def b131 : Code := Try.f131.body.getD .skip
theorem e131 : OM.Entry Try.prog 131 := ⟨_, Try.func131, by kernel_rfl, by kernel_rfl⟩
@[reducible] noncomputable def impl_isOff.g : Sig := ⟨[.fz (.int .i64)], [.v .bool .z], []⟩
@[reducible] noncomputable def impl_isOff.fk : Nat → denI impl_isOff.g.pms → Option (denR (outTys impl_isOff.g.rts impl_isOff.g.pms)) := fun k x => impl_isOff.f x.1
@[reducible] noncomputable def impl_isOff.sm (k : Nat) : Sm := ⟨131, impl_isOff.g.pms, impl_isOff.g.rts, impl_isOff.fk k⟩
noncomputable def impl_isOff.E (k : Nat) : Env := ⟨tys, [impl_within.sm k], [], [], []⟩
noncomputable def impl_isOff.pts : List (Pt (denR (outTys impl_isOff.g.rts impl_isOff.g.pms))) := []
theorem impl_isOff.hf (k : Nat) (a0 : Int) : (impl_isOff.f a0 : Option (denR (outTys impl_isOff.g.rts impl_isOff.g.pms))) = evC (impl_isOff.E k) (fun κ s => lhOf k κ s impl_isOff.pts) b131 (OM.start impl_isOff.g.pms 0 (a0, ())) (OM.fin impl_isOff.g Try.f131.results.toList) := by kernel_rfl
theorem impl_isOff.ok (k : Nat) : SmOk Try.prog (impl_isOff.sm k) :=
  sm_ok mixed (E := impl_isOff.E) (pts := impl_isOff.pts) (fun k => ⟨⟨tysOk, by kernel_rfl⟩, forall_cons ⟨impl_within.ok k, e67⟩ (forall_nil)⟩) (fun _ => rfl) (fun _ => rfl)
    ⟨Try.func131, by kernel_rfl, by kernel_rfl, by kernel_rfl, by kernel_rfl, by kernel_rfl, by kernel_rfl⟩ (forall_nil) (fun k x => impl_isOff.hf k x.1) k
noncomputable def b63 : Code := Try.f63.body.getD .skip
theorem e63 : OM.Entry Try.prog 63 := ⟨_, Try.func63, by kernel_rfl, by kernel_rfl⟩
@[reducible] noncomputable def impl_PlaceOk.g : Sig := ⟨[.fz (.int .i64)], [.v .bool .z], []⟩
@[reducible] noncomputable def impl_PlaceOk.fk : Nat → denI impl_PlaceOk.g.pms → Option (denR (outTys impl_PlaceOk.g.rts impl_PlaceOk.g.pms)) := fun k x => impl_PlaceOk.f x.1
@[reducible] noncomputable def impl_PlaceOk.sm (k : Nat) : Sm := ⟨63, impl_PlaceOk.g.pms, impl_PlaceOk.g.rts, impl_PlaceOk.fk k⟩
noncomputable def impl_PlaceOk.E (k : Nat) : Env := ⟨tys, [impl_isEpoch.sm k, impl_isOff.sm k], [], [], []⟩
noncomputable def impl_PlaceOk.pts : List (Pt (denR (outTys impl_PlaceOk.g.rts impl_PlaceOk.g.pms))) := []
theorem impl_PlaceOk.hf (k : Nat) (a0 : Int) : (impl_PlaceOk.f a0 : Option (denR (outTys impl_PlaceOk.g.rts impl_PlaceOk.g.pms))) = evC (impl_PlaceOk.E k) (fun κ s => lhOf k κ s impl_PlaceOk.pts) b63 (OM.start impl_PlaceOk.g.pms 0 (a0, ())) (OM.fin impl_PlaceOk.g Try.f63.results.toList) := by kernel_rfl
theorem impl_PlaceOk.ok (k : Nat) : SmOk Try.prog (impl_PlaceOk.sm k) :=
  sm_ok mixed (E := impl_PlaceOk.E) (pts := impl_PlaceOk.pts) (fun k => ⟨⟨tysOk, by kernel_rfl⟩, forall_cons ⟨impl_isEpoch.ok k, e66⟩ (forall_cons ⟨impl_isOff.ok k, e131⟩ (forall_nil))⟩) (fun _ => rfl) (fun _ => rfl)
    ⟨Try.func63, by kernel_rfl, by kernel_rfl, by kernel_rfl, by kernel_rfl, by kernel_rfl, by kernel_rfl⟩ (forall_nil) (fun k x => impl_PlaceOk.hf k x.1) k
noncomputable def b12 : Code := Try.f12.body.getD .skip
theorem e12 : OM.Entry Try.prog 12 := ⟨_, Try.func12, by kernel_rfl, by kernel_rfl⟩
@[reducible] noncomputable def impl_EpochOf.g : Sig := ⟨[.fz (.int .i64)], [.v (.int .i64) .z], []⟩
@[reducible] noncomputable def impl_EpochOf.fk : Nat → denI impl_EpochOf.g.pms → Option (denR (outTys impl_EpochOf.g.rts impl_EpochOf.g.pms)) := fun k x => impl_EpochOf.f x.1
@[reducible] noncomputable def impl_EpochOf.sm (k : Nat) : Sm := ⟨12, impl_EpochOf.g.pms, impl_EpochOf.g.rts, impl_EpochOf.fk k⟩
noncomputable def impl_EpochOf.E (k : Nat) : Env := ⟨tys, [impl_PlaceOk.sm k], [], [], []⟩
noncomputable def impl_EpochOf.pts : List (Pt (denR (outTys impl_EpochOf.g.rts impl_EpochOf.g.pms))) := []
theorem impl_EpochOf.hf (k : Nat) (a0 : Int) : (impl_EpochOf.f a0 : Option (denR (outTys impl_EpochOf.g.rts impl_EpochOf.g.pms))) = evC (impl_EpochOf.E k) (fun κ s => lhOf k κ s impl_EpochOf.pts) b12 (OM.start impl_EpochOf.g.pms 0 (a0, ())) (OM.fin impl_EpochOf.g Try.f12.results.toList) := by kernel_rfl
theorem impl_EpochOf.ok (k : Nat) : SmOk Try.prog (impl_EpochOf.sm k) :=
  sm_ok mixed (E := impl_EpochOf.E) (pts := impl_EpochOf.pts) (fun k => ⟨⟨tysOk, by kernel_rfl⟩, forall_cons ⟨impl_PlaceOk.ok k, e63⟩ (forall_nil)⟩) (fun _ => rfl) (fun _ => rfl)
    ⟨Try.func12, by kernel_rfl, by kernel_rfl, by kernel_rfl, by kernel_rfl, by kernel_rfl, by kernel_rfl⟩ (forall_nil) (fun k x => impl_EpochOf.hf k x.1) k
noncomputable def b82 : Code := Try.f82.body.getD .skip
theorem e82 : OM.Entry Try.prog 82 := ⟨_, Try.func82, by kernel_rfl, by kernel_rfl⟩
@[reducible] noncomputable def impl_RegOk.g : Sig := ⟨[.fz tConfig, .fz tRegister], [.v .bool .z], []⟩
@[reducible] noncomputable def impl_RegOk.fk : Nat → denI impl_RegOk.g.pms → Option (denR (outTys impl_RegOk.g.rts impl_RegOk.g.pms)) := fun k x => impl_RegOk.f k x.1 x.2.1
@[reducible] noncomputable def impl_RegOk.sm (k : Nat) : Sm := ⟨82, impl_RegOk.g.pms, impl_RegOk.g.rts, impl_RegOk.fk k⟩
noncomputable def impl_RegOk.E (k : Nat) : Env := ⟨tys, [impl_within.sm k, impl_ConfigOk.sm k, impl_eraOk.sm k, impl_EpochOf.sm k], [15], [8], []⟩
@[reducible] noncomputable def impl_RegOk.s5 : List Slot := [.r 8 9 [] tConfig, .r 12 13 [] tRegister, .v 36 (.sl tEra) .z [] 0, .v 40 (.int .i64) .z [] 0, .v 44 (.int .i64) .z [] 0, .v 9 tConfig .z [] 0, .v 13 tRegister .z [] 0]
@[reducible] noncomputable def impl_RegOk.s16 : List Slot := [.r 8 9 [] tConfig, .r 12 13 [] tRegister, .v 28 .bool .z [] 0, .v 9 tConfig .z [] 0, .v 13 tRegister .z [] 0]
noncomputable def impl_RegOk.pts : List (Pt (denR (outTys impl_RegOk.g.rts impl_RegOk.g.pms))) := [⟨5, impl_RegOk.s5, fun k x => impl_RegOk.p5 k x.1 x.2.1 x.2.2.1 x.2.2.2.1 x.2.2.2.2.1⟩, ⟨16, impl_RegOk.s16, fun k x => impl_RegOk.p16 k x.1 x.2.1 x.2.2.1⟩]
theorem impl_RegOk.h5 (k : Nat) (x0 : (List Era)) (x1 : Int) (x2 : Int) (x3 : Config) (x4 : Register) : (impl_RegOk.p5 (k + 1) x0 x1 x2 x3 x4 : Option (denR (outTys impl_RegOk.g.rts impl_RegOk.g.pms))) = evAt (impl_RegOk.E k) (fun κ s => lhOf k κ s impl_RegOk.pts) 5 b82 (unproj impl_RegOk.s5 (x0, x1, x2, x3, x4, ())) (OM.fin impl_RegOk.g Try.f82.results.toList) := by kernel_rfl
theorem impl_RegOk.h16 (k : Nat) (x0 : Bool) (x1 : Config) (x2 : Register) : (impl_RegOk.p16 (k + 1) x0 x1 x2 : Option (denR (outTys impl_RegOk.g.rts impl_RegOk.g.pms))) = evAt (impl_RegOk.E k) (fun κ s => lhOf k κ s impl_RegOk.pts) 16 b82 (unproj impl_RegOk.s16 (x0, x1, x2, ())) (OM.fin impl_RegOk.g Try.f82.results.toList) := by kernel_rfl
theorem impl_RegOk.hf (k : Nat) (a0 : Config) (a1 : Register) : (impl_RegOk.f k a0 a1 : Option (denR (outTys impl_RegOk.g.rts impl_RegOk.g.pms))) = evC (impl_RegOk.E k) (fun κ s => lhOf k κ s impl_RegOk.pts) b82 (OM.start impl_RegOk.g.pms 0 (a0, a1, ())) (OM.fin impl_RegOk.g Try.f82.results.toList) := by kernel_rfl
theorem impl_RegOk.ok (k : Nat) : SmOk Try.prog (impl_RegOk.sm k) :=
  sm_ok mixed (E := impl_RegOk.E) (pts := impl_RegOk.pts) (fun k => ⟨⟨tysOk, by kernel_rfl⟩, forall_cons ⟨impl_within.ok k, e67⟩ (forall_cons ⟨impl_ConfigOk.ok k, e68⟩ (forall_cons ⟨impl_eraOk.ok k, e141⟩ (forall_cons ⟨impl_EpochOf.ok k, e12⟩ (forall_nil))))⟩) (fun _ => rfl) (fun _ => rfl)
    ⟨Try.func82, by kernel_rfl, by kernel_rfl, by kernel_rfl, by kernel_rfl, by kernel_rfl, by kernel_rfl⟩ (forall_cons (fun x => ⟨rfl, fun k => impl_RegOk.h5 k x.1 x.2.1 x.2.2.1 x.2.2.2.1 x.2.2.2.2.1⟩) (forall_cons (fun x => ⟨rfl, fun k => impl_RegOk.h16 k x.1 x.2.1 x.2.2.1⟩) (forall_nil))) (fun k x => impl_RegOk.hf k x.1 x.2.1) k
noncomputable def b30 : Code := Try.f30.body.getD .skip
theorem e30 : OM.Entry Try.prog 30 := ⟨_, Try.func30, by kernel_rfl, by kernel_rfl⟩
@[reducible] noncomputable def impl_ReaderOk.g : Sig := ⟨[.fz tReader], [.v .bool .z], []⟩
@[reducible] noncomputable def impl_ReaderOk.fk : Nat → denI impl_ReaderOk.g.pms → Option (denR (outTys impl_ReaderOk.g.rts impl_ReaderOk.g.pms)) := fun k x => impl_ReaderOk.f x.1
@[reducible] noncomputable def impl_ReaderOk.sm (k : Nat) : Sm := ⟨30, impl_ReaderOk.g.pms, impl_ReaderOk.g.rts, impl_ReaderOk.fk k⟩
noncomputable def impl_ReaderOk.E (k : Nat) : Env := ⟨tys, [impl_within.sm k], [], [], []⟩
noncomputable def impl_ReaderOk.pts : List (Pt (denR (outTys impl_ReaderOk.g.rts impl_ReaderOk.g.pms))) := []
theorem impl_ReaderOk.hf (k : Nat) (a0 : Reader) : (impl_ReaderOk.f a0 : Option (denR (outTys impl_ReaderOk.g.rts impl_ReaderOk.g.pms))) = evC (impl_ReaderOk.E k) (fun κ s => lhOf k κ s impl_ReaderOk.pts) b30 (OM.start impl_ReaderOk.g.pms 0 (a0, ())) (OM.fin impl_ReaderOk.g Try.f30.results.toList) := by kernel_rfl
theorem impl_ReaderOk.ok (k : Nat) : SmOk Try.prog (impl_ReaderOk.sm k) :=
  sm_ok mixed (E := impl_ReaderOk.E) (pts := impl_ReaderOk.pts) (fun k => ⟨⟨tysOk, by kernel_rfl⟩, forall_cons ⟨impl_within.ok k, e67⟩ (forall_nil)⟩) (fun _ => rfl) (fun _ => rfl)
    ⟨Try.func30, by kernel_rfl, by kernel_rfl, by kernel_rfl, by kernel_rfl, by kernel_rfl, by kernel_rfl⟩ (forall_nil) (fun k x => impl_ReaderOk.hf k x.1) k
noncomputable def b83 : Code := Try.f83.body.getD .skip
theorem e83 : OM.Entry Try.prog 83 := ⟨_, Try.func83, by kernel_rfl, by kernel_rfl⟩
@[reducible] noncomputable def impl_nodesOf.g : Sig := ⟨[.fz (.sl tAnswer)], [.v (.sl (.int .i64)) (.own .z)], []⟩
@[reducible] noncomputable def impl_nodesOf.fk : Nat → denI impl_nodesOf.g.pms → Option (denR (outTys impl_nodesOf.g.rts impl_nodesOf.g.pms)) := fun k x => impl_nodesOf.f k x.1
@[reducible] noncomputable def impl_nodesOf.sm (k : Nat) : Sm := ⟨83, impl_nodesOf.g.pms, impl_nodesOf.g.rts, impl_nodesOf.fk k⟩
noncomputable def impl_nodesOf.E (k : Nat) : Env := ⟨tys, [], [12, 15], [], []⟩
@[reducible] noncomputable def impl_nodesOf.s7 : List Slot := [.v 12 (.sl (.int .i64)) (.own .z) [] 0, .v 28 (.sl tAnswer) .z [] 0, .v 32 (.int .i64) .z [] 0, .v 36 (.int .i64) .z [] 0]
noncomputable def impl_nodesOf.pts : List (Pt (denR (outTys impl_nodesOf.g.rts impl_nodesOf.g.pms))) := [⟨7, impl_nodesOf.s7, fun k x => impl_nodesOf.p7 k x.1 x.2.1 x.2.2.1 x.2.2.2.1⟩]
theorem impl_nodesOf.h7 (k : Nat) (x0 : (List Int)) (x1 : (List Answer)) (x2 : Int) (x3 : Int) : (impl_nodesOf.p7 (k + 1) x0 x1 x2 x3 : Option (denR (outTys impl_nodesOf.g.rts impl_nodesOf.g.pms))) = evAt (impl_nodesOf.E k) (fun κ s => lhOf k κ s impl_nodesOf.pts) 7 b83 (unproj impl_nodesOf.s7 (x0, x1, x2, x3, ())) (OM.fin impl_nodesOf.g Try.f83.results.toList) := by kernel_rfl
theorem impl_nodesOf.hf (k : Nat) (a0 : (List Answer)) : (impl_nodesOf.f k a0 : Option (denR (outTys impl_nodesOf.g.rts impl_nodesOf.g.pms))) = evC (impl_nodesOf.E k) (fun κ s => lhOf k κ s impl_nodesOf.pts) b83 (OM.start impl_nodesOf.g.pms 0 (a0, ())) (OM.fin impl_nodesOf.g Try.f83.results.toList) := by kernel_rfl
theorem impl_nodesOf.ok (k : Nat) : SmOk Try.prog (impl_nodesOf.sm k) :=
  sm_ok mixed (E := impl_nodesOf.E) (pts := impl_nodesOf.pts) (fun k => ⟨⟨tysOk, by kernel_rfl⟩, forall_nil⟩) (fun _ => rfl) (fun _ => rfl)
    ⟨Try.func83, by kernel_rfl, by kernel_rfl, by kernel_rfl, by kernel_rfl, by kernel_rfl, by kernel_rfl⟩ (forall_cons (fun x => ⟨rfl, fun k => impl_nodesOf.h7 k x.1 x.2.1 x.2.2.1 x.2.2.2.1⟩) (forall_nil)) (fun k x => impl_nodesOf.hf k x.1) k
noncomputable def b84 : Code := Try.f84.body.getD .skip
theorem e84 : OM.Entry Try.prog 84 := ⟨_, Try.func84, by kernel_rfl, by kernel_rfl⟩
@[reducible] noncomputable def impl_copyReader.g : Sig := ⟨[.fz tReader], [.v tReader (.two .z (.two .z (.two (.own .z) .z)))], []⟩
@[reducible] noncomputable def impl_copyReader.fk : Nat → denI impl_copyReader.g.pms → Option (denR (outTys impl_copyReader.g.rts impl_copyReader.g.pms)) := fun k x => impl_copyReader.f x.1
@[reducible] noncomputable def impl_copyReader.sm (k : Nat) : Sm := ⟨84, impl_copyReader.g.pms, impl_copyReader.g.rts, impl_copyReader.fk k⟩
noncomputable def impl_copyReader.E (k : Nat) : Env := ⟨tys, [], [], [], []⟩
noncomputable def impl_copyReader.pts : List (Pt (denR (outTys impl_copyReader.g.rts impl_copyReader.g.pms))) := []
theorem impl_copyReader.hf (k : Nat) (a0 : Reader) : (impl_copyReader.f a0 : Option (denR (outTys impl_copyReader.g.rts impl_copyReader.g.pms))) = evC (impl_copyReader.E k) (fun κ s => lhOf k κ s impl_copyReader.pts) b84 (OM.start impl_copyReader.g.pms 0 (a0, ())) (OM.fin impl_copyReader.g Try.f84.results.toList) := by kernel_rfl
theorem impl_copyReader.ok (k : Nat) : SmOk Try.prog (impl_copyReader.sm k) :=
  sm_ok mixed (E := impl_copyReader.E) (pts := impl_copyReader.pts) (fun k => ⟨⟨tysOk, by kernel_rfl⟩, forall_nil⟩) (fun _ => rfl) (fun _ => rfl)
    ⟨Try.func84, by kernel_rfl, by kernel_rfl, by kernel_rfl, by kernel_rfl, by kernel_rfl, by kernel_rfl⟩ (forall_nil) (fun k x => impl_copyReader.hf k x.1) k
noncomputable def b28 : Code := Try.f28.body.getD .skip
theorem e28 : OM.Entry Try.prog 28 := ⟨_, Try.func28, by kernel_rfl, by kernel_rfl⟩
@[reducible] noncomputable def impl_OffOf.g : Sig := ⟨[.fz (.int .i64)], [.v (.int .i64) .z], []⟩
@[reducible] noncomputable def impl_OffOf.fk : Nat → denI impl_OffOf.g.pms → Option (denR (outTys impl_OffOf.g.rts impl_OffOf.g.pms)) := fun k x => impl_OffOf.f x.1
@[reducible] noncomputable def impl_OffOf.sm (k : Nat) : Sm := ⟨28, impl_OffOf.g.pms, impl_OffOf.g.rts, impl_OffOf.fk k⟩
noncomputable def impl_OffOf.E (k : Nat) : Env := ⟨tys, [impl_PlaceOk.sm k], [], [], []⟩
noncomputable def impl_OffOf.pts : List (Pt (denR (outTys impl_OffOf.g.rts impl_OffOf.g.pms))) := []
theorem impl_OffOf.hf (k : Nat) (a0 : Int) : (impl_OffOf.f a0 : Option (denR (outTys impl_OffOf.g.rts impl_OffOf.g.pms))) = evC (impl_OffOf.E k) (fun κ s => lhOf k κ s impl_OffOf.pts) b28 (OM.start impl_OffOf.g.pms 0 (a0, ())) (OM.fin impl_OffOf.g Try.f28.results.toList) := by kernel_rfl
theorem impl_OffOf.ok (k : Nat) : SmOk Try.prog (impl_OffOf.sm k) :=
  sm_ok mixed (E := impl_OffOf.E) (pts := impl_OffOf.pts) (fun k => ⟨⟨tysOk, by kernel_rfl⟩, forall_cons ⟨impl_PlaceOk.ok k, e63⟩ (forall_nil)⟩) (fun _ => rfl) (fun _ => rfl)
    ⟨Try.func28, by kernel_rfl, by kernel_rfl, by kernel_rfl, by kernel_rfl, by kernel_rfl, by kernel_rfl⟩ (forall_nil) (fun k x => impl_OffOf.hf k x.1) k
noncomputable def b85 : Code := Try.f85.body.getD .skip
theorem e85 : OM.Entry Try.prog 85 := ⟨_, Try.func85, by kernel_rfl, by kernel_rfl⟩
@[reducible] noncomputable def impl_isAhead.g : Sig := ⟨[.fz (.int .i64), .fz tReader], [.v .bool .z], []⟩
@[reducible] noncomputable def impl_isAhead.fk : Nat → denI impl_isAhead.g.pms → Option (denR (outTys impl_isAhead.g.rts impl_isAhead.g.pms)) := fun k x => impl_isAhead.f x.1 x.2.1
@[reducible] noncomputable def impl_isAhead.sm (k : Nat) : Sm := ⟨85, impl_isAhead.g.pms, impl_isAhead.g.rts, impl_isAhead.fk k⟩
noncomputable def impl_isAhead.E (k : Nat) : Env := ⟨tys, [impl_EpochOf.sm k, impl_OffOf.sm k], [], [], []⟩
noncomputable def impl_isAhead.pts : List (Pt (denR (outTys impl_isAhead.g.rts impl_isAhead.g.pms))) := []
theorem impl_isAhead.hf (k : Nat) (a0 : Int) (a1 : Reader) : (impl_isAhead.f a0 a1 : Option (denR (outTys impl_isAhead.g.rts impl_isAhead.g.pms))) = evC (impl_isAhead.E k) (fun κ s => lhOf k κ s impl_isAhead.pts) b85 (OM.start impl_isAhead.g.pms 0 (a0, a1, ())) (OM.fin impl_isAhead.g Try.f85.results.toList) := by kernel_rfl
theorem impl_isAhead.ok (k : Nat) : SmOk Try.prog (impl_isAhead.sm k) :=
  sm_ok mixed (E := impl_isAhead.E) (pts := impl_isAhead.pts) (fun k => ⟨⟨tysOk, by kernel_rfl⟩, forall_cons ⟨impl_EpochOf.ok k, e12⟩ (forall_cons ⟨impl_OffOf.ok k, e28⟩ (forall_nil))⟩) (fun _ => rfl) (fun _ => rfl)
    ⟨Try.func85, by kernel_rfl, by kernel_rfl, by kernel_rfl, by kernel_rfl, by kernel_rfl, by kernel_rfl⟩ (forall_nil) (fun k x => impl_isAhead.hf k x.1 x.2.1) k
noncomputable def b97 : Code := Try.f97.body.getD .skip
theorem e97 : OM.Entry Try.prog 97 := ⟨_, Try.func97, by kernel_rfl, by kernel_rfl⟩
@[reducible] noncomputable def impl_copyInts.g : Sig := ⟨[.fz (.sl (.int .i64))], [.v (.sl (.int .i64)) (.own .z)], []⟩
@[reducible] noncomputable def impl_copyInts.fk : Nat → denI impl_copyInts.g.pms → Option (denR (outTys impl_copyInts.g.rts impl_copyInts.g.pms)) := fun k x => impl_copyInts.f x.1
@[reducible] noncomputable def impl_copyInts.sm (k : Nat) : Sm := ⟨97, impl_copyInts.g.pms, impl_copyInts.g.rts, impl_copyInts.fk k⟩
noncomputable def impl_copyInts.E (k : Nat) : Env := ⟨tys, [], [4], [], []⟩
noncomputable def impl_copyInts.pts : List (Pt (denR (outTys impl_copyInts.g.rts impl_copyInts.g.pms))) := []
theorem impl_copyInts.hf (k : Nat) (a0 : (List Int)) : (impl_copyInts.f a0 : Option (denR (outTys impl_copyInts.g.rts impl_copyInts.g.pms))) = evC (impl_copyInts.E k) (fun κ s => lhOf k κ s impl_copyInts.pts) b97 (OM.start impl_copyInts.g.pms 0 (a0, ())) (OM.fin impl_copyInts.g Try.f97.results.toList) := by kernel_rfl
theorem impl_copyInts.ok (k : Nat) : SmOk Try.prog (impl_copyInts.sm k) :=
  sm_ok mixed (E := impl_copyInts.E) (pts := impl_copyInts.pts) (fun k => ⟨⟨tysOk, by kernel_rfl⟩, forall_nil⟩) (fun _ => rfl) (fun _ => rfl)
    ⟨Try.func97, by kernel_rfl, by kernel_rfl, by kernel_rfl, by kernel_rfl, by kernel_rfl, by kernel_rfl⟩ (forall_nil) (fun k x => impl_copyInts.hf k x.1) k
noncomputable def b135 : Code := Try.f135.body.getD .skip
theorem e135 : OM.Entry Try.prog 135 := ⟨_, Try.func135, by kernel_rfl, by kernel_rfl⟩
noncomputable def slices_DeleteFunc_int_int_impl_both_1.rho : Shelf.Ren := ⟨fun n => cond (Nat.beq n 6) 167 (cond (Nat.beq n 10) 135 (n)), fun n => cond (Nat.beq n 22) 24 (cond (Nat.beq n 23) 3 (cond (Nat.beq n 25) 96 (cond (Nat.beq n 0) 0 (cond (Nat.beq n 3) 3 (cond (Nat.beq n 4) 4 (n)))))), fun n => n⟩
theorem slices_DeleteFunc_int_int_impl_both_1.lay : Proofs.SlLaysH.n10 Try.prog slices_DeleteFunc_int_int_impl_both_1.rho := { mixed := mixed, f6 := ⟨"slices.IndexFunc[[]int,int]", by kernel_rfl, (Try.func167).trans (congrArg some (by kernel_rfl))⟩, f10 := ⟨"slices.DeleteFunc[[]int,int]", by kernel_rfl, (Try.func135).trans (congrArg some (by kernel_rfl))⟩, t0 := Try.underlying0, a0 := Try.isAgg0, z0 := Try.sizeOf0, v0 := Try.zeroValue0, t3 := Try.underlying3, a3 := Try.isAgg3, z3 := Try.sizeOf3, v3 := Try.zeroValue3, t4 := Try.underlying4, a4 := Try.isAgg4, z4 := Try.sizeOf4, v4 := Try.zeroValue4, t22 := Try.underlying24, a22 := Try.isAgg24, z22 := Try.sizeOf24, v22 := Try.zeroValue24, a23 := Try.isAgg3, z23 := Try.sizeOf3, t25 := Try.underlying96, a25 := Try.isAgg96, z25 := Try.sizeOf96, v25 := Try.zeroValue96 }
noncomputable def slices_DeleteFunc_int_int_impl_both_1.rhoC : Shelf.Ren := ⟨fun n => cond (Nat.beq n 29) 168 (cond (Nat.beq n 31) 137 (n)), fun n => cond (Nat.beq n 22) 24 (cond (Nat.beq n 23) 3 (cond (Nat.beq n 0) 0 (cond (Nat.beq n 3) 3 (cond (Nat.beq n 4) 4 (n))))), fun n => n⟩
theorem slices_DeleteFunc_int_int_impl_both_1.layC : Proofs.SlLaysE.n31 Try.prog slices_DeleteFunc_int_int_impl_both_1.rhoC := { mixed := mixed, f29 := ⟨"slices.Index[[]int,int]", by kernel_rfl, (Try.func168).trans (congrArg some (by kernel_rfl))⟩, f31 := ⟨"slices.Contains[[]int,int]", by kernel_rfl, (Try.func137).trans (congrArg some (by kernel_rfl))⟩, t0 := Try.underlying0, a0 := Try.isAgg0, z0 := Try.sizeOf0, v0 := Try.zeroValue0, t3 := Try.underlying3, a3 := Try.isAgg3, z3 := Try.sizeOf3, v3 := Try.zeroValue3, t4 := Try.underlying4, a4 := Try.isAgg4, z4 := Try.sizeOf4, v4 := Try.zeroValue4, t22 := Try.underlying24, a22 := Try.isAgg24, z22 := Try.sizeOf24, v22 := Try.zeroValue24, a23 := Try.isAgg3, z23 := Try.sizeOf3 }
theorem slices_DeleteFunc_int_int_impl_both_1.gives (w : World) (S : Nat → Prop) (y : ((List Int) × Unit)) (cap : List Value) (x : Int) (hy : slices_DeleteFunc_int_int_impl_both_1.okp y) (h : Rp w S (.pair (.fp (.sl (.int .i64))) .unit) .z y cap (fun _ => False)) : Proofs.FnGives Try.prog 142 cap.toArray #[.int .i64 x] (.bool (slices_DeleteFunc_int_int_impl_both_1.pred y x)) w := by
  obtain ⟨b, off, c1, rfl, h1, h2⟩ := cap_one h
  obtain ⟨a, n, c, rfl⟩ : ∃ a n c, c1 = [.slice a n c] := by
    obtain ⟨a, c, e, _⟩ := h2
    exact ⟨a, _, c, e⟩
  have hcell : w.cell? ⟨b, off, none⟩ = some (.slice a n c) := h1 0 _ rfl
  have hcon := contains_calls slices_DeleteFunc_int_int_impl_both_1.layC h2 hy x
  change Calls Try.prog 137 _ _ _ at hcon
  unfold slices_DeleteFunc_int_int_impl_both_1.pred
  generalize (y.1.any fun u => decide (x = u)) = r at hcon ⊢
  clear h h1 h2 hy
  show Calls Try.prog 142 #[.int .i64 x, .pointer (some ⟨b, off, none⟩)] w _
  go_enter Try.func142, Try.ntmps142
  go_wp2_with (go_at_call 137; refine hcon.mono ?_; rintro e w' ⟨rfl, rfl⟩)
  all_goals (go_ret; exact ⟨rfl, 0, rfl⟩)
@[reducible] noncomputable def slices_DeleteFunc_int_int_impl_both_1.g : Sig := ⟨[.own (.sl (.int .i64)) (.own .z), .fz (.fn 142 (.pair (.fp (.sl (.int .i64))) .unit))], [.v (.sl (.int .i64)) (.own .z)], []⟩
@[reducible] noncomputable def slices_DeleteFunc_int_int_impl_both_1.fk : Nat → denI slices_DeleteFunc_int_int_impl_both_1.g.pms → Option (denR (outTys slices_DeleteFunc_int_int_impl_both_1.g.rts slices_DeleteFunc_int_int_impl_both_1.g.pms)) := fun k x => slices_DeleteFunc_int_int_impl_both_1.f x.1 x.2.1
@[reducible] noncomputable def slices_DeleteFunc_int_int_impl_both_1.sm (k : Nat) : Sm := ⟨135, slices_DeleteFunc_int_int_impl_both_1.g.pms, slices_DeleteFunc_int_int_impl_both_1.g.rts, slices_DeleteFunc_int_int_impl_both_1.fk k⟩
theorem slices_DeleteFunc_int_int_impl_both_1.ok (k : Nat) : SmOk Try.prog (slices_DeleteFunc_int_int_impl_both_1.sm k) :=
  del_ok (t := (.pair (.fp (.sl (.int .i64))) .unit)) slices_DeleteFunc_int_int_impl_both_1.lay Try.zeroValue3 (Proofs.enters_of Try.func142 (by kernel_rfl) rfl) slices_DeleteFunc_int_int_impl_both_1.pred slices_DeleteFunc_int_int_impl_both_1.okp slices_DeleteFunc_int_int_impl_both_1.gives

noncomputable def b87 : Code := Try.f87.body.getD .skip
theorem e87 : OM.Entry Try.prog 87 := ⟨_, Try.func87, by kernel_rfl, by kernel_rfl⟩
@[reducible] noncomputable def impl_both.g : Sig := ⟨[.fz (.sl (.int .i64)), .fz (.sl (.int .i64))], [.v (.sl (.int .i64)) (.own .z)], []⟩
@[reducible] noncomputable def impl_both.fk : Nat → denI impl_both.g.pms → Option (denR (outTys impl_both.g.rts impl_both.g.pms)) := fun k x => impl_both.f x.1 x.2.1
@[reducible] noncomputable def impl_both.sm (k : Nat) : Sm := ⟨87, impl_both.g.pms, impl_both.g.rts, impl_both.fk k⟩
noncomputable def impl_both.E (k : Nat) : Env := ⟨tys, [impl_copyInts.sm k, slices_DeleteFunc_int_int_impl_both_1.sm k], [], [], []⟩
noncomputable def impl_both.pts : List (Pt (denR (outTys impl_both.g.rts impl_both.g.pms))) := []
theorem impl_both.hf (k : Nat) (a0 : (List Int)) (a1 : (List Int)) : (impl_both.f a0 a1 : Option (denR (outTys impl_both.g.rts impl_both.g.pms))) = evC (impl_both.E k) (fun κ s => lhOf k κ s impl_both.pts) b87 (OM.start impl_both.g.pms 0 (a0, a1, ())) (OM.fin impl_both.g Try.f87.results.toList) := by kernel_rfl
theorem impl_both.ok (k : Nat) : SmOk Try.prog (impl_both.sm k) :=
  sm_ok mixed (E := impl_both.E) (pts := impl_both.pts) (fun k => ⟨⟨tysOk, by kernel_rfl⟩, forall_cons ⟨impl_copyInts.ok k, e97⟩ (forall_cons ⟨slices_DeleteFunc_int_int_impl_both_1.ok k, e135⟩ (forall_nil))⟩) (fun _ => rfl) (fun _ => rfl)
    ⟨Try.func87, by kernel_rfl, by kernel_rfl, by kernel_rfl, by kernel_rfl, by kernel_rfl, by kernel_rfl⟩ (forall_nil) (fun k x => impl_both.hf k x.1 x.2.1) k
noncomputable def b86 : Code := Try.f86.body.getD .skip
theorem e86 : OM.Entry Try.prog 86 := ⟨_, Try.func86, by kernel_rfl, by kernel_rfl⟩
@[reducible] noncomputable def impl_Reader_tell.g : Sig := ⟨[.ptr tReader (.two .z (.two .z (.two (.own .z) .z))) (.two .z (.two .z (.two (.own .z) .z))), .fz tEvent], [], []⟩
@[reducible] noncomputable def impl_Reader_tell.fk : Nat → denI impl_Reader_tell.g.pms → Option (denR (outTys impl_Reader_tell.g.rts impl_Reader_tell.g.pms)) := fun k x => impl_Reader_tell.f x.1 x.2.1
@[reducible] noncomputable def impl_Reader_tell.sm (k : Nat) : Sm := ⟨86, impl_Reader_tell.g.pms, impl_Reader_tell.g.rts, impl_Reader_tell.fk k⟩
noncomputable def impl_Reader_tell.E (k : Nat) : Env := ⟨tys, [], [9], [], []⟩
noncomputable def impl_Reader_tell.pts : List (Pt (denR (outTys impl_Reader_tell.g.rts impl_Reader_tell.g.pms))) := []
theorem impl_Reader_tell.hf (k : Nat) (a0 : Reader) (a1 : Event) : (impl_Reader_tell.f a0 a1 : Option (denR (outTys impl_Reader_tell.g.rts impl_Reader_tell.g.pms))) = evC (impl_Reader_tell.E k) (fun κ s => lhOf k κ s impl_Reader_tell.pts) b86 (OM.start impl_Reader_tell.g.pms 0 (a0, a1, ())) (OM.fin impl_Reader_tell.g Try.f86.results.toList) := by kernel_rfl
theorem impl_Reader_tell.ok (k : Nat) : SmOk Try.prog (impl_Reader_tell.sm k) :=
  sm_ok mixed (E := impl_Reader_tell.E) (pts := impl_Reader_tell.pts) (fun k => ⟨⟨tysOk, by kernel_rfl⟩, forall_nil⟩) (fun _ => rfl) (fun _ => rfl)
    ⟨Try.func86, by kernel_rfl, by kernel_rfl, by kernel_rfl, by kernel_rfl, by kernel_rfl, by kernel_rfl⟩ (forall_nil) (fun k x => impl_Reader_tell.hf k x.1 x.2.1) k
noncomputable def b99 : Code := Try.f99.body.getD .skip
theorem e99 : OM.Entry Try.prog 99 := ⟨_, Try.func99, by kernel_rfl, by kernel_rfl⟩
@[reducible] noncomputable def impl_Rest.g : Sig := ⟨[.fz tConfig, .fz (.sl (.int .i64)), .fz (.sl (.int .i64))], [.v (.sl (.int .i64)) (.own .z)], []⟩
@[reducible] noncomputable def impl_Rest.fk : Nat → denI impl_Rest.g.pms → Option (denR (outTys impl_Rest.g.rts impl_Rest.g.pms)) := fun k x => impl_Rest.f k x.1 x.2.1 x.2.2.1
@[reducible] noncomputable def impl_Rest.sm (k : Nat) : Sm := ⟨99, impl_Rest.g.pms, impl_Rest.g.rts, impl_Rest.fk k⟩
noncomputable def impl_Rest.E (k : Nat) : Env := ⟨tys, [impl_NodesOk.sm k, slices_Contains_int_int.sm k], [27, 33], [], []⟩
@[reducible] noncomputable def impl_Rest.s11 : List Slot := [.v 8 (.sl (.int .i64)) .z [] 0, .v 28 (.sl (.int .i64)) (.own .z) [] 0, .v 88 (.sl (.int .i64)) .z [] 0, .v 92 (.int .i64) .z [] 0, .v 96 (.int .i64) .z [] 0]
noncomputable def impl_Rest.pts : List (Pt (denR (outTys impl_Rest.g.rts impl_Rest.g.pms))) := [⟨11, impl_Rest.s11, fun k x => impl_Rest.p11 k x.1 x.2.1 x.2.2.1 x.2.2.2.1 x.2.2.2.2.1⟩]
theorem impl_Rest.h11 (k : Nat) (x0 : (List Int)) (x1 : (List Int)) (x2 : (List Int)) (x3 : Int) (x4 : Int) : (impl_Rest.p11 (k + 1) x0 x1 x2 x3 x4 : Option (denR (outTys impl_Rest.g.rts impl_Rest.g.pms))) = evAt (impl_Rest.E k) (fun κ s => lhOf k κ s impl_Rest.pts) 11 b99 (unproj impl_Rest.s11 (x0, x1, x2, x3, x4, ())) (OM.fin impl_Rest.g Try.f99.results.toList) := by kernel_rfl
theorem impl_Rest.hf (k : Nat) (a0 : Config) (a1 : (List Int)) (a2 : (List Int)) : (impl_Rest.f k a0 a1 a2 : Option (denR (outTys impl_Rest.g.rts impl_Rest.g.pms))) = evC (impl_Rest.E k) (fun κ s => lhOf k κ s impl_Rest.pts) b99 (OM.start impl_Rest.g.pms 0 (a0, a1, a2, ())) (OM.fin impl_Rest.g Try.f99.results.toList) := by kernel_rfl
theorem impl_Rest.ok (k : Nat) : SmOk Try.prog (impl_Rest.sm k) :=
  sm_ok mixed (E := impl_Rest.E) (pts := impl_Rest.pts) (fun k => ⟨⟨tysOk, by kernel_rfl⟩, forall_cons ⟨impl_NodesOk.ok k, e64⟩ (forall_cons ⟨slices_Contains_int_int.ok k, e137⟩ (forall_nil))⟩) (fun _ => rfl) (fun _ => rfl)
    ⟨Try.func99, by kernel_rfl, by kernel_rfl, by kernel_rfl, by kernel_rfl, by kernel_rfl, by kernel_rfl⟩ (forall_cons (fun x => ⟨rfl, fun k => impl_Rest.h11 k x.1 x.2.1 x.2.2.1 x.2.2.2.1 x.2.2.2.2.1⟩) (forall_nil)) (fun k x => impl_Rest.hf k x.1 x.2.1 x.2.2.1) k
noncomputable def b27 : Code := Try.f27.body.getD .skip
theorem e27 : OM.Entry Try.prog 27 := ⟨_, Try.func27, by kernel_rfl, by kernel_rfl⟩
@[reducible] noncomputable def impl_Enough.g : Sig := ⟨[.fz tConfig, .fz (.sl (.int .i64)), .fz (.sl (.int .i64))], [.v .bool .z], []⟩
@[reducible] noncomputable def impl_Enough.fk : Nat → denI impl_Enough.g.pms → Option (denR (outTys impl_Enough.g.rts impl_Enough.g.pms)) := fun k x => impl_Enough.f k x.1 x.2.1 x.2.2.1
@[reducible] noncomputable def impl_Enough.sm (k : Nat) : Sm := ⟨27, impl_Enough.g.pms, impl_Enough.g.rts, impl_Enough.fk k⟩
noncomputable def impl_Enough.E (k : Nat) : Env := ⟨tys, [impl_NodesOk.sm k, impl_Holds.sm k, impl_both.sm k, impl_Rest.sm k], [], [], []⟩
noncomputable def impl_Enough.pts : List (Pt (denR (outTys impl_Enough.g.rts impl_Enough.g.pms))) := []
theorem impl_Enough.hf (k : Nat) (a0 : Config) (a1 : (List Int)) (a2 : (List Int)) : (impl_Enough.f k a0 a1 a2 : Option (denR (outTys impl_Enough.g.rts impl_Enough.g.pms))) = evC (impl_Enough.E k) (fun κ s => lhOf k κ s impl_Enough.pts) b27 (OM.start impl_Enough.g.pms 0 (a0, a1, a2, ())) (OM.fin impl_Enough.g Try.f27.results.toList) := by kernel_rfl
theorem impl_Enough.ok (k : Nat) : SmOk Try.prog (impl_Enough.sm k) :=
  sm_ok mixed (E := impl_Enough.E) (pts := impl_Enough.pts) (fun k => ⟨⟨tysOk, by kernel_rfl⟩, forall_cons ⟨impl_NodesOk.ok k, e64⟩ (forall_cons ⟨impl_Holds.ok k, e20⟩ (forall_cons ⟨impl_both.ok k, e87⟩ (forall_cons ⟨impl_Rest.ok k, e99⟩ (forall_nil))))⟩) (fun _ => rfl) (fun _ => rfl)
    ⟨Try.func27, by kernel_rfl, by kernel_rfl, by kernel_rfl, by kernel_rfl, by kernel_rfl, by kernel_rfl⟩ (forall_nil) (fun k x => impl_Enough.hf k x.1 x.2.1 x.2.2.1) k
noncomputable def b143 : Code := Try.f143.body.getD .skip
theorem e143 : OM.Entry Try.prog 143 := ⟨_, Try.func143, by kernel_rfl, by kernel_rfl⟩
@[reducible] noncomputable def impl_PlaceMake.g : Sig := ⟨[.fz (.int .i64), .fz (.int .i64)], [.v (.int .i64) .z, .v .bool .z], []⟩
@[reducible] noncomputable def impl_PlaceMake.fk : Nat → denI impl_PlaceMake.g.pms → Option (denR (outTys impl_PlaceMake.g.rts impl_PlaceMake.g.pms)) := fun k x => impl_PlaceMake.f x.1 x.2.1
@[reducible] noncomputable def impl_PlaceMake.sm (k : Nat) : Sm := ⟨143, impl_PlaceMake.g.pms, impl_PlaceMake.g.rts, impl_PlaceMake.fk k⟩
noncomputable def impl_PlaceMake.E (k : Nat) : Env := ⟨tys, [impl_isEpoch.sm k, impl_isOff.sm k], [], [], []⟩
noncomputable def impl_PlaceMake.pts : List (Pt (denR (outTys impl_PlaceMake.g.rts impl_PlaceMake.g.pms))) := []
theorem impl_PlaceMake.hf (k : Nat) (a0 : Int) (a1 : Int) : (impl_PlaceMake.f a0 a1 : Option (denR (outTys impl_PlaceMake.g.rts impl_PlaceMake.g.pms))) = evC (impl_PlaceMake.E k) (fun κ s => lhOf k κ s impl_PlaceMake.pts) b143 (OM.start impl_PlaceMake.g.pms 0 (a0, a1, ())) (OM.fin impl_PlaceMake.g Try.f143.results.toList) := by kernel_rfl
theorem impl_PlaceMake.ok (k : Nat) : SmOk Try.prog (impl_PlaceMake.sm k) :=
  sm_ok mixed (E := impl_PlaceMake.E) (pts := impl_PlaceMake.pts) (fun k => ⟨⟨tysOk, by kernel_rfl⟩, forall_cons ⟨impl_isEpoch.ok k, e66⟩ (forall_cons ⟨impl_isOff.ok k, e131⟩ (forall_nil))⟩) (fun _ => rfl) (fun _ => rfl)
    ⟨Try.func143, by kernel_rfl, by kernel_rfl, by kernel_rfl, by kernel_rfl, by kernel_rfl, by kernel_rfl⟩ (forall_nil) (fun k x => impl_PlaceMake.hf k x.1 x.2.1) k
noncomputable def b98 : Code := Try.f98.body.getD .skip
theorem e98 : OM.Entry Try.prog 98 := ⟨_, Try.func98, by kernel_rfl, by kernel_rfl⟩
@[reducible] noncomputable def impl_dataOk.g : Sig := ⟨[.fz .str], [.v .bool .z], []⟩
@[reducible] noncomputable def impl_dataOk.fk : Nat → denI impl_dataOk.g.pms → Option (denR (outTys impl_dataOk.g.rts impl_dataOk.g.pms)) := fun k x => impl_dataOk.f x.1
@[reducible] noncomputable def impl_dataOk.sm (k : Nat) : Sm := ⟨98, impl_dataOk.g.pms, impl_dataOk.g.rts, impl_dataOk.fk k⟩
noncomputable def impl_dataOk.E (k : Nat) : Env := ⟨tys, [], [], [], []⟩
noncomputable def impl_dataOk.pts : List (Pt (denR (outTys impl_dataOk.g.rts impl_dataOk.g.pms))) := []
theorem impl_dataOk.hf (k : Nat) (a0 : ByteArray) : (impl_dataOk.f a0 : Option (denR (outTys impl_dataOk.g.rts impl_dataOk.g.pms))) = evC (impl_dataOk.E k) (fun κ s => lhOf k κ s impl_dataOk.pts) b98 (OM.start impl_dataOk.g.pms 0 (a0, ())) (OM.fin impl_dataOk.g Try.f98.results.toList) := by kernel_rfl
theorem impl_dataOk.ok (k : Nat) : SmOk Try.prog (impl_dataOk.sm k) :=
  sm_ok mixed (E := impl_dataOk.E) (pts := impl_dataOk.pts) (fun k => ⟨⟨tysOk, by kernel_rfl⟩, forall_nil⟩) (fun _ => rfl) (fun _ => rfl)
    ⟨Try.func98, by kernel_rfl, by kernel_rfl, by kernel_rfl, by kernel_rfl, by kernel_rfl, by kernel_rfl⟩ (forall_nil) (fun k x => impl_dataOk.hf k x.1) k
noncomputable def b26 : Code := Try.f26.body.getD .skip
theorem e26 : OM.Entry Try.prog 26 := ⟨_, Try.func26, by kernel_rfl, by kernel_rfl⟩
@[reducible] noncomputable def impl_EntryOk.g : Sig := ⟨[.fz tEntry], [.v .bool .z], []⟩
@[reducible] noncomputable def impl_EntryOk.fk : Nat → denI impl_EntryOk.g.pms → Option (denR (outTys impl_EntryOk.g.rts impl_EntryOk.g.pms)) := fun k x => impl_EntryOk.f k x.1
@[reducible] noncomputable def impl_EntryOk.sm (k : Nat) : Sm := ⟨26, impl_EntryOk.g.pms, impl_EntryOk.g.rts, impl_EntryOk.fk k⟩
noncomputable def impl_EntryOk.E (k : Nat) : Env := ⟨tys, [impl_within.sm k, impl_PlaceOk.sm k, impl_EpochOf.sm k, impl_dataOk.sm k], [], [2, 3], []⟩
@[reducible] noncomputable def impl_EntryOk.s4 : List Slot := [.r 4 5 [] tEntry, .v 12 .bool .z [] 0, .v 5 tEntry .z [] 0]
@[reducible] noncomputable def impl_EntryOk.s6 : List Slot := [.r 4 5 [] tEntry, .v 12 .bool .z [] 0, .v 16 .bool .z [] 0, .v 5 tEntry .z [] 0]
noncomputable def impl_EntryOk.pts : List (Pt (denR (outTys impl_EntryOk.g.rts impl_EntryOk.g.pms))) := [⟨4, impl_EntryOk.s4, fun k x => impl_EntryOk.p4 k x.1 x.2.1⟩, ⟨6, impl_EntryOk.s6, fun k x => impl_EntryOk.p6 k x.1 x.2.1 x.2.2.1⟩]
theorem impl_EntryOk.h4 (k : Nat) (x0 : Bool) (x1 : Entry) : (impl_EntryOk.p4 (k + 1) x0 x1 : Option (denR (outTys impl_EntryOk.g.rts impl_EntryOk.g.pms))) = evAt (impl_EntryOk.E k) (fun κ s => lhOf k κ s impl_EntryOk.pts) 4 b26 (unproj impl_EntryOk.s4 (x0, x1, ())) (OM.fin impl_EntryOk.g Try.f26.results.toList) := by kernel_rfl
theorem impl_EntryOk.h6 (k : Nat) (x0 : Bool) (x1 : Bool) (x2 : Entry) : (impl_EntryOk.p6 (k + 1) x0 x1 x2 : Option (denR (outTys impl_EntryOk.g.rts impl_EntryOk.g.pms))) = evAt (impl_EntryOk.E k) (fun κ s => lhOf k κ s impl_EntryOk.pts) 6 b26 (unproj impl_EntryOk.s6 (x0, x1, x2, ())) (OM.fin impl_EntryOk.g Try.f26.results.toList) := by kernel_rfl
theorem impl_EntryOk.hf (k : Nat) (a0 : Entry) : (impl_EntryOk.f k a0 : Option (denR (outTys impl_EntryOk.g.rts impl_EntryOk.g.pms))) = evC (impl_EntryOk.E k) (fun κ s => lhOf k κ s impl_EntryOk.pts) b26 (OM.start impl_EntryOk.g.pms 0 (a0, ())) (OM.fin impl_EntryOk.g Try.f26.results.toList) := by kernel_rfl
theorem impl_EntryOk.ok (k : Nat) : SmOk Try.prog (impl_EntryOk.sm k) :=
  sm_ok mixed (E := impl_EntryOk.E) (pts := impl_EntryOk.pts) (fun k => ⟨⟨tysOk, by kernel_rfl⟩, forall_cons ⟨impl_within.ok k, e67⟩ (forall_cons ⟨impl_PlaceOk.ok k, e63⟩ (forall_cons ⟨impl_EpochOf.ok k, e12⟩ (forall_cons ⟨impl_dataOk.ok k, e98⟩ (forall_nil))))⟩) (fun _ => rfl) (fun _ => rfl)
    ⟨Try.func26, by kernel_rfl, by kernel_rfl, by kernel_rfl, by kernel_rfl, by kernel_rfl, by kernel_rfl⟩ (forall_cons (fun x => ⟨rfl, fun k => impl_EntryOk.h4 k x.1 x.2.1⟩) (forall_cons (fun x => ⟨rfl, fun k => impl_EntryOk.h6 k x.1 x.2.1 x.2.2.1⟩) (forall_nil))) (fun k x => impl_EntryOk.hf k x.1) k
noncomputable def b128 : Code := Try.f128.body.getD .skip
theorem e128 : OM.Entry Try.prog 128 := ⟨_, Try.func128, by kernel_rfl, by kernel_rfl⟩
@[reducible] noncomputable def impl_Better.g : Sig := ⟨[.fz tEntry, .fz tEntry], [.v tEntry .z], []⟩
@[reducible] noncomputable def impl_Better.fk : Nat → denI impl_Better.g.pms → Option (denR (outTys impl_Better.g.rts impl_Better.g.pms)) := fun k x => impl_Better.f x.1 x.2.1
@[reducible] noncomputable def impl_Better.sm (k : Nat) : Sm := ⟨128, impl_Better.g.pms, impl_Better.g.rts, impl_Better.fk k⟩
noncomputable def impl_Better.E (k : Nat) : Env := ⟨tys, [], [], [], []⟩
noncomputable def impl_Better.pts : List (Pt (denR (outTys impl_Better.g.rts impl_Better.g.pms))) := []
theorem impl_Better.hf (k : Nat) (a0 : Entry) (a1 : Entry) : (impl_Better.f a0 a1 : Option (denR (outTys impl_Better.g.rts impl_Better.g.pms))) = evC (impl_Better.E k) (fun κ s => lhOf k κ s impl_Better.pts) b128 (OM.start impl_Better.g.pms 0 (a0, a1, ())) (OM.fin impl_Better.g Try.f128.results.toList) := by kernel_rfl
theorem impl_Better.ok (k : Nat) : SmOk Try.prog (impl_Better.sm k) :=
  sm_ok mixed (E := impl_Better.E) (pts := impl_Better.pts) (fun k => ⟨⟨tysOk, by kernel_rfl⟩, forall_nil⟩) (fun _ => rfl) (fun _ => rfl)
    ⟨Try.func128, by kernel_rfl, by kernel_rfl, by kernel_rfl, by kernel_rfl, by kernel_rfl, by kernel_rfl⟩ (forall_nil) (fun k x => impl_Better.hf k x.1 x.2.1) k
noncomputable def b144 : Code := Try.f144.body.getD .skip
theorem e144 : OM.Entry Try.prog 144 := ⟨_, Try.func144, by kernel_rfl, by kernel_rfl⟩
@[reducible] noncomputable def impl_bestOf.g : Sig := ⟨[.fz (.sl tAnswer), .fz (.sl (.int .i64)), .fz (.int .i64)], [.v tEntry .z, .v .bool .z], []⟩
@[reducible] noncomputable def impl_bestOf.fk : Nat → denI impl_bestOf.g.pms → Option (denR (outTys impl_bestOf.g.rts impl_bestOf.g.pms)) := fun k x => impl_bestOf.f k x.1 x.2.1 x.2.2.1
@[reducible] noncomputable def impl_bestOf.sm (k : Nat) : Sm := ⟨144, impl_bestOf.g.pms, impl_bestOf.g.rts, impl_bestOf.fk k⟩
noncomputable def impl_bestOf.E (k : Nat) : Env := ⟨tys, [slices_Contains_int_int.sm k, impl_EntryOk.sm k, impl_Better.sm k], [18], [], []⟩
@[reducible] noncomputable def impl_bestOf.s7 : List Slot := [.v 4 (.sl (.int .i64)) .z [] 0, .v 8 (.int .i64) .z [] 0, .r 24 25 [] tEntry, .r 32 33 [] tEntry, .v 36 .bool .z [] 0, .v 52 (.sl tAnswer) .z [] 0, .v 56 (.int .i64) .z [] 0, .v 60 (.int .i64) .z [] 0, .v 25 tEntry .z [] 0, .v 33 tEntry .z [] 0]
noncomputable def impl_bestOf.pts : List (Pt (denR (outTys impl_bestOf.g.rts impl_bestOf.g.pms))) := [⟨7, impl_bestOf.s7, fun k x => impl_bestOf.p7 k x.1 x.2.1 x.2.2.1 x.2.2.2.1 x.2.2.2.2.1 x.2.2.2.2.2.1 x.2.2.2.2.2.2.1 x.2.2.2.2.2.2.2.1⟩]
theorem impl_bestOf.h7 (k : Nat) (x0 : (List Int)) (x1 : Int) (x2 : Bool) (x3 : (List Answer)) (x4 : Int) (x5 : Int) (x6 : Entry) (x7 : Entry) : (impl_bestOf.p7 (k + 1) x0 x1 x2 x3 x4 x5 x6 x7 : Option (denR (outTys impl_bestOf.g.rts impl_bestOf.g.pms))) = evAt (impl_bestOf.E k) (fun κ s => lhOf k κ s impl_bestOf.pts) 7 b144 (unproj impl_bestOf.s7 (x0, x1, x2, x3, x4, x5, x6, x7, ())) (OM.fin impl_bestOf.g Try.f144.results.toList) := by kernel_rfl
theorem impl_bestOf.hf (k : Nat) (a0 : (List Answer)) (a1 : (List Int)) (a2 : Int) : (impl_bestOf.f k a0 a1 a2 : Option (denR (outTys impl_bestOf.g.rts impl_bestOf.g.pms))) = evC (impl_bestOf.E k) (fun κ s => lhOf k κ s impl_bestOf.pts) b144 (OM.start impl_bestOf.g.pms 0 (a0, a1, a2, ())) (OM.fin impl_bestOf.g Try.f144.results.toList) := by kernel_rfl
theorem impl_bestOf.ok (k : Nat) : SmOk Try.prog (impl_bestOf.sm k) :=
  sm_ok mixed (E := impl_bestOf.E) (pts := impl_bestOf.pts) (fun k => ⟨⟨tysOk, by kernel_rfl⟩, forall_cons ⟨slices_Contains_int_int.ok k, e137⟩ (forall_cons ⟨impl_EntryOk.ok k, e26⟩ (forall_cons ⟨impl_Better.ok k, e128⟩ (forall_nil)))⟩) (fun _ => rfl) (fun _ => rfl)
    ⟨Try.func144, by kernel_rfl, by kernel_rfl, by kernel_rfl, by kernel_rfl, by kernel_rfl, by kernel_rfl⟩ (forall_cons (fun x => ⟨rfl, fun k => impl_bestOf.h7 k x.1 x.2.1 x.2.2.1 x.2.2.2.1 x.2.2.2.2.1 x.2.2.2.2.2.1 x.2.2.2.2.2.2.1 x.2.2.2.2.2.2.2.1⟩) (forall_nil)) (fun k x => impl_bestOf.hf k x.1 x.2.1 x.2.2.1) k
noncomputable def b88 : Code := Try.f88.body.getD .skip
theorem e88 : OM.Entry Try.prog 88 := ⟨_, Try.func88, by kernel_rfl, by kernel_rfl⟩
@[reducible] noncomputable def impl_Reader_found.g : Sig := ⟨[.ptr tReader (.two .z (.two .z (.two (.own .z) .z))) (.two .z (.two .z (.two (.own .z) .z))), .fz (.sl tAnswer), .fz (.sl (.int .i64))], [], []⟩
@[reducible] noncomputable def impl_Reader_found.fk : Nat → denI impl_Reader_found.g.pms → Option (denR (outTys impl_Reader_found.g.rts impl_Reader_found.g.pms)) := fun k x => impl_Reader_found.f k x.1 x.2.1 x.2.2.1
@[reducible] noncomputable def impl_Reader_found.sm (k : Nat) : Sm := ⟨88, impl_Reader_found.g.pms, impl_Reader_found.g.rts, impl_Reader_found.fk k⟩
noncomputable def impl_Reader_found.E (k : Nat) : Env := ⟨tys, [impl_Reader_tell.sm k, impl_PlaceMake.sm k, impl_bestOf.sm k], [30, 32, 39, 46], [], []⟩
noncomputable def impl_Reader_found.pts : List (Pt (denR (outTys impl_Reader_found.g.rts impl_Reader_found.g.pms))) := []
theorem impl_Reader_found.hf (k : Nat) (a0 : Reader) (a1 : (List Answer)) (a2 : (List Int)) : (impl_Reader_found.f k a0 a1 a2 : Option (denR (outTys impl_Reader_found.g.rts impl_Reader_found.g.pms))) = evC (impl_Reader_found.E k) (fun κ s => lhOf k κ s impl_Reader_found.pts) b88 (OM.start impl_Reader_found.g.pms 0 (a0, a1, a2, ())) (OM.fin impl_Reader_found.g Try.f88.results.toList) := by kernel_rfl
theorem impl_Reader_found.ok (k : Nat) : SmOk Try.prog (impl_Reader_found.sm k) :=
  sm_ok mixed (E := impl_Reader_found.E) (pts := impl_Reader_found.pts) (fun k => ⟨⟨tysOk, by kernel_rfl⟩, forall_cons ⟨impl_Reader_tell.ok k, e86⟩ (forall_cons ⟨impl_PlaceMake.ok k, e143⟩ (forall_cons ⟨impl_bestOf.ok k, e144⟩ (forall_nil)))⟩) (fun _ => rfl) (fun _ => rfl)
    ⟨Try.func88, by kernel_rfl, by kernel_rfl, by kernel_rfl, by kernel_rfl, by kernel_rfl, by kernel_rfl⟩ (forall_nil) (fun k x => impl_Reader_found.hf k x.1 x.2.1 x.2.2.1) k
noncomputable def b23 : Code := Try.f23.body.getD .skip
theorem e23 : OM.Entry Try.prog 23 := ⟨_, Try.func23, by kernel_rfl, by kernel_rfl⟩
@[reducible] noncomputable def impl_ReaderNext.g : Sig := ⟨[.fz tConfig, .fz tRegister, .fz (.int .i64), .fz tReader, .fz (.sl tAnswer)], [.v tReader (.two .z (.two .z (.two (.own .z) .z))), .v (.int .i64) .z], []⟩
@[reducible] noncomputable def impl_ReaderNext.fk : Nat → denI impl_ReaderNext.g.pms → Option (denR (outTys impl_ReaderNext.g.rts impl_ReaderNext.g.pms)) := fun k x => impl_ReaderNext.f k x.1 x.2.1 x.2.2.1 x.2.2.2.1 x.2.2.2.2.1
@[reducible] noncomputable def impl_ReaderNext.sm (k : Nat) : Sm := ⟨23, impl_ReaderNext.g.pms, impl_ReaderNext.g.rts, impl_ReaderNext.fk k⟩
noncomputable def impl_ReaderNext.E (k : Nat) : Env := ⟨tys, [impl_NodesOk.sm k, impl_EpochOf.sm k, impl_RegOk.sm k, impl_ReaderOk.sm k, impl_nodesOf.sm k, impl_copyReader.sm k, impl_OffOf.sm k, impl_isAhead.sm k, impl_both.sm k, impl_Reader_tell.sm k, impl_Enough.sm k, impl_Reader_found.sm k], [77], [10], []⟩
@[reducible] noncomputable def impl_ReaderNext.s20 : List Slot := [.v 8 (.int .i64) .z [] 0, .v 16 (.sl tAnswer) .z [] 0, .r 20 21 [] tConfig, .r 24 25 [] tRegister, .r 32 33 [] tReader, .r 40 41 [] tReader, .r 48 49 [] tReader, .v 21 tConfig .z [] 0, .v 25 tRegister .z [] 0, .v 33 tReader .z [] 0, .v 41 tReader (.two .z (.two .z (.two (.own .a) .z))) [] 0, .v 49 tReader (.two .z (.two .z (.two (.own .z) .z))) [] 0]
noncomputable def impl_ReaderNext.pts : List (Pt (denR (outTys impl_ReaderNext.g.rts impl_ReaderNext.g.pms))) := [⟨20, impl_ReaderNext.s20, fun k x => impl_ReaderNext.p20 k x.1 x.2.1 x.2.2.1 x.2.2.2.1 x.2.2.2.2.1 x.2.2.2.2.2.1 x.2.2.2.2.2.2.1⟩]
theorem impl_ReaderNext.h20 (k : Nat) (x0 : Int) (x1 : (List Answer)) (x2 : Config) (x3 : Register) (x4 : Reader) (x5 : Reader) (x6 : Reader) : (impl_ReaderNext.p20 (k + 1) x0 x1 x2 x3 x4 x5 x6 : Option (denR (outTys impl_ReaderNext.g.rts impl_ReaderNext.g.pms))) = evAt (impl_ReaderNext.E k) (fun κ s => lhOf k κ s impl_ReaderNext.pts) 20 b23 (unproj impl_ReaderNext.s20 (x0, x1, x2, x3, x4, x5, x6, ())) (OM.fin impl_ReaderNext.g Try.f23.results.toList) := by kernel_rfl
theorem impl_ReaderNext.hf (k : Nat) (a0 : Config) (a1 : Register) (a2 : Int) (a3 : Reader) (a4 : (List Answer)) : (impl_ReaderNext.f k a0 a1 a2 a3 a4 : Option (denR (outTys impl_ReaderNext.g.rts impl_ReaderNext.g.pms))) = evC (impl_ReaderNext.E k) (fun κ s => lhOf k κ s impl_ReaderNext.pts) b23 (OM.start impl_ReaderNext.g.pms 0 (a0, a1, a2, a3, a4, ())) (OM.fin impl_ReaderNext.g Try.f23.results.toList) := by kernel_rfl
theorem impl_ReaderNext.ok (k : Nat) : SmOk Try.prog (impl_ReaderNext.sm k) :=
  sm_ok mixed (E := impl_ReaderNext.E) (pts := impl_ReaderNext.pts) (fun k => ⟨⟨tysOk, by kernel_rfl⟩, forall_cons ⟨impl_NodesOk.ok k, e64⟩ (forall_cons ⟨impl_EpochOf.ok k, e12⟩ (forall_cons ⟨impl_RegOk.ok k, e82⟩ (forall_cons ⟨impl_ReaderOk.ok k, e30⟩ (forall_cons ⟨impl_nodesOf.ok k, e83⟩ (forall_cons ⟨impl_copyReader.ok k, e84⟩ (forall_cons ⟨impl_OffOf.ok k, e28⟩ (forall_cons ⟨impl_isAhead.ok k, e85⟩ (forall_cons ⟨impl_both.ok k, e87⟩ (forall_cons ⟨impl_Reader_tell.ok k, e86⟩ (forall_cons ⟨impl_Enough.ok k, e27⟩ (forall_cons ⟨impl_Reader_found.ok k, e88⟩ (forall_nil))))))))))))⟩) (fun _ => rfl) (fun _ => rfl)
    ⟨Try.func23, by kernel_rfl, by kernel_rfl, by kernel_rfl, by kernel_rfl, by kernel_rfl, by kernel_rfl⟩ (forall_cons (fun x => ⟨rfl, fun k => impl_ReaderNext.h20 k x.1 x.2.1 x.2.2.1 x.2.2.2.1 x.2.2.2.2.1 x.2.2.2.2.2.1 x.2.2.2.2.2.2.1⟩) (forall_nil)) (fun k x => impl_ReaderNext.hf k x.1 x.2.1 x.2.2.1 x.2.2.2.1 x.2.2.2.2.1) k
noncomputable def b154 : Code := Try.f154.body.getD .skip
theorem e154 : OM.Entry Try.prog 154 := ⟨_, Try.func154, by kernel_rfl, by kernel_rfl⟩
@[reducible] noncomputable def laws_eqEvent.g : Sig := ⟨[.fz tEvent, .fz tEvent], [.v .bool .z], []⟩
@[reducible] noncomputable def laws_eqEvent.fk : Nat → denI laws_eqEvent.g.pms → Option (denR (outTys laws_eqEvent.g.rts laws_eqEvent.g.pms)) := fun k x => laws_eqEvent.f x.1 x.2.1
@[reducible] noncomputable def laws_eqEvent.sm (k : Nat) : Sm := ⟨154, laws_eqEvent.g.pms, laws_eqEvent.g.rts, laws_eqEvent.fk k⟩
noncomputable def laws_eqEvent.E (k : Nat) : Env := ⟨tys, [], [], [], []⟩
noncomputable def laws_eqEvent.pts : List (Pt (denR (outTys laws_eqEvent.g.rts laws_eqEvent.g.pms))) := []
theorem laws_eqEvent.hf (k : Nat) (a0 : Event) (a1 : Event) : (laws_eqEvent.f a0 a1 : Option (denR (outTys laws_eqEvent.g.rts laws_eqEvent.g.pms))) = evC (laws_eqEvent.E k) (fun κ s => lhOf k κ s laws_eqEvent.pts) b154 (OM.start laws_eqEvent.g.pms 0 (a0, a1, ())) (OM.fin laws_eqEvent.g Try.f154.results.toList) := by kernel_rfl
theorem laws_eqEvent.ok (k : Nat) : SmOk Try.prog (laws_eqEvent.sm k) :=
  sm_ok mixed (E := laws_eqEvent.E) (pts := laws_eqEvent.pts) (fun k => ⟨⟨tysOk, by kernel_rfl⟩, forall_nil⟩) (fun _ => rfl) (fun _ => rfl)
    ⟨Try.func154, by kernel_rfl, by kernel_rfl, by kernel_rfl, by kernel_rfl, by kernel_rfl, by kernel_rfl⟩ (forall_nil) (fun k x => laws_eqEvent.hf k x.1 x.2.1) k
noncomputable def b108 : Code := Try.f108.body.getD .skip
theorem e108 : OM.Entry Try.prog 108 := ⟨_, Try.func108, by kernel_rfl, by kernel_rfl⟩
@[reducible] noncomputable def laws_eqEventS.g : Sig := ⟨[.fz (.sl tEvent), .fz (.sl tEvent)], [.v .bool .z], []⟩
@[reducible] noncomputable def laws_eqEventS.fk : Nat → denI laws_eqEventS.g.pms → Option (denR (outTys laws_eqEventS.g.rts laws_eqEventS.g.pms)) := fun k x => laws_eqEventS.f k x.1 x.2.1
@[reducible] noncomputable def laws_eqEventS.sm (k : Nat) : Sm := ⟨108, laws_eqEventS.g.pms, laws_eqEventS.g.rts, laws_eqEventS.fk k⟩
noncomputable def laws_eqEventS.E (k : Nat) : Env := ⟨tys, [laws_eqEvent.sm k], [], [], []⟩
@[reducible] noncomputable def laws_eqEventS.s9 : List Slot := [.v 0 (.sl tEvent) .z [] 0, .v 4 (.sl tEvent) .z [] 0, .v 20 (.int .i64) .z [] 0]
noncomputable def laws_eqEventS.pts : List (Pt (denR (outTys laws_eqEventS.g.rts laws_eqEventS.g.pms))) := [⟨9, laws_eqEventS.s9, fun k x => laws_eqEventS.p9 k x.1 x.2.1 x.2.2.1⟩]
theorem laws_eqEventS.h9 (k : Nat) (x0 : (List Event)) (x1 : (List Event)) (x2 : Int) : (laws_eqEventS.p9 (k + 1) x0 x1 x2 : Option (denR (outTys laws_eqEventS.g.rts laws_eqEventS.g.pms))) = evAt (laws_eqEventS.E k) (fun κ s => lhOf k κ s laws_eqEventS.pts) 9 b108 (unproj laws_eqEventS.s9 (x0, x1, x2, ())) (OM.fin laws_eqEventS.g Try.f108.results.toList) := by kernel_rfl
theorem laws_eqEventS.hf (k : Nat) (a0 : (List Event)) (a1 : (List Event)) : (laws_eqEventS.f k a0 a1 : Option (denR (outTys laws_eqEventS.g.rts laws_eqEventS.g.pms))) = evC (laws_eqEventS.E k) (fun κ s => lhOf k κ s laws_eqEventS.pts) b108 (OM.start laws_eqEventS.g.pms 0 (a0, a1, ())) (OM.fin laws_eqEventS.g Try.f108.results.toList) := by kernel_rfl
theorem laws_eqEventS.ok (k : Nat) : SmOk Try.prog (laws_eqEventS.sm k) :=
  sm_ok mixed (E := laws_eqEventS.E) (pts := laws_eqEventS.pts) (fun k => ⟨⟨tysOk, by kernel_rfl⟩, forall_cons ⟨laws_eqEvent.ok k, e154⟩ (forall_nil)⟩) (fun _ => rfl) (fun _ => rfl)
    ⟨Try.func108, by kernel_rfl, by kernel_rfl, by kernel_rfl, by kernel_rfl, by kernel_rfl, by kernel_rfl⟩ (forall_cons (fun x => ⟨rfl, fun k => laws_eqEventS.h9 k x.1 x.2.1 x.2.2.1⟩) (forall_nil)) (fun k x => laws_eqEventS.hf k x.1 x.2.1) k
noncomputable def b39 : Code := Try.f39.body.getD .skip
theorem e39 : OM.Entry Try.prog 39 := ⟨_, Try.func39, by kernel_rfl, by kernel_rfl⟩
@[reducible] noncomputable def laws_eqReader.g : Sig := ⟨[.fz tReader, .fz tReader], [.v .bool .z], []⟩
@[reducible] noncomputable def laws_eqReader.fk : Nat → denI laws_eqReader.g.pms → Option (denR (outTys laws_eqReader.g.rts laws_eqReader.g.pms)) := fun k x => laws_eqReader.f k x.1 x.2.1
@[reducible] noncomputable def laws_eqReader.sm (k : Nat) : Sm := ⟨39, laws_eqReader.g.pms, laws_eqReader.g.rts, laws_eqReader.fk k⟩
noncomputable def laws_eqReader.E (k : Nat) : Env := ⟨tys, [laws_eqEventS.sm k], [], [], []⟩
noncomputable def laws_eqReader.pts : List (Pt (denR (outTys laws_eqReader.g.rts laws_eqReader.g.pms))) := []
theorem laws_eqReader.hf (k : Nat) (a0 : Reader) (a1 : Reader) : (laws_eqReader.f k a0 a1 : Option (denR (outTys laws_eqReader.g.rts laws_eqReader.g.pms))) = evC (laws_eqReader.E k) (fun κ s => lhOf k κ s laws_eqReader.pts) b39 (OM.start laws_eqReader.g.pms 0 (a0, a1, ())) (OM.fin laws_eqReader.g Try.f39.results.toList) := by kernel_rfl
theorem laws_eqReader.ok (k : Nat) : SmOk Try.prog (laws_eqReader.sm k) :=
  sm_ok mixed (E := laws_eqReader.E) (pts := laws_eqReader.pts) (fun k => ⟨⟨tysOk, by kernel_rfl⟩, forall_cons ⟨laws_eqEventS.ok k, e108⟩ (forall_nil)⟩) (fun _ => rfl) (fun _ => rfl)
    ⟨Try.func39, by kernel_rfl, by kernel_rfl, by kernel_rfl, by kernel_rfl, by kernel_rfl, by kernel_rfl⟩ (forall_nil) (fun k x => laws_eqReader.hf k x.1 x.2.1) k
noncomputable def b109 : Code := Try.f109.body.getD .skip
theorem e109 : OM.Entry Try.prog 109 := ⟨_, Try.func109, by kernel_rfl, by kernel_rfl⟩
@[reducible] noncomputable def laws_eqIntS.g : Sig := ⟨[.fz (.sl (.int .i64)), .fz (.sl (.int .i64))], [.v .bool .z], []⟩
@[reducible] noncomputable def laws_eqIntS.fk : Nat → denI laws_eqIntS.g.pms → Option (denR (outTys laws_eqIntS.g.rts laws_eqIntS.g.pms)) := fun k x => laws_eqIntS.f k x.1 x.2.1
@[reducible] noncomputable def laws_eqIntS.sm (k : Nat) : Sm := ⟨109, laws_eqIntS.g.pms, laws_eqIntS.g.rts, laws_eqIntS.fk k⟩
noncomputable def laws_eqIntS.E (k : Nat) : Env := ⟨tys, [], [], [], []⟩
@[reducible] noncomputable def laws_eqIntS.s9 : List Slot := [.v 0 (.sl (.int .i64)) .z [] 0, .v 4 (.sl (.int .i64)) .z [] 0, .v 20 (.int .i64) .z [] 0]
noncomputable def laws_eqIntS.pts : List (Pt (denR (outTys laws_eqIntS.g.rts laws_eqIntS.g.pms))) := [⟨9, laws_eqIntS.s9, fun k x => laws_eqIntS.p9 k x.1 x.2.1 x.2.2.1⟩]
theorem laws_eqIntS.h9 (k : Nat) (x0 : (List Int)) (x1 : (List Int)) (x2 : Int) : (laws_eqIntS.p9 (k + 1) x0 x1 x2 : Option (denR (outTys laws_eqIntS.g.rts laws_eqIntS.g.pms))) = evAt (laws_eqIntS.E k) (fun κ s => lhOf k κ s laws_eqIntS.pts) 9 b109 (unproj laws_eqIntS.s9 (x0, x1, x2, ())) (OM.fin laws_eqIntS.g Try.f109.results.toList) := by kernel_rfl
theorem laws_eqIntS.hf (k : Nat) (a0 : (List Int)) (a1 : (List Int)) : (laws_eqIntS.f k a0 a1 : Option (denR (outTys laws_eqIntS.g.rts laws_eqIntS.g.pms))) = evC (laws_eqIntS.E k) (fun κ s => lhOf k κ s laws_eqIntS.pts) b109 (OM.start laws_eqIntS.g.pms 0 (a0, a1, ())) (OM.fin laws_eqIntS.g Try.f109.results.toList) := by kernel_rfl
theorem laws_eqIntS.ok (k : Nat) : SmOk Try.prog (laws_eqIntS.sm k) :=
  sm_ok mixed (E := laws_eqIntS.E) (pts := laws_eqIntS.pts) (fun k => ⟨⟨tysOk, by kernel_rfl⟩, forall_nil⟩) (fun _ => rfl) (fun _ => rfl)
    ⟨Try.func109, by kernel_rfl, by kernel_rfl, by kernel_rfl, by kernel_rfl, by kernel_rfl, by kernel_rfl⟩ (forall_cons (fun x => ⟨rfl, fun k => laws_eqIntS.h9 k x.1 x.2.1 x.2.2.1⟩) (forall_nil)) (fun k x => laws_eqIntS.hf k x.1 x.2.1) k
noncomputable def b40 : Code := Try.f40.body.getD .skip
theorem e40 : OM.Entry Try.prog 40 := ⟨_, Try.func40, by kernel_rfl, by kernel_rfl⟩
@[reducible] noncomputable def laws_eqConfig.g : Sig := ⟨[.fz tConfig, .fz tConfig], [.v .bool .z], []⟩
@[reducible] noncomputable def laws_eqConfig.fk : Nat → denI laws_eqConfig.g.pms → Option (denR (outTys laws_eqConfig.g.rts laws_eqConfig.g.pms)) := fun k x => laws_eqConfig.f k x.1 x.2.1
@[reducible] noncomputable def laws_eqConfig.sm (k : Nat) : Sm := ⟨40, laws_eqConfig.g.pms, laws_eqConfig.g.rts, laws_eqConfig.fk k⟩
noncomputable def laws_eqConfig.E (k : Nat) : Env := ⟨tys, [laws_eqIntS.sm k], [], [], []⟩
noncomputable def laws_eqConfig.pts : List (Pt (denR (outTys laws_eqConfig.g.rts laws_eqConfig.g.pms))) := []
theorem laws_eqConfig.hf (k : Nat) (a0 : Config) (a1 : Config) : (laws_eqConfig.f k a0 a1 : Option (denR (outTys laws_eqConfig.g.rts laws_eqConfig.g.pms))) = evC (laws_eqConfig.E k) (fun κ s => lhOf k κ s laws_eqConfig.pts) b40 (OM.start laws_eqConfig.g.pms 0 (a0, a1, ())) (OM.fin laws_eqConfig.g Try.f40.results.toList) := by kernel_rfl
theorem laws_eqConfig.ok (k : Nat) : SmOk Try.prog (laws_eqConfig.sm k) :=
  sm_ok mixed (E := laws_eqConfig.E) (pts := laws_eqConfig.pts) (fun k => ⟨⟨tysOk, by kernel_rfl⟩, forall_cons ⟨laws_eqIntS.ok k, e109⟩ (forall_nil)⟩) (fun _ => rfl) (fun _ => rfl)
    ⟨Try.func40, by kernel_rfl, by kernel_rfl, by kernel_rfl, by kernel_rfl, by kernel_rfl, by kernel_rfl⟩ (forall_nil) (fun k x => laws_eqConfig.hf k x.1 x.2.1) k
noncomputable def b155 : Code := Try.f155.body.getD .skip
theorem e155 : OM.Entry Try.prog 155 := ⟨_, Try.func155, by kernel_rfl, by kernel_rfl⟩
@[reducible] noncomputable def laws_eqEra.g : Sig := ⟨[.fz tEra, .fz tEra], [.v .bool .z], []⟩
@[reducible] noncomputable def laws_eqEra.fk : Nat → denI laws_eqEra.g.pms → Option (denR (outTys laws_eqEra.g.rts laws_eqEra.g.pms)) := fun k x => laws_eqEra.f k x.1 x.2.1
@[reducible] noncomputable def laws_eqEra.sm (k : Nat) : Sm := ⟨155, laws_eqEra.g.pms, laws_eqEra.g.rts, laws_eqEra.fk k⟩
noncomputable def laws_eqEra.E (k : Nat) : Env := ⟨tys, [laws_eqIntS.sm k], [], [], [4]⟩
noncomputable def laws_eqEra.pts : List (Pt (denR (outTys laws_eqEra.g.rts laws_eqEra.g.pms))) := []
theorem laws_eqEra.hf (k : Nat) (a0 : Era) (a1 : Era) : (laws_eqEra.f k a0 a1 : Option (denR (outTys laws_eqEra.g.rts laws_eqEra.g.pms))) = evC (laws_eqEra.E k) (fun κ s => lhOf k κ s laws_eqEra.pts) b155 (OM.start laws_eqEra.g.pms 0 (a0, a1, ())) (OM.fin laws_eqEra.g Try.f155.results.toList) := by kernel_rfl
theorem laws_eqEra.ok (k : Nat) : SmOk Try.prog (laws_eqEra.sm k) :=
  sm_ok mixed (E := laws_eqEra.E) (pts := laws_eqEra.pts) (fun k => ⟨⟨tysOk, by kernel_rfl⟩, forall_cons ⟨laws_eqIntS.ok k, e109⟩ (forall_nil)⟩) (fun _ => rfl) (fun _ => rfl)
    ⟨Try.func155, by kernel_rfl, by kernel_rfl, by kernel_rfl, by kernel_rfl, by kernel_rfl, by kernel_rfl⟩ (forall_nil) (fun k x => laws_eqEra.hf k x.1 x.2.1) k
noncomputable def b110 : Code := Try.f110.body.getD .skip
theorem e110 : OM.Entry Try.prog 110 := ⟨_, Try.func110, by kernel_rfl, by kernel_rfl⟩
@[reducible] noncomputable def laws_eqEraS.g : Sig := ⟨[.fz (.sl tEra), .fz (.sl tEra)], [.v .bool .z], []⟩
@[reducible] noncomputable def laws_eqEraS.fk : Nat → denI laws_eqEraS.g.pms → Option (denR (outTys laws_eqEraS.g.rts laws_eqEraS.g.pms)) := fun k x => laws_eqEraS.f k x.1 x.2.1
@[reducible] noncomputable def laws_eqEraS.sm (k : Nat) : Sm := ⟨110, laws_eqEraS.g.pms, laws_eqEraS.g.rts, laws_eqEraS.fk k⟩
noncomputable def laws_eqEraS.E (k : Nat) : Env := ⟨tys, [laws_eqEra.sm k], [], [], []⟩
@[reducible] noncomputable def laws_eqEraS.s9 : List Slot := [.v 0 (.sl tEra) .z [] 0, .v 4 (.sl tEra) .z [] 0, .v 20 (.int .i64) .z [] 0]
noncomputable def laws_eqEraS.pts : List (Pt (denR (outTys laws_eqEraS.g.rts laws_eqEraS.g.pms))) := [⟨9, laws_eqEraS.s9, fun k x => laws_eqEraS.p9 k x.1 x.2.1 x.2.2.1⟩]
theorem laws_eqEraS.h9 (k : Nat) (x0 : (List Era)) (x1 : (List Era)) (x2 : Int) : (laws_eqEraS.p9 (k + 1) x0 x1 x2 : Option (denR (outTys laws_eqEraS.g.rts laws_eqEraS.g.pms))) = evAt (laws_eqEraS.E k) (fun κ s => lhOf k κ s laws_eqEraS.pts) 9 b110 (unproj laws_eqEraS.s9 (x0, x1, x2, ())) (OM.fin laws_eqEraS.g Try.f110.results.toList) := by kernel_rfl
theorem laws_eqEraS.hf (k : Nat) (a0 : (List Era)) (a1 : (List Era)) : (laws_eqEraS.f k a0 a1 : Option (denR (outTys laws_eqEraS.g.rts laws_eqEraS.g.pms))) = evC (laws_eqEraS.E k) (fun κ s => lhOf k κ s laws_eqEraS.pts) b110 (OM.start laws_eqEraS.g.pms 0 (a0, a1, ())) (OM.fin laws_eqEraS.g Try.f110.results.toList) := by kernel_rfl
theorem laws_eqEraS.ok (k : Nat) : SmOk Try.prog (laws_eqEraS.sm k) :=
  sm_ok mixed (E := laws_eqEraS.E) (pts := laws_eqEraS.pts) (fun k => ⟨⟨tysOk, by kernel_rfl⟩, forall_cons ⟨laws_eqEra.ok k, e155⟩ (forall_nil)⟩) (fun _ => rfl) (fun _ => rfl)
    ⟨Try.func110, by kernel_rfl, by kernel_rfl, by kernel_rfl, by kernel_rfl, by kernel_rfl, by kernel_rfl⟩ (forall_cons (fun x => ⟨rfl, fun k => laws_eqEraS.h9 k x.1 x.2.1 x.2.2.1⟩) (forall_nil)) (fun k x => laws_eqEraS.hf k x.1 x.2.1) k
noncomputable def b41 : Code := Try.f41.body.getD .skip
theorem e41 : OM.Entry Try.prog 41 := ⟨_, Try.func41, by kernel_rfl, by kernel_rfl⟩
@[reducible] noncomputable def laws_eqRegister.g : Sig := ⟨[.fz tRegister, .fz tRegister], [.v .bool .z], []⟩
@[reducible] noncomputable def laws_eqRegister.fk : Nat → denI laws_eqRegister.g.pms → Option (denR (outTys laws_eqRegister.g.rts laws_eqRegister.g.pms)) := fun k x => laws_eqRegister.f k x.1 x.2.1
@[reducible] noncomputable def laws_eqRegister.sm (k : Nat) : Sm := ⟨41, laws_eqRegister.g.pms, laws_eqRegister.g.rts, laws_eqRegister.fk k⟩
noncomputable def laws_eqRegister.E (k : Nat) : Env := ⟨tys, [laws_eqEraS.sm k], [], [], []⟩
noncomputable def laws_eqRegister.pts : List (Pt (denR (outTys laws_eqRegister.g.rts laws_eqRegister.g.pms))) := []
theorem laws_eqRegister.hf (k : Nat) (a0 : Register) (a1 : Register) : (laws_eqRegister.f k a0 a1 : Option (denR (outTys laws_eqRegister.g.rts laws_eqRegister.g.pms))) = evC (laws_eqRegister.E k) (fun κ s => lhOf k κ s laws_eqRegister.pts) b41 (OM.start laws_eqRegister.g.pms 0 (a0, a1, ())) (OM.fin laws_eqRegister.g Try.f41.results.toList) := by kernel_rfl
theorem laws_eqRegister.ok (k : Nat) : SmOk Try.prog (laws_eqRegister.sm k) :=
  sm_ok mixed (E := laws_eqRegister.E) (pts := laws_eqRegister.pts) (fun k => ⟨⟨tysOk, by kernel_rfl⟩, forall_cons ⟨laws_eqEraS.ok k, e110⟩ (forall_nil)⟩) (fun _ => rfl) (fun _ => rfl)
    ⟨Try.func41, by kernel_rfl, by kernel_rfl, by kernel_rfl, by kernel_rfl, by kernel_rfl, by kernel_rfl⟩ (forall_nil) (fun k x => laws_eqRegister.hf k x.1 x.2.1) k
noncomputable def b156 : Code := Try.f156.body.getD .skip
theorem e156 : OM.Entry Try.prog 156 := ⟨_, Try.func156, by kernel_rfl, by kernel_rfl⟩
@[reducible] noncomputable def laws_eqEntry.g : Sig := ⟨[.fz tEntry, .fz tEntry], [.v .bool .z], []⟩
@[reducible] noncomputable def laws_eqEntry.fk : Nat → denI laws_eqEntry.g.pms → Option (denR (outTys laws_eqEntry.g.rts laws_eqEntry.g.pms)) := fun k x => laws_eqEntry.f x.1 x.2.1
@[reducible] noncomputable def laws_eqEntry.sm (k : Nat) : Sm := ⟨156, laws_eqEntry.g.pms, laws_eqEntry.g.rts, laws_eqEntry.fk k⟩
noncomputable def laws_eqEntry.E (k : Nat) : Env := ⟨tys, [], [], [], [4]⟩
noncomputable def laws_eqEntry.pts : List (Pt (denR (outTys laws_eqEntry.g.rts laws_eqEntry.g.pms))) := []
theorem laws_eqEntry.hf (k : Nat) (a0 : Entry) (a1 : Entry) : (laws_eqEntry.f a0 a1 : Option (denR (outTys laws_eqEntry.g.rts laws_eqEntry.g.pms))) = evC (laws_eqEntry.E k) (fun κ s => lhOf k κ s laws_eqEntry.pts) b156 (OM.start laws_eqEntry.g.pms 0 (a0, a1, ())) (OM.fin laws_eqEntry.g Try.f156.results.toList) := by kernel_rfl
theorem laws_eqEntry.ok (k : Nat) : SmOk Try.prog (laws_eqEntry.sm k) :=
  sm_ok mixed (E := laws_eqEntry.E) (pts := laws_eqEntry.pts) (fun k => ⟨⟨tysOk, by kernel_rfl⟩, forall_nil⟩) (fun _ => rfl) (fun _ => rfl)
    ⟨Try.func156, by kernel_rfl, by kernel_rfl, by kernel_rfl, by kernel_rfl, by kernel_rfl, by kernel_rfl⟩ (forall_nil) (fun k x => laws_eqEntry.hf k x.1 x.2.1) k
noncomputable def b111 : Code := Try.f111.body.getD .skip
theorem e111 : OM.Entry Try.prog 111 := ⟨_, Try.func111, by kernel_rfl, by kernel_rfl⟩
@[reducible] noncomputable def laws_eqAnswer.g : Sig := ⟨[.fz tAnswer, .fz tAnswer], [.v .bool .z], []⟩
@[reducible] noncomputable def laws_eqAnswer.fk : Nat → denI laws_eqAnswer.g.pms → Option (denR (outTys laws_eqAnswer.g.rts laws_eqAnswer.g.pms)) := fun k x => laws_eqAnswer.f x.1 x.2.1
@[reducible] noncomputable def laws_eqAnswer.sm (k : Nat) : Sm := ⟨111, laws_eqAnswer.g.pms, laws_eqAnswer.g.rts, laws_eqAnswer.fk k⟩
noncomputable def laws_eqAnswer.E (k : Nat) : Env := ⟨tys, [laws_eqEntry.sm k], [], [], [4]⟩
noncomputable def laws_eqAnswer.pts : List (Pt (denR (outTys laws_eqAnswer.g.rts laws_eqAnswer.g.pms))) := []
theorem laws_eqAnswer.hf (k : Nat) (a0 : Answer) (a1 : Answer) : (laws_eqAnswer.f a0 a1 : Option (denR (outTys laws_eqAnswer.g.rts laws_eqAnswer.g.pms))) = evC (laws_eqAnswer.E k) (fun κ s => lhOf k κ s laws_eqAnswer.pts) b111 (OM.start laws_eqAnswer.g.pms 0 (a0, a1, ())) (OM.fin laws_eqAnswer.g Try.f111.results.toList) := by kernel_rfl
theorem laws_eqAnswer.ok (k : Nat) : SmOk Try.prog (laws_eqAnswer.sm k) :=
  sm_ok mixed (E := laws_eqAnswer.E) (pts := laws_eqAnswer.pts) (fun k => ⟨⟨tysOk, by kernel_rfl⟩, forall_cons ⟨laws_eqEntry.ok k, e156⟩ (forall_nil)⟩) (fun _ => rfl) (fun _ => rfl)
    ⟨Try.func111, by kernel_rfl, by kernel_rfl, by kernel_rfl, by kernel_rfl, by kernel_rfl, by kernel_rfl⟩ (forall_nil) (fun k x => laws_eqAnswer.hf k x.1 x.2.1) k
noncomputable def b42 : Code := Try.f42.body.getD .skip
theorem e42 : OM.Entry Try.prog 42 := ⟨_, Try.func42, by kernel_rfl, by kernel_rfl⟩
@[reducible] noncomputable def laws_eqAnswerS.g : Sig := ⟨[.fz (.sl tAnswer), .fz (.sl tAnswer)], [.v .bool .z], []⟩
@[reducible] noncomputable def laws_eqAnswerS.fk : Nat → denI laws_eqAnswerS.g.pms → Option (denR (outTys laws_eqAnswerS.g.rts laws_eqAnswerS.g.pms)) := fun k x => laws_eqAnswerS.f k x.1 x.2.1
@[reducible] noncomputable def laws_eqAnswerS.sm (k : Nat) : Sm := ⟨42, laws_eqAnswerS.g.pms, laws_eqAnswerS.g.rts, laws_eqAnswerS.fk k⟩
noncomputable def laws_eqAnswerS.E (k : Nat) : Env := ⟨tys, [laws_eqAnswer.sm k], [], [], []⟩
@[reducible] noncomputable def laws_eqAnswerS.s9 : List Slot := [.v 0 (.sl tAnswer) .z [] 0, .v 4 (.sl tAnswer) .z [] 0, .v 20 (.int .i64) .z [] 0]
noncomputable def laws_eqAnswerS.pts : List (Pt (denR (outTys laws_eqAnswerS.g.rts laws_eqAnswerS.g.pms))) := [⟨9, laws_eqAnswerS.s9, fun k x => laws_eqAnswerS.p9 k x.1 x.2.1 x.2.2.1⟩]
theorem laws_eqAnswerS.h9 (k : Nat) (x0 : (List Answer)) (x1 : (List Answer)) (x2 : Int) : (laws_eqAnswerS.p9 (k + 1) x0 x1 x2 : Option (denR (outTys laws_eqAnswerS.g.rts laws_eqAnswerS.g.pms))) = evAt (laws_eqAnswerS.E k) (fun κ s => lhOf k κ s laws_eqAnswerS.pts) 9 b42 (unproj laws_eqAnswerS.s9 (x0, x1, x2, ())) (OM.fin laws_eqAnswerS.g Try.f42.results.toList) := by kernel_rfl
theorem laws_eqAnswerS.hf (k : Nat) (a0 : (List Answer)) (a1 : (List Answer)) : (laws_eqAnswerS.f k a0 a1 : Option (denR (outTys laws_eqAnswerS.g.rts laws_eqAnswerS.g.pms))) = evC (laws_eqAnswerS.E k) (fun κ s => lhOf k κ s laws_eqAnswerS.pts) b42 (OM.start laws_eqAnswerS.g.pms 0 (a0, a1, ())) (OM.fin laws_eqAnswerS.g Try.f42.results.toList) := by kernel_rfl
theorem laws_eqAnswerS.ok (k : Nat) : SmOk Try.prog (laws_eqAnswerS.sm k) :=
  sm_ok mixed (E := laws_eqAnswerS.E) (pts := laws_eqAnswerS.pts) (fun k => ⟨⟨tysOk, by kernel_rfl⟩, forall_cons ⟨laws_eqAnswer.ok k, e111⟩ (forall_nil)⟩) (fun _ => rfl) (fun _ => rfl)
    ⟨Try.func42, by kernel_rfl, by kernel_rfl, by kernel_rfl, by kernel_rfl, by kernel_rfl, by kernel_rfl⟩ (forall_cons (fun x => ⟨rfl, fun k => laws_eqAnswerS.h9 k x.1 x.2.1 x.2.2.1⟩) (forall_nil)) (fun k x => laws_eqAnswerS.hf k x.1 x.2.1) k
noncomputable def b112 : Code := Try.f112.body.getD .skip
theorem e112 : OM.Entry Try.prog 112 := ⟨_, Try.func112, by kernel_rfl, by kernel_rfl⟩
@[reducible] noncomputable def laws_markIntS.g : Sig := ⟨[.mut (.sl (.int .i64)) (.own .z), .fz (.int .i64)], [.v (.int .i64) .z], [0]⟩
@[reducible] noncomputable def laws_markIntS.fk : Nat → denI laws_markIntS.g.pms → Option (denR (outTys laws_markIntS.g.rts laws_markIntS.g.pms)) := fun k x => laws_markIntS.f k x.1 x.2.1
@[reducible] noncomputable def laws_markIntS.sm (k : Nat) : Sm := ⟨112, laws_markIntS.g.pms, laws_markIntS.g.rts, laws_markIntS.fk k⟩
noncomputable def laws_markIntS.E (k : Nat) : Env := ⟨tys, [], [], [], []⟩
@[reducible] noncomputable def laws_markIntS.s5 : List Slot := [.v 0 (.sl (.int .i64)) (.own .z) [] 1, .v 4 (.int .i64) .z [] 0, .v 20 (.int .i64) .z [] 0]
noncomputable def laws_markIntS.pts : List (Pt (denR (outTys laws_markIntS.g.rts laws_markIntS.g.pms))) := [⟨5, laws_markIntS.s5, fun k x => laws_markIntS.p5 k x.1 x.2.1 x.2.2.1⟩]
theorem laws_markIntS.h5 (k : Nat) (x0 : (List Int)) (x1 : Int) (x2 : Int) : (laws_markIntS.p5 (k + 1) x0 x1 x2 : Option (denR (outTys laws_markIntS.g.rts laws_markIntS.g.pms))) = evAt (laws_markIntS.E k) (fun κ s => lhOf k κ s laws_markIntS.pts) 5 b112 (unproj laws_markIntS.s5 (x0, x1, x2, ())) (OM.fin laws_markIntS.g Try.f112.results.toList) := by kernel_rfl
theorem laws_markIntS.hf (k : Nat) (a0 : (List Int)) (a1 : Int) : (laws_markIntS.f k a0 a1 : Option (denR (outTys laws_markIntS.g.rts laws_markIntS.g.pms))) = evC (laws_markIntS.E k) (fun κ s => lhOf k κ s laws_markIntS.pts) b112 (OM.start laws_markIntS.g.pms 0 (a0, a1, ())) (OM.fin laws_markIntS.g Try.f112.results.toList) := by kernel_rfl
theorem laws_markIntS.ok (k : Nat) : SmOk Try.prog (laws_markIntS.sm k) :=
  sm_ok mixed (E := laws_markIntS.E) (pts := laws_markIntS.pts) (fun k => ⟨⟨tysOk, by kernel_rfl⟩, forall_nil⟩) (fun _ => rfl) (fun _ => rfl)
    ⟨Try.func112, by kernel_rfl, by kernel_rfl, by kernel_rfl, by kernel_rfl, by kernel_rfl, by kernel_rfl⟩ (forall_cons (fun x => ⟨rfl, fun k => laws_markIntS.h5 k x.1 x.2.1 x.2.2.1⟩) (forall_nil)) (fun k x => laws_markIntS.hf k x.1 x.2.1) k
noncomputable def b43 : Code := Try.f43.body.getD .skip
theorem e43 : OM.Entry Try.prog 43 := ⟨_, Try.func43, by kernel_rfl, by kernel_rfl⟩
@[reducible] noncomputable def laws_markConfig.g : Sig := ⟨[.mut tConfig (.two (.own .z) .z), .fz (.int .i64)], [.v (.int .i64) .z], [9]⟩
@[reducible] noncomputable def laws_markConfig.fk : Nat → denI laws_markConfig.g.pms → Option (denR (outTys laws_markConfig.g.rts laws_markConfig.g.pms)) := fun k x => laws_markConfig.f k x.1 x.2.1
@[reducible] noncomputable def laws_markConfig.sm (k : Nat) : Sm := ⟨43, laws_markConfig.g.pms, laws_markConfig.g.rts, laws_markConfig.fk k⟩
noncomputable def laws_markConfig.E (k : Nat) : Env := ⟨tys, [laws_markIntS.sm k], [], [], []⟩
noncomputable def laws_markConfig.pts : List (Pt (denR (outTys laws_markConfig.g.rts laws_markConfig.g.pms))) := []
theorem laws_markConfig.hf (k : Nat) (a0 : Config) (a1 : Int) : (laws_markConfig.f k a0 a1 : Option (denR (outTys laws_markConfig.g.rts laws_markConfig.g.pms))) = evC (laws_markConfig.E k) (fun κ s => lhOf k κ s laws_markConfig.pts) b43 (OM.start laws_markConfig.g.pms 0 (a0, a1, ())) (OM.fin laws_markConfig.g Try.f43.results.toList) := by kernel_rfl
theorem laws_markConfig.ok (k : Nat) : SmOk Try.prog (laws_markConfig.sm k) :=
  sm_ok mixed (E := laws_markConfig.E) (pts := laws_markConfig.pts) (fun k => ⟨⟨tysOk, by kernel_rfl⟩, forall_cons ⟨laws_markIntS.ok k, e112⟩ (forall_nil)⟩) (fun _ => rfl) (fun _ => rfl)
    ⟨Try.func43, by kernel_rfl, by kernel_rfl, by kernel_rfl, by kernel_rfl, by kernel_rfl, by kernel_rfl⟩ (forall_nil) (fun k x => laws_markConfig.hf k x.1 x.2.1) k
noncomputable def b113 : Code := Try.f113.body.getD .skip
theorem e113 : OM.Entry Try.prog 113 := ⟨_, Try.func113, by kernel_rfl, by kernel_rfl⟩
@[reducible] noncomputable def laws_markEraS.g : Sig := ⟨[.mut (.sl tEra) (.own (.two (.own .z) .z)), .fz (.int .i64)], [.v (.int .i64) .z], [0]⟩
@[reducible] noncomputable def laws_markEraS.fk : Nat → denI laws_markEraS.g.pms → Option (denR (outTys laws_markEraS.g.rts laws_markEraS.g.pms)) := fun k x => laws_markEraS.f k x.1 x.2.1
@[reducible] noncomputable def laws_markEraS.sm (k : Nat) : Sm := ⟨113, laws_markEraS.g.pms, laws_markEraS.g.rts, laws_markEraS.fk k⟩
noncomputable def laws_markEraS.E (k : Nat) : Env := ⟨tys, [laws_markIntS.sm k], [], [], []⟩
@[reducible] noncomputable def laws_markEraS.s5 : List Slot := [.v 0 (.sl tEra) (.own (.two (.own .z) .z)) [] 1, .v 4 (.int .i64) .z [] 0, .v 20 (.int .i64) .z [] 0]
noncomputable def laws_markEraS.pts : List (Pt (denR (outTys laws_markEraS.g.rts laws_markEraS.g.pms))) := [⟨5, laws_markEraS.s5, fun k x => laws_markEraS.p5 k x.1 x.2.1 x.2.2.1⟩]
theorem laws_markEraS.h5 (k : Nat) (x0 : (List Era)) (x1 : Int) (x2 : Int) : (laws_markEraS.p5 (k + 1) x0 x1 x2 : Option (denR (outTys laws_markEraS.g.rts laws_markEraS.g.pms))) = evAt (laws_markEraS.E k) (fun κ s => lhOf k κ s laws_markEraS.pts) 5 b113 (unproj laws_markEraS.s5 (x0, x1, x2, ())) (OM.fin laws_markEraS.g Try.f113.results.toList) := by kernel_rfl
theorem laws_markEraS.hf (k : Nat) (a0 : (List Era)) (a1 : Int) : (laws_markEraS.f k a0 a1 : Option (denR (outTys laws_markEraS.g.rts laws_markEraS.g.pms))) = evC (laws_markEraS.E k) (fun κ s => lhOf k κ s laws_markEraS.pts) b113 (OM.start laws_markEraS.g.pms 0 (a0, a1, ())) (OM.fin laws_markEraS.g Try.f113.results.toList) := by kernel_rfl
theorem laws_markEraS.ok (k : Nat) : SmOk Try.prog (laws_markEraS.sm k) :=
  sm_ok mixed (E := laws_markEraS.E) (pts := laws_markEraS.pts) (fun k => ⟨⟨tysOk, by kernel_rfl⟩, forall_cons ⟨laws_markIntS.ok k, e112⟩ (forall_nil)⟩) (fun _ => rfl) (fun _ => rfl)
    ⟨Try.func113, by kernel_rfl, by kernel_rfl, by kernel_rfl, by kernel_rfl, by kernel_rfl, by kernel_rfl⟩ (forall_cons (fun x => ⟨rfl, fun k => laws_markEraS.h5 k x.1 x.2.1 x.2.2.1⟩) (forall_nil)) (fun k x => laws_markEraS.hf k x.1 x.2.1) k
noncomputable def b44 : Code := Try.f44.body.getD .skip
theorem e44 : OM.Entry Try.prog 44 := ⟨_, Try.func44, by kernel_rfl, by kernel_rfl⟩
@[reducible] noncomputable def laws_markRegister.g : Sig := ⟨[.mut tRegister (.two (.own (.two (.own .z) .z)) .z), .fz (.int .i64)], [.v (.int .i64) .z], [9]⟩
@[reducible] noncomputable def laws_markRegister.fk : Nat → denI laws_markRegister.g.pms → Option (denR (outTys laws_markRegister.g.rts laws_markRegister.g.pms)) := fun k x => laws_markRegister.f k x.1 x.2.1
@[reducible] noncomputable def laws_markRegister.sm (k : Nat) : Sm := ⟨44, laws_markRegister.g.pms, laws_markRegister.g.rts, laws_markRegister.fk k⟩
noncomputable def laws_markRegister.E (k : Nat) : Env := ⟨tys, [laws_markEraS.sm k], [], [], []⟩
noncomputable def laws_markRegister.pts : List (Pt (denR (outTys laws_markRegister.g.rts laws_markRegister.g.pms))) := []
theorem laws_markRegister.hf (k : Nat) (a0 : Register) (a1 : Int) : (laws_markRegister.f k a0 a1 : Option (denR (outTys laws_markRegister.g.rts laws_markRegister.g.pms))) = evC (laws_markRegister.E k) (fun κ s => lhOf k κ s laws_markRegister.pts) b44 (OM.start laws_markRegister.g.pms 0 (a0, a1, ())) (OM.fin laws_markRegister.g Try.f44.results.toList) := by kernel_rfl
theorem laws_markRegister.ok (k : Nat) : SmOk Try.prog (laws_markRegister.sm k) :=
  sm_ok mixed (E := laws_markRegister.E) (pts := laws_markRegister.pts) (fun k => ⟨⟨tysOk, by kernel_rfl⟩, forall_cons ⟨laws_markEraS.ok k, e113⟩ (forall_nil)⟩) (fun _ => rfl) (fun _ => rfl)
    ⟨Try.func44, by kernel_rfl, by kernel_rfl, by kernel_rfl, by kernel_rfl, by kernel_rfl, by kernel_rfl⟩ (forall_nil) (fun k x => laws_markRegister.hf k x.1 x.2.1) k
noncomputable def b115 : Code := Try.f115.body.getD .skip
theorem e115 : OM.Entry Try.prog 115 := ⟨_, Try.func115, by kernel_rfl, by kernel_rfl⟩
@[reducible] noncomputable def laws_markText.g : Sig := ⟨[.fz (.int .i64)], [.v .str .z], []⟩
@[reducible] noncomputable def laws_markText.fk : Nat → denI laws_markText.g.pms → Option (denR (outTys laws_markText.g.rts laws_markText.g.pms)) := fun k x => laws_markText.f k x.1
@[reducible] noncomputable def laws_markText.sm (k : Nat) : Sm := ⟨115, laws_markText.g.pms, laws_markText.g.rts, laws_markText.fk k⟩
noncomputable def laws_markText.E (k : Nat) : Env := ⟨tys, [], [], [], []⟩
@[reducible] noncomputable def laws_markText.s9 : List Slot := [.v 0 (.int .i64) .z [] 0, .v 12 .str .z [] 0]
noncomputable def laws_markText.pts : List (Pt (denR (outTys laws_markText.g.rts laws_markText.g.pms))) := [⟨9, laws_markText.s9, fun k x => laws_markText.p9 k x.1 x.2.1⟩]
theorem laws_markText.h9 (k : Nat) (x0 : Int) (x1 : ByteArray) : (laws_markText.p9 (k + 1) x0 x1 : Option (denR (outTys laws_markText.g.rts laws_markText.g.pms))) = evAt (laws_markText.E k) (fun κ s => lhOf k κ s laws_markText.pts) 9 b115 (unproj laws_markText.s9 (x0, x1, ())) (OM.fin laws_markText.g Try.f115.results.toList) := by kernel_rfl
theorem laws_markText.hf (k : Nat) (a0 : Int) : (laws_markText.f k a0 : Option (denR (outTys laws_markText.g.rts laws_markText.g.pms))) = evC (laws_markText.E k) (fun κ s => lhOf k κ s laws_markText.pts) b115 (OM.start laws_markText.g.pms 0 (a0, ())) (OM.fin laws_markText.g Try.f115.results.toList) := by kernel_rfl
theorem laws_markText.ok (k : Nat) : SmOk Try.prog (laws_markText.sm k) :=
  sm_ok mixed (E := laws_markText.E) (pts := laws_markText.pts) (fun k => ⟨⟨tysOk, by kernel_rfl⟩, forall_nil⟩) (fun _ => rfl) (fun _ => rfl)
    ⟨Try.func115, by kernel_rfl, by kernel_rfl, by kernel_rfl, by kernel_rfl, by kernel_rfl, by kernel_rfl⟩ (forall_cons (fun x => ⟨rfl, fun k => laws_markText.h9 k x.1 x.2.1⟩) (forall_nil)) (fun k x => laws_markText.hf k x.1) k
noncomputable def b114 : Code := Try.f114.body.getD .skip
theorem e114 : OM.Entry Try.prog 114 := ⟨_, Try.func114, by kernel_rfl, by kernel_rfl⟩
@[reducible] noncomputable def laws_markEventS.g : Sig := ⟨[.mut (.sl tEvent) (.own .z), .fz (.int .i64)], [.v (.int .i64) .z], [0]⟩
@[reducible] noncomputable def laws_markEventS.fk : Nat → denI laws_markEventS.g.pms → Option (denR (outTys laws_markEventS.g.rts laws_markEventS.g.pms)) := fun k x => laws_markEventS.f k x.1 x.2.1
@[reducible] noncomputable def laws_markEventS.sm (k : Nat) : Sm := ⟨114, laws_markEventS.g.pms, laws_markEventS.g.rts, laws_markEventS.fk k⟩
noncomputable def laws_markEventS.E (k : Nat) : Env := ⟨tys, [laws_markText.sm k], [], [], []⟩
@[reducible] noncomputable def laws_markEventS.s5 : List Slot := [.v 0 (.sl tEvent) (.own .z) [] 1, .v 4 (.int .i64) .z [] 0, .v 20 (.int .i64) .z [] 0]
noncomputable def laws_markEventS.pts : List (Pt (denR (outTys laws_markEventS.g.rts laws_markEventS.g.pms))) := [⟨5, laws_markEventS.s5, fun k x => laws_markEventS.p5 k x.1 x.2.1 x.2.2.1⟩]
theorem laws_markEventS.h5 (k : Nat) (x0 : (List Event)) (x1 : Int) (x2 : Int) : (laws_markEventS.p5 (k + 1) x0 x1 x2 : Option (denR (outTys laws_markEventS.g.rts laws_markEventS.g.pms))) = evAt (laws_markEventS.E k) (fun κ s => lhOf k κ s laws_markEventS.pts) 5 b114 (unproj laws_markEventS.s5 (x0, x1, x2, ())) (OM.fin laws_markEventS.g Try.f114.results.toList) := by kernel_rfl
theorem laws_markEventS.hf (k : Nat) (a0 : (List Event)) (a1 : Int) : (laws_markEventS.f k a0 a1 : Option (denR (outTys laws_markEventS.g.rts laws_markEventS.g.pms))) = evC (laws_markEventS.E k) (fun κ s => lhOf k κ s laws_markEventS.pts) b114 (OM.start laws_markEventS.g.pms 0 (a0, a1, ())) (OM.fin laws_markEventS.g Try.f114.results.toList) := by kernel_rfl
theorem laws_markEventS.ok (k : Nat) : SmOk Try.prog (laws_markEventS.sm k) :=
  sm_ok mixed (E := laws_markEventS.E) (pts := laws_markEventS.pts) (fun k => ⟨⟨tysOk, by kernel_rfl⟩, forall_cons ⟨laws_markText.ok k, e115⟩ (forall_nil)⟩) (fun _ => rfl) (fun _ => rfl)
    ⟨Try.func114, by kernel_rfl, by kernel_rfl, by kernel_rfl, by kernel_rfl, by kernel_rfl, by kernel_rfl⟩ (forall_cons (fun x => ⟨rfl, fun k => laws_markEventS.h5 k x.1 x.2.1 x.2.2.1⟩) (forall_nil)) (fun k x => laws_markEventS.hf k x.1 x.2.1) k
noncomputable def b45 : Code := Try.f45.body.getD .skip
theorem e45 : OM.Entry Try.prog 45 := ⟨_, Try.func45, by kernel_rfl, by kernel_rfl⟩
@[reducible] noncomputable def laws_markReader.g : Sig := ⟨[.mut tReader (.two .z (.two .z (.two (.own .z) .z))), .fz (.int .i64)], [.v (.int .i64) .z], [9]⟩
@[reducible] noncomputable def laws_markReader.fk : Nat → denI laws_markReader.g.pms → Option (denR (outTys laws_markReader.g.rts laws_markReader.g.pms)) := fun k x => laws_markReader.f k x.1 x.2.1
@[reducible] noncomputable def laws_markReader.sm (k : Nat) : Sm := ⟨45, laws_markReader.g.pms, laws_markReader.g.rts, laws_markReader.fk k⟩
noncomputable def laws_markReader.E (k : Nat) : Env := ⟨tys, [laws_markEventS.sm k], [], [], []⟩
noncomputable def laws_markReader.pts : List (Pt (denR (outTys laws_markReader.g.rts laws_markReader.g.pms))) := []
theorem laws_markReader.hf (k : Nat) (a0 : Reader) (a1 : Int) : (laws_markReader.f k a0 a1 : Option (denR (outTys laws_markReader.g.rts laws_markReader.g.pms))) = evC (laws_markReader.E k) (fun κ s => lhOf k κ s laws_markReader.pts) b45 (OM.start laws_markReader.g.pms 0 (a0, a1, ())) (OM.fin laws_markReader.g Try.f45.results.toList) := by kernel_rfl
theorem laws_markReader.ok (k : Nat) : SmOk Try.prog (laws_markReader.sm k) :=
  sm_ok mixed (E := laws_markReader.E) (pts := laws_markReader.pts) (fun k => ⟨⟨tysOk, by kernel_rfl⟩, forall_cons ⟨laws_markEventS.ok k, e114⟩ (forall_nil)⟩) (fun _ => rfl) (fun _ => rfl)
    ⟨Try.func45, by kernel_rfl, by kernel_rfl, by kernel_rfl, by kernel_rfl, by kernel_rfl, by kernel_rfl⟩ (forall_nil) (fun k x => laws_markReader.hf k x.1 x.2.1) k
noncomputable def b46 : Code := Try.f46.body.getD .skip
theorem e46 : OM.Entry Try.prog 46 := ⟨_, Try.func46, by kernel_rfl, by kernel_rfl⟩
@[reducible] noncomputable def laws_markAnswerS.g : Sig := ⟨[.mut (.sl tAnswer) (.own .z), .fz (.int .i64)], [.v (.int .i64) .z], [0]⟩
@[reducible] noncomputable def laws_markAnswerS.fk : Nat → denI laws_markAnswerS.g.pms → Option (denR (outTys laws_markAnswerS.g.rts laws_markAnswerS.g.pms)) := fun k x => laws_markAnswerS.f k x.1 x.2.1
@[reducible] noncomputable def laws_markAnswerS.sm (k : Nat) : Sm := ⟨46, laws_markAnswerS.g.pms, laws_markAnswerS.g.rts, laws_markAnswerS.fk k⟩
noncomputable def laws_markAnswerS.E (k : Nat) : Env := ⟨tys, [laws_markText.sm k], [], [], []⟩
@[reducible] noncomputable def laws_markAnswerS.s5 : List Slot := [.v 0 (.sl tAnswer) (.own .z) [] 1, .v 4 (.int .i64) .z [] 0, .v 20 (.int .i64) .z [] 0]
noncomputable def laws_markAnswerS.pts : List (Pt (denR (outTys laws_markAnswerS.g.rts laws_markAnswerS.g.pms))) := [⟨5, laws_markAnswerS.s5, fun k x => laws_markAnswerS.p5 k x.1 x.2.1 x.2.2.1⟩]
theorem laws_markAnswerS.h5 (k : Nat) (x0 : (List Answer)) (x1 : Int) (x2 : Int) : (laws_markAnswerS.p5 (k + 1) x0 x1 x2 : Option (denR (outTys laws_markAnswerS.g.rts laws_markAnswerS.g.pms))) = evAt (laws_markAnswerS.E k) (fun κ s => lhOf k κ s laws_markAnswerS.pts) 5 b46 (unproj laws_markAnswerS.s5 (x0, x1, x2, ())) (OM.fin laws_markAnswerS.g Try.f46.results.toList) := by kernel_rfl
theorem laws_markAnswerS.hf (k : Nat) (a0 : (List Answer)) (a1 : Int) : (laws_markAnswerS.f k a0 a1 : Option (denR (outTys laws_markAnswerS.g.rts laws_markAnswerS.g.pms))) = evC (laws_markAnswerS.E k) (fun κ s => lhOf k κ s laws_markAnswerS.pts) b46 (OM.start laws_markAnswerS.g.pms 0 (a0, a1, ())) (OM.fin laws_markAnswerS.g Try.f46.results.toList) := by kernel_rfl
theorem laws_markAnswerS.ok (k : Nat) : SmOk Try.prog (laws_markAnswerS.sm k) :=
  sm_ok mixed (E := laws_markAnswerS.E) (pts := laws_markAnswerS.pts) (fun k => ⟨⟨tysOk, by kernel_rfl⟩, forall_cons ⟨laws_markText.ok k, e115⟩ (forall_nil)⟩) (fun _ => rfl) (fun _ => rfl)
    ⟨Try.func46, by kernel_rfl, by kernel_rfl, by kernel_rfl, by kernel_rfl, by kernel_rfl, by kernel_rfl⟩ (forall_cons (fun x => ⟨rfl, fun k => laws_markAnswerS.h5 k x.1 x.2.1 x.2.2.1⟩) (forall_nil)) (fun k x => laws_markAnswerS.hf k x.1 x.2.1) k
noncomputable def b116 : Code := Try.f116.body.getD .skip
theorem e116 : OM.Entry Try.prog 116 := ⟨_, Try.func116, by kernel_rfl, by kernel_rfl⟩
@[reducible] noncomputable def laws_heldEventS.g : Sig := ⟨[.fz (.sl tEvent), .fz (.int .i64)], [.v (.int .i64) .z], []⟩
@[reducible] noncomputable def laws_heldEventS.fk : Nat → denI laws_heldEventS.g.pms → Option (denR (outTys laws_heldEventS.g.rts laws_heldEventS.g.pms)) := fun k x => laws_heldEventS.f k x.1 x.2.1
@[reducible] noncomputable def laws_heldEventS.sm (k : Nat) : Sm := ⟨116, laws_heldEventS.g.pms, laws_heldEventS.g.rts, laws_heldEventS.fk k⟩
noncomputable def laws_heldEventS.E (k : Nat) : Env := ⟨tys, [laws_markText.sm k], [], [], []⟩
@[reducible] noncomputable def laws_heldEventS.s5 : List Slot := [.v 0 (.sl tEvent) .z [] 0, .v 4 (.int .i64) .z [] 0, .v 20 (.int .i64) .z [] 0]
noncomputable def laws_heldEventS.pts : List (Pt (denR (outTys laws_heldEventS.g.rts laws_heldEventS.g.pms))) := [⟨5, laws_heldEventS.s5, fun k x => laws_heldEventS.p5 k x.1 x.2.1 x.2.2.1⟩]
theorem laws_heldEventS.h5 (k : Nat) (x0 : (List Event)) (x1 : Int) (x2 : Int) : (laws_heldEventS.p5 (k + 1) x0 x1 x2 : Option (denR (outTys laws_heldEventS.g.rts laws_heldEventS.g.pms))) = evAt (laws_heldEventS.E k) (fun κ s => lhOf k κ s laws_heldEventS.pts) 5 b116 (unproj laws_heldEventS.s5 (x0, x1, x2, ())) (OM.fin laws_heldEventS.g Try.f116.results.toList) := by kernel_rfl
theorem laws_heldEventS.hf (k : Nat) (a0 : (List Event)) (a1 : Int) : (laws_heldEventS.f k a0 a1 : Option (denR (outTys laws_heldEventS.g.rts laws_heldEventS.g.pms))) = evC (laws_heldEventS.E k) (fun κ s => lhOf k κ s laws_heldEventS.pts) b116 (OM.start laws_heldEventS.g.pms 0 (a0, a1, ())) (OM.fin laws_heldEventS.g Try.f116.results.toList) := by kernel_rfl
theorem laws_heldEventS.ok (k : Nat) : SmOk Try.prog (laws_heldEventS.sm k) :=
  sm_ok mixed (E := laws_heldEventS.E) (pts := laws_heldEventS.pts) (fun k => ⟨⟨tysOk, by kernel_rfl⟩, forall_cons ⟨laws_markText.ok k, e115⟩ (forall_nil)⟩) (fun _ => rfl) (fun _ => rfl)
    ⟨Try.func116, by kernel_rfl, by kernel_rfl, by kernel_rfl, by kernel_rfl, by kernel_rfl, by kernel_rfl⟩ (forall_cons (fun x => ⟨rfl, fun k => laws_heldEventS.h5 k x.1 x.2.1 x.2.2.1⟩) (forall_nil)) (fun k x => laws_heldEventS.hf k x.1 x.2.1) k
noncomputable def b47 : Code := Try.f47.body.getD .skip
theorem e47 : OM.Entry Try.prog 47 := ⟨_, Try.func47, by kernel_rfl, by kernel_rfl⟩
@[reducible] noncomputable def laws_heldReader.g : Sig := ⟨[.fz tReader, .fz (.int .i64)], [.v (.int .i64) .z], []⟩
@[reducible] noncomputable def laws_heldReader.fk : Nat → denI laws_heldReader.g.pms → Option (denR (outTys laws_heldReader.g.rts laws_heldReader.g.pms)) := fun k x => laws_heldReader.f k x.1 x.2.1
@[reducible] noncomputable def laws_heldReader.sm (k : Nat) : Sm := ⟨47, laws_heldReader.g.pms, laws_heldReader.g.rts, laws_heldReader.fk k⟩
noncomputable def laws_heldReader.E (k : Nat) : Env := ⟨tys, [laws_heldEventS.sm k], [], [], []⟩
noncomputable def laws_heldReader.pts : List (Pt (denR (outTys laws_heldReader.g.rts laws_heldReader.g.pms))) := []
theorem laws_heldReader.hf (k : Nat) (a0 : Reader) (a1 : Int) : (laws_heldReader.f k a0 a1 : Option (denR (outTys laws_heldReader.g.rts laws_heldReader.g.pms))) = evC (laws_heldReader.E k) (fun κ s => lhOf k κ s laws_heldReader.pts) b47 (OM.start laws_heldReader.g.pms 0 (a0, a1, ())) (OM.fin laws_heldReader.g Try.f47.results.toList) := by kernel_rfl
theorem laws_heldReader.ok (k : Nat) : SmOk Try.prog (laws_heldReader.sm k) :=
  sm_ok mixed (E := laws_heldReader.E) (pts := laws_heldReader.pts) (fun k => ⟨⟨tysOk, by kernel_rfl⟩, forall_cons ⟨laws_heldEventS.ok k, e116⟩ (forall_nil)⟩) (fun _ => rfl) (fun _ => rfl)
    ⟨Try.func47, by kernel_rfl, by kernel_rfl, by kernel_rfl, by kernel_rfl, by kernel_rfl, by kernel_rfl⟩ (forall_nil) (fun k x => laws_heldReader.hf k x.1 x.2.1) k
noncomputable def b7 : Code := Try.f7.body.getD .skip
theorem e7 : OM.Entry Try.prog 7 := ⟨_, Try.func7, by kernel_rfl, by kernel_rfl⟩
@[reducible] noncomputable def laws_FnExactReaderNext.g : Sig := ⟨[.fz tConfig, .fz tRegister, .fz (.int .i64), .fz tReader, .fz (.sl tAnswer)], [.v .bool .z], []⟩
@[reducible] noncomputable def laws_FnExactReaderNext.fk : Nat → denI laws_FnExactReaderNext.g.pms → Option (denR (outTys laws_FnExactReaderNext.g.rts laws_FnExactReaderNext.g.pms)) := fun k x => laws_FnExactReaderNext.f k x.1 x.2.1 x.2.2.1 x.2.2.2.1 x.2.2.2.2.1
@[reducible] noncomputable def laws_FnExactReaderNext.sm (k : Nat) : Sm := ⟨7, laws_FnExactReaderNext.g.pms, laws_FnExactReaderNext.g.rts, laws_FnExactReaderNext.fk k⟩
noncomputable def laws_FnExactReaderNext.E (k : Nat) : Env := ⟨tys, [laws_szConfig.sm k, laws_szRegister.sm k, laws_szReader.sm k, laws_szAnswerS.sm k, laws_toConfig.sm k, laws_toRegister.sm k, laws_toReader.sm k, laws_toAnswerS.sm k, spec_ReaderNext.sm k, impl_ReaderNext.sm k, laws_eqReader.sm k, laws_eqConfig.sm k, laws_eqRegister.sm k, laws_eqAnswerS.sm k, laws_markConfig.sm k, laws_markRegister.sm k, laws_markReader.sm k, laws_markAnswerS.sm k, laws_heldReader.sm k], [], [], []⟩
noncomputable def laws_FnExactReaderNext.pts : List (Pt (denR (outTys laws_FnExactReaderNext.g.rts laws_FnExactReaderNext.g.pms))) := []
theorem laws_FnExactReaderNext.hf (k : Nat) (a0 : Config) (a1 : Register) (a2 : Int) (a3 : Reader) (a4 : (List Answer)) : (laws_FnExactReaderNext.f k a0 a1 a2 a3 a4 : Option (denR (outTys laws_FnExactReaderNext.g.rts laws_FnExactReaderNext.g.pms))) = evC (laws_FnExactReaderNext.E k) (fun κ s => lhOf k κ s laws_FnExactReaderNext.pts) b7 (OM.start laws_FnExactReaderNext.g.pms 0 (a0, a1, a2, a3, a4, ())) (OM.fin laws_FnExactReaderNext.g Try.f7.results.toList) := by kernel_rfl
theorem laws_FnExactReaderNext.ok (k : Nat) : SmOk Try.prog (laws_FnExactReaderNext.sm k) :=
  sm_ok mixed (E := laws_FnExactReaderNext.E) (pts := laws_FnExactReaderNext.pts) (fun k => ⟨⟨tysOk, by kernel_rfl⟩, forall_cons ⟨laws_szConfig.ok k, e31⟩ (forall_cons ⟨laws_szRegister.ok k, e32⟩ (forall_cons ⟨laws_szReader.ok k, e33⟩ (forall_cons ⟨laws_szAnswerS.ok k, e34⟩ (forall_cons ⟨laws_toConfig.ok k, e35⟩ (forall_cons ⟨laws_toRegister.ok k, e36⟩ (forall_cons ⟨laws_toReader.ok k, e37⟩ (forall_cons ⟨laws_toAnswerS.ok k, e38⟩ (forall_cons ⟨spec_ReaderNext.ok k, e24⟩ (forall_cons ⟨impl_ReaderNext.ok k, e23⟩ (forall_cons ⟨laws_eqReader.ok k, e39⟩ (forall_cons ⟨laws_eqConfig.ok k, e40⟩ (forall_cons ⟨laws_eqRegister.ok k, e41⟩ (forall_cons ⟨laws_eqAnswerS.ok k, e42⟩ (forall_cons ⟨laws_markConfig.ok k, e43⟩ (forall_cons ⟨laws_markRegister.ok k, e44⟩ (forall_cons ⟨laws_markReader.ok k, e45⟩ (forall_cons ⟨laws_markAnswerS.ok k, e46⟩ (forall_cons ⟨laws_heldReader.ok k, e47⟩ (forall_nil)))))))))))))))))))⟩) (fun _ => rfl) (fun _ => rfl)
    ⟨Try.func7, by kernel_rfl, by kernel_rfl, by kernel_rfl, by kernel_rfl, by kernel_rfl, by kernel_rfl⟩ (forall_nil) (fun k x => laws_FnExactReaderNext.hf k x.1 x.2.1 x.2.2.1 x.2.2.2.1 x.2.2.2.2.1) k
end Go.Proofs.Ythgnikafeamidab.OmFnExactReaderNext
