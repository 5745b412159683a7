import Derived.Test.YtdkdhciogedoiaaFFnExactEraNodes
import Derived.Test.YtdkdhciogedoiaaChecked
set_option maxRecDepth 1000000
set_option linter.unusedVariables false
namespace Go.Proofs.Ytdkdhciogedoiaa.OmFnExactEraNodes
open Go Go.OM
noncomputable def tys : List (Option Ty) := [none, none, some (.int .i64), some (.int .i64), some .bool, some (.int .u8), some (.int .u8), some (.pair (.int .i64) (.pair (.int .i64) (.pair .bool (.pair (.int .u8) .unit)))), some (.pair (.int .i64) (.pair (.int .i64) (.pair .bool (.pair (.int .u8) .unit)))), some .str, some .str, some .str, some (.int .u64), some (.pair .str (.pair (.int .u64) .unit)), some (.pair .str (.pair (.int .u64) .unit)), none, none, none, none, none, none, some (.int .i32), some (.sl tEra), some tRegister, some tRegister, none, some (.sl (.int .i64)), none, some (.sl tEra), some tRegister, some tRegister, none, none, none, none, none, none, some (.sl tEntry), some (.sl (.sl (.int .i64))), some tMend, some tMend, none, none, none, none, some (.sl (.int .u8)), none, some (.sl tWord), some tWriter, some tWriter, none, none, some tWord, some tWord, some (.sl tEntry), some tMend, some tMend, none, some tEntry, some tEntry, none, none, none, none, none, some tConfig, some tConfig, some (.sl tWord), some tWriter, some tWriter, none, none, none, some tConfig, none, none, none, none, none, none, none, none, none, none, none, none, none, some tEra, some tEra, none, none, none, none, none, none, none, none, none, none, none, none, none, none, none, none, none, none, none, none, none, none, none, none, none, none, none, none, none, none, none, none, none, none, none, none, none, none, none, some tEra, none, none, none, some tl1Cur, some tl1Cur, none, none, none, some tEntry, none, none, some tWord, none, none, none, none, none, none, none, none, none, none, none, none, none, none, none, some (.sl .str), none, none, none, some (.sl .bool), none, none, none, some (.int .u64), none, none, some tStore, some tStore, none, none, none, none, none, none, none, none, none, none, none, none, none, none, none, none, none, none, none, some (.int .u32), some (.int .u8), some (.int .u8), none, none, some (.int .i32), some (.int .i32), none, none, none]
theorem tysOk : okTys Try.prog tys 0 tys = true := by kernel_rfl
theorem mixed : Try.prog.follows .mixedOrders = true := by kernel_rfl
noncomputable def b62 : Code := Try.f62.body.getD .skip
theorem e62 : OM.Entry Try.prog 62 := ⟨_, Try.func62, by kernel_rfl, by kernel_rfl⟩
@[reducible] noncomputable def laws_szIntS.g : Sig := ⟨[.fz (.sl (.int .i64)), .fz (.int .i64)], [.v (.int .i64) .z], []⟩
@[reducible] noncomputable def laws_szIntS.fk : Nat → denI laws_szIntS.g.pms → Option (denR (outTys laws_szIntS.g.rts laws_szIntS.g.pms)) := fun k x => laws_szIntS.f x.1 x.2.1
@[reducible] noncomputable def laws_szIntS.sm (k : Nat) : Sm := ⟨62, laws_szIntS.g.pms, laws_szIntS.g.rts, laws_szIntS.fk k⟩
noncomputable def laws_szIntS.E (k : Nat) : Env := ⟨tys, [], [], [], []⟩
noncomputable def laws_szIntS.pts : List (Pt (denR (outTys laws_szIntS.g.rts laws_szIntS.g.pms))) := []
theorem laws_szIntS.hf (k : Nat) (x : denI laws_szIntS.g.pms) : laws_szIntS.fk k x = evC (laws_szIntS.E k) (fun κ s => lhOf k κ s laws_szIntS.pts) b62 (OM.start laws_szIntS.g.pms 0 x) (OM.fin laws_szIntS.g Try.f62.results.toList) := by kernel_rfl
theorem laws_szIntS.ok (k : Nat) : SmOk Try.prog (laws_szIntS.sm k) :=
  sm_ok mixed (E := laws_szIntS.E) (pts := laws_szIntS.pts) (fun k => ⟨⟨tysOk, by kernel_rfl⟩, forall_nil⟩) (fun _ => rfl) (fun _ => rfl)
    ⟨Try.func62, by kernel_rfl, by kernel_rfl, by kernel_rfl, by kernel_rfl, by kernel_rfl, by kernel_rfl⟩ (forall_nil) laws_szIntS.hf k
noncomputable def b100 : Code := Try.f100.body.getD .skip
theorem e100 : OM.Entry Try.prog 100 := ⟨_, Try.func100, by kernel_rfl, by kernel_rfl⟩
@[reducible] noncomputable def laws_szEra.g : Sig := ⟨[.fz tEra, .fz (.int .i64)], [.v (.int .i64) .z], []⟩
@[reducible] noncomputable def laws_szEra.fk : Nat → denI laws_szEra.g.pms → Option (denR (outTys laws_szEra.g.rts laws_szEra.g.pms)) := fun k x => laws_szEra.f x.1 x.2.1
@[reducible] noncomputable def laws_szEra.sm (k : Nat) : Sm := ⟨100, laws_szEra.g.pms, laws_szEra.g.rts, laws_szEra.fk k⟩
noncomputable def laws_szEra.E (k : Nat) : Env := ⟨tys, [laws_szIntS.sm k], [], [], []⟩
noncomputable def laws_szEra.pts : List (Pt (denR (outTys laws_szEra.g.rts laws_szEra.g.pms))) := []
theorem laws_szEra.hf (k : Nat) (x : denI laws_szEra.g.pms) : laws_szEra.fk k x = evC (laws_szEra.E k) (fun κ s => lhOf k κ s laws_szEra.pts) b100 (OM.start laws_szEra.g.pms 0 x) (OM.fin laws_szEra.g Try.f100.results.toList) := by kernel_rfl
theorem laws_szEra.ok (k : Nat) : SmOk Try.prog (laws_szEra.sm k) :=
  sm_ok mixed (E := laws_szEra.E) (pts := laws_szEra.pts) (fun k => ⟨⟨tysOk, by kernel_rfl⟩, forall_cons ⟨laws_szIntS.ok k, e62⟩ (forall_nil)⟩) (fun _ => rfl) (fun _ => rfl)
    ⟨Try.func100, by kernel_rfl, by kernel_rfl, by kernel_rfl, by kernel_rfl, by kernel_rfl, by kernel_rfl⟩ (forall_nil) laws_szEra.hf k
noncomputable def b46 : Code := Try.f46.body.getD .skip
theorem e46 : OM.Entry Try.prog 46 := ⟨_, Try.func46, by kernel_rfl, by kernel_rfl⟩
@[reducible] noncomputable def laws_szEraS.g : Sig := ⟨[.fz (.sl tEra), .fz (.int .i64)], [.v (.int .i64) .z], []⟩
@[reducible] noncomputable def laws_szEraS.fk : Nat → denI laws_szEraS.g.pms → Option (denR (outTys laws_szEraS.g.rts laws_szEraS.g.pms)) := fun k x => laws_szEraS.f k x.1 x.2.1
@[reducible] noncomputable def laws_szEraS.sm (k : Nat) : Sm := ⟨46, laws_szEraS.g.pms, laws_szEraS.g.rts, laws_szEraS.fk k⟩
noncomputable def laws_szEraS.E (k : Nat) : Env := ⟨tys, [laws_szEra.sm k], [], [], []⟩
@[reducible] noncomputable def laws_szEraS.s11 : List Slot := [.v 0 (.sl tEra) .z [] 0, .v 4 (.int .i64) .z [] 0, .v 20 (.int .i64) .z [] 0]
noncomputable def laws_szEraS.pts : List (Pt (denR (outTys laws_szEraS.g.rts laws_szEraS.g.pms))) := [⟨11, laws_szEraS.s11, fun k x => laws_szEraS.p11 k x.1 x.2.1 x.2.2.1⟩]
theorem laws_szEraS.h11 (x : denS laws_szEraS.s11) (k : Nat) : (laws_szEraS.p11 (k + 1) x.1 x.2.1 x.2.2.1 : Option (denR (outTys laws_szEraS.g.rts laws_szEraS.g.pms))) = evAt (laws_szEraS.E k) (fun κ s => lhOf k κ s laws_szEraS.pts) 11 b46 (unproj laws_szEraS.s11 x) (OM.fin laws_szEraS.g Try.f46.results.toList) := by kernel_rfl
theorem laws_szEraS.hf (k : Nat) (x : denI laws_szEraS.g.pms) : laws_szEraS.fk k x = evC (laws_szEraS.E k) (fun κ s => lhOf k κ s laws_szEraS.pts) b46 (OM.start laws_szEraS.g.pms 0 x) (OM.fin laws_szEraS.g Try.f46.results.toList) := by kernel_rfl
theorem laws_szEraS.ok (k : Nat) : SmOk Try.prog (laws_szEraS.sm k) :=
  sm_ok mixed (E := laws_szEraS.E) (pts := laws_szEraS.pts) (fun k => ⟨⟨tysOk, by kernel_rfl⟩, forall_cons ⟨laws_szEra.ok k, e100⟩ (forall_nil)⟩) (fun _ => rfl) (fun _ => rfl)
    ⟨Try.func46, by kernel_rfl, by kernel_rfl, by kernel_rfl, by kernel_rfl, by kernel_rfl, by kernel_rfl⟩ (forall_cons (fun x => ⟨rfl, laws_szEraS.h11 x⟩) (forall_nil)) laws_szEraS.hf k
noncomputable def b9 : Code := Try.f9.body.getD .skip
theorem e9 : OM.Entry Try.prog 9 := ⟨_, Try.func9, by kernel_rfl, by kernel_rfl⟩
@[reducible] noncomputable def laws_szRegister.g : Sig := ⟨[.fz tRegister, .fz (.int .i64)], [.v (.int .i64) .z], []⟩
@[reducible] noncomputable def laws_szRegister.fk : Nat → denI laws_szRegister.g.pms → Option (denR (outTys laws_szRegister.g.rts laws_szRegister.g.pms)) := fun k x => laws_szRegister.f k x.1 x.2.1
@[reducible] noncomputable def laws_szRegister.sm (k : Nat) : Sm := ⟨9, laws_szRegister.g.pms, laws_szRegister.g.rts, laws_szRegister.fk k⟩
noncomputable def laws_szRegister.E (k : Nat) : Env := ⟨tys, [laws_szEraS.sm k], [], [], []⟩
noncomputable def laws_szRegister.pts : List (Pt (denR (outTys laws_szRegister.g.rts laws_szRegister.g.pms))) := []
theorem laws_szRegister.hf (k : Nat) (x : denI laws_szRegister.g.pms) : laws_szRegister.fk k x = evC (laws_szRegister.E k) (fun κ s => lhOf k κ s laws_szRegister.pts) b9 (OM.start laws_szRegister.g.pms 0 x) (OM.fin laws_szRegister.g Try.f9.results.toList) := by kernel_rfl
theorem laws_szRegister.ok (k : Nat) : SmOk Try.prog (laws_szRegister.sm k) :=
  sm_ok mixed (E := laws_szRegister.E) (pts := laws_szRegister.pts) (fun k => ⟨⟨tysOk, by kernel_rfl⟩, forall_cons ⟨laws_szEraS.ok k, e46⟩ (forall_nil)⟩) (fun _ => rfl) (fun _ => rfl)
    ⟨Try.func9, by kernel_rfl, by kernel_rfl, by kernel_rfl, by kernel_rfl, by kernel_rfl, by kernel_rfl⟩ (forall_nil) laws_szRegister.hf k
noncomputable def b67 : Code := Try.f67.body.getD .skip
theorem e67 : OM.Entry Try.prog 67 := ⟨_, Try.func67, by kernel_rfl, by kernel_rfl⟩
@[reducible] noncomputable def laws_toIntS.g : Sig := ⟨[.fz (.sl (.int .i64))], [.v (.sl (.int .i64)) (.own .z)], []⟩
@[reducible] noncomputable def laws_toIntS.fk : Nat → denI laws_toIntS.g.pms → Option (denR (outTys laws_toIntS.g.rts laws_toIntS.g.pms)) := fun k x => laws_toIntS.f k x.1
@[reducible] noncomputable def laws_toIntS.sm (k : Nat) : Sm := ⟨67, laws_toIntS.g.pms, laws_toIntS.g.rts, laws_toIntS.fk k⟩
noncomputable def laws_toIntS.E (k : Nat) : Env := ⟨tys, [], [19], [], []⟩
@[reducible] noncomputable def laws_toIntS.s7 : List Slot := [.v 0 (.sl (.int .i64)) .z [] 0, .v 12 (.sl (.int .i64)) (.own .z) [] 0, .v 16 (.int .i64) .z [] 0]
noncomputable def laws_toIntS.pts : List (Pt (denR (outTys laws_toIntS.g.rts laws_toIntS.g.pms))) := [⟨7, laws_toIntS.s7, fun k x => laws_toIntS.p7 k x.1 x.2.1 x.2.2.1⟩]
theorem laws_toIntS.h7 (x : denS laws_toIntS.s7) (k : Nat) : (laws_toIntS.p7 (k + 1) x.1 x.2.1 x.2.2.1 : Option (denR (outTys laws_toIntS.g.rts laws_toIntS.g.pms))) = evAt (laws_toIntS.E k) (fun κ s => lhOf k κ s laws_toIntS.pts) 7 b67 (unproj laws_toIntS.s7 x) (OM.fin laws_toIntS.g Try.f67.results.toList) := by kernel_rfl
theorem laws_toIntS.hf (k : Nat) (x : denI laws_toIntS.g.pms) : laws_toIntS.fk k x = evC (laws_toIntS.E k) (fun κ s => lhOf k κ s laws_toIntS.pts) b67 (OM.start laws_toIntS.g.pms 0 x) (OM.fin laws_toIntS.g Try.f67.results.toList) := by kernel_rfl
theorem laws_toIntS.ok (k : Nat) : SmOk Try.prog (laws_toIntS.sm k) :=
  sm_ok mixed (E := laws_toIntS.E) (pts := laws_toIntS.pts) (fun k => ⟨⟨tysOk, by kernel_rfl⟩, forall_nil⟩) (fun _ => rfl) (fun _ => rfl)
    ⟨Try.func67, by kernel_rfl, by kernel_rfl, by kernel_rfl, by kernel_rfl, by kernel_rfl, by kernel_rfl⟩ (forall_cons (fun x => ⟨rfl, laws_toIntS.h7 x⟩) (forall_nil)) laws_toIntS.hf k
noncomputable def b101 : Code := Try.f101.body.getD .skip
theorem e101 : OM.Entry Try.prog 101 := ⟨_, Try.func101, by kernel_rfl, by kernel_rfl⟩
@[reducible] noncomputable def laws_toEra.g : Sig := ⟨[.fz tEra], [.v tEra (.two (.own .z) .z)], []⟩
@[reducible] noncomputable def laws_toEra.fk : Nat → denI laws_toEra.g.pms → Option (denR (outTys laws_toEra.g.rts laws_toEra.g.pms)) := fun k x => laws_toEra.f k x.1
@[reducible] noncomputable def laws_toEra.sm (k : Nat) : Sm := ⟨101, laws_toEra.g.pms, laws_toEra.g.rts, laws_toEra.fk k⟩
noncomputable def laws_toEra.E (k : Nat) : Env := ⟨tys, [laws_toIntS.sm k], [12], [], []⟩
noncomputable def laws_toEra.pts : List (Pt (denR (outTys laws_toEra.g.rts laws_toEra.g.pms))) := []
theorem laws_toEra.hf (k : Nat) (x : denI laws_toEra.g.pms) : laws_toEra.fk k x = evC (laws_toEra.E k) (fun κ s => lhOf k κ s laws_toEra.pts) b101 (OM.start laws_toEra.g.pms 0 x) (OM.fin laws_toEra.g Try.f101.results.toList) := by kernel_rfl
theorem laws_toEra.ok (k : Nat) : SmOk Try.prog (laws_toEra.sm k) :=
  sm_ok mixed (E := laws_toEra.E) (pts := laws_toEra.pts) (fun k => ⟨⟨tysOk, by kernel_rfl⟩, forall_cons ⟨laws_toIntS.ok k, e67⟩ (forall_nil)⟩) (fun _ => rfl) (fun _ => rfl)
    ⟨Try.func101, by kernel_rfl, by kernel_rfl, by kernel_rfl, by kernel_rfl, by kernel_rfl, by kernel_rfl⟩ (forall_nil) laws_toEra.hf k
noncomputable def b48 : Code := Try.f48.body.getD .skip
theorem e48 : OM.Entry Try.prog 48 := ⟨_, Try.func48, by kernel_rfl, by kernel_rfl⟩
@[reducible] noncomputable def laws_toEraS.g : Sig := ⟨[.fz (.sl tEra)], [.v (.sl tEra) (.own (.two (.own .z) .z))], []⟩
@[reducible] noncomputable def laws_toEraS.fk : Nat → denI laws_toEraS.g.pms → Option (denR (outTys laws_toEraS.g.rts laws_toEraS.g.pms)) := fun k x => laws_toEraS.f k x.1
@[reducible] noncomputable def laws_toEraS.sm (k : Nat) : Sm := ⟨48, laws_toEraS.g.pms, laws_toEraS.g.rts, laws_toEraS.fk k⟩
noncomputable def laws_toEraS.E (k : Nat) : Env := ⟨tys, [laws_toEra.sm k], [], [], []⟩
@[reducible] noncomputable def laws_toEraS.s7 : List Slot := [.v 0 (.sl tEra) .z [] 0, .v 12 (.sl tEra) (.own (.two (.own .z) .z)) [] 0, .v 16 (.int .i64) .z [] 0]
noncomputable def laws_toEraS.pts : List (Pt (denR (outTys laws_toEraS.g.rts laws_toEraS.g.pms))) := [⟨7, laws_toEraS.s7, fun k x => laws_toEraS.p7 k x.1 x.2.1 x.2.2.1⟩]
theorem laws_toEraS.h7 (x : denS laws_toEraS.s7) (k : Nat) : (laws_toEraS.p7 (k + 1) x.1 x.2.1 x.2.2.1 : Option (denR (outTys laws_toEraS.g.rts laws_toEraS.g.pms))) = evAt (laws_toEraS.E k) (fun κ s => lhOf k κ s laws_toEraS.pts) 7 b48 (unproj laws_toEraS.s7 x) (OM.fin laws_toEraS.g Try.f48.results.toList) := by kernel_rfl
theorem laws_toEraS.hf (k : Nat) (x : denI laws_toEraS.g.pms) : laws_toEraS.fk k x = evC (laws_toEraS.E k) (fun κ s => lhOf k κ s laws_toEraS.pts) b48 (OM.start laws_toEraS.g.pms 0 x) (OM.fin laws_toEraS.g Try.f48.results.toList) := by kernel_rfl
theorem laws_toEraS.ok (k : Nat) : SmOk Try.prog (laws_toEraS.sm k) :=
  sm_ok mixed (E := laws_toEraS.E) (pts := laws_toEraS.pts) (fun k => ⟨⟨tysOk, by kernel_rfl⟩, forall_cons ⟨laws_toEra.ok k, e101⟩ (forall_nil)⟩) (fun _ => rfl) (fun _ => rfl)
    ⟨Try.func48, by kernel_rfl, by kernel_rfl, by kernel_rfl, by kernel_rfl, by kernel_rfl, by kernel_rfl⟩ (forall_cons (fun x => ⟨rfl, laws_toEraS.h7 x⟩) (forall_nil)) laws_toEraS.hf k
noncomputable def b11 : Code := Try.f11.body.getD .skip
theorem e11 : OM.Entry Try.prog 11 := ⟨_, Try.func11, by kernel_rfl, by kernel_rfl⟩
@[reducible] noncomputable def laws_toRegister.g : Sig := ⟨[.fz tRegister], [.v tRegister (.two (.own (.two (.own .z) .z)) .z)], []⟩
@[reducible] noncomputable def laws_toRegister.fk : Nat → denI laws_toRegister.g.pms → Option (denR (outTys laws_toRegister.g.rts laws_toRegister.g.pms)) := fun k x => laws_toRegister.f k x.1
@[reducible] noncomputable def laws_toRegister.sm (k : Nat) : Sm := ⟨11, laws_toRegister.g.pms, laws_toRegister.g.rts, laws_toRegister.fk k⟩
noncomputable def laws_toRegister.E (k : Nat) : Env := ⟨tys, [laws_toEraS.sm k], [9], [], []⟩
noncomputable def laws_toRegister.pts : List (Pt (denR (outTys laws_toRegister.g.rts laws_toRegister.g.pms))) := []
theorem laws_toRegister.hf (k : Nat) (x : denI laws_toRegister.g.pms) : laws_toRegister.fk k x = evC (laws_toRegister.E k) (fun κ s => lhOf k κ s laws_toRegister.pts) b11 (OM.start laws_toRegister.g.pms 0 x) (OM.fin laws_toRegister.g Try.f11.results.toList) := by kernel_rfl
theorem laws_toRegister.ok (k : Nat) : SmOk Try.prog (laws_toRegister.sm k) :=
  sm_ok mixed (E := laws_toRegister.E) (pts := laws_toRegister.pts) (fun k => ⟨⟨tysOk, by kernel_rfl⟩, forall_cons ⟨laws_toEraS.ok k, e48⟩ (forall_nil)⟩) (fun _ => rfl) (fun _ => rfl)
    ⟨Try.func11, by kernel_rfl, by kernel_rfl, by kernel_rfl, by kernel_rfl, by kernel_rfl, by kernel_rfl⟩ (forall_nil) laws_toRegister.hf k
noncomputable def b47 : Code := Try.f47.body.getD .skip
theorem e47 : OM.Entry Try.prog 47 := ⟨_, Try.func47, by kernel_rfl, by kernel_rfl⟩
@[reducible] noncomputable def spec_l1In.g : Sig := ⟨[.fz (.int .i64), .fz (.int .i64), .fz (.int .i64)], [.v .bool .z], []⟩
@[reducible] noncomputable def spec_l1In.fk : Nat → denI spec_l1In.g.pms → Option (denR (outTys spec_l1In.g.rts spec_l1In.g.pms)) := fun k x => spec_l1In.f x.1 x.2.1 x.2.2.1
@[reducible] noncomputable def spec_l1In.sm (k : Nat) : Sm := ⟨47, spec_l1In.g.pms, spec_l1In.g.rts, spec_l1In.fk k⟩
noncomputable def spec_l1In.E (k : Nat) : Env := ⟨tys, [], [], [], []⟩
noncomputable def spec_l1In.pts : List (Pt (denR (outTys spec_l1In.g.rts spec_l1In.g.pms))) := []
theorem spec_l1In.hf (k : Nat) (x : denI spec_l1In.g.pms) : spec_l1In.fk k x = evC (spec_l1In.E k) (fun κ s => lhOf k κ s spec_l1In.pts) b47 (OM.start spec_l1In.g.pms 0 x) (OM.fin spec_l1In.g Try.f47.results.toList) := by kernel_rfl
theorem spec_l1In.ok (k : Nat) : SmOk Try.prog (spec_l1In.sm k) :=
  sm_ok mixed (E := spec_l1In.E) (pts := spec_l1In.pts) (fun k => ⟨⟨tysOk, by kernel_rfl⟩, forall_nil⟩) (fun _ => rfl) (fun _ => rfl)
    ⟨Try.func47, by kernel_rfl, by kernel_rfl, by kernel_rfl, by kernel_rfl, by kernel_rfl, by kernel_rfl⟩ (forall_nil) spec_l1In.hf k
noncomputable def b10 : Code := Try.f10.body.getD .skip
theorem e10 : OM.Entry Try.prog 10 := ⟨_, Try.func10, by kernel_rfl, by kernel_rfl⟩
@[reducible] noncomputable def spec_EraNodes.g : Sig := ⟨[.fz tRegister, .fz (.int .i64)], [.v (.sl (.int .i64)) (.own .z)], []⟩
@[reducible] noncomputable def spec_EraNodes.fk : Nat → denI spec_EraNodes.g.pms → Option (denR (outTys spec_EraNodes.g.rts spec_EraNodes.g.pms)) := fun k x => spec_EraNodes.f x.1 x.2.1
@[reducible] noncomputable def spec_EraNodes.sm (k : Nat) : Sm := ⟨10, spec_EraNodes.g.pms, spec_EraNodes.g.rts, spec_EraNodes.fk k⟩
noncomputable def spec_EraNodes.E (k : Nat) : Env := ⟨tys, [spec_l1In.sm k], [19], [], []⟩
noncomputable def spec_EraNodes.pts : List (Pt (denR (outTys spec_EraNodes.g.rts spec_EraNodes.g.pms))) := []
theorem spec_EraNodes.hf (k : Nat) (x : denI spec_EraNodes.g.pms) : spec_EraNodes.fk k x = evC (spec_EraNodes.E k) (fun κ s => lhOf k κ s spec_EraNodes.pts) b10 (OM.start spec_EraNodes.g.pms 0 x) (OM.fin spec_EraNodes.g Try.f10.results.toList) := by kernel_rfl
theorem spec_EraNodes.ok (k : Nat) : SmOk Try.prog (spec_EraNodes.sm k) :=
  sm_ok mixed (E := spec_EraNodes.E) (pts := spec_EraNodes.pts) (fun k => ⟨⟨tysOk, by kernel_rfl⟩, forall_cons ⟨spec_l1In.ok k, e47⟩ (forall_nil)⟩) (fun _ => rfl) (fun _ => rfl)
    ⟨Try.func10, by kernel_rfl, by kernel_rfl, by kernel_rfl, by kernel_rfl, by kernel_rfl, by kernel_rfl⟩ (forall_nil) spec_EraNodes.hf k
noncomputable def b49 : Code := Try.f49.body.getD .skip
theorem e49 : OM.Entry Try.prog 49 := ⟨_, Try.func49, by kernel_rfl, by kernel_rfl⟩
@[reducible] noncomputable def impl_within.g : Sig := ⟨[.fz (.int .i64), .fz (.int .i64), .fz (.int .i64)], [.v .bool .z], []⟩
@[reducible] noncomputable def impl_within.fk : Nat → denI impl_within.g.pms → Option (denR (outTys impl_within.g.rts impl_within.g.pms)) := fun k x => impl_within.f x.1 x.2.1 x.2.2.1
@[reducible] noncomputable def impl_within.sm (k : Nat) : Sm := ⟨49, impl_within.g.pms, impl_within.g.rts, impl_within.fk k⟩
noncomputable def impl_within.E (k : Nat) : Env := ⟨tys, [], [], [], []⟩
noncomputable def impl_within.pts : List (Pt (denR (outTys impl_within.g.rts impl_within.g.pms))) := []
theorem impl_within.hf (k : Nat) (x : denI impl_within.g.pms) : impl_within.fk k x = evC (impl_within.E k) (fun κ s => lhOf k κ s impl_within.pts) b49 (OM.start impl_within.g.pms 0 x) (OM.fin impl_within.g Try.f49.results.toList) := by kernel_rfl
theorem impl_within.ok (k : Nat) : SmOk Try.prog (impl_within.sm k) :=
  sm_ok mixed (E := impl_within.E) (pts := impl_within.pts) (fun k => ⟨⟨tysOk, by kernel_rfl⟩, forall_nil⟩) (fun _ => rfl) (fun _ => rfl)
    ⟨Try.func49, by kernel_rfl, by kernel_rfl, by kernel_rfl, by kernel_rfl, by kernel_rfl, by kernel_rfl⟩ (forall_nil) impl_within.hf k
noncomputable def b50 : Code := Try.f50.body.getD .skip
theorem e50 : OM.Entry Try.prog 50 := ⟨_, Try.func50, by kernel_rfl, by kernel_rfl⟩
@[reducible] noncomputable def impl_copyInts.g : Sig := ⟨[.fz (.sl (.int .i64))], [.v (.sl (.int .i64)) (.own .z)], []⟩
@[reducible] noncomputable def impl_copyInts.fk : Nat → denI impl_copyInts.g.pms → Option (denR (outTys impl_copyInts.g.rts impl_copyInts.g.pms)) := fun k x => impl_copyInts.f x.1
@[reducible] noncomputable def impl_copyInts.sm (k : Nat) : Sm := ⟨50, impl_copyInts.g.pms, impl_copyInts.g.rts, impl_copyInts.fk k⟩
noncomputable def impl_copyInts.E (k : Nat) : Env := ⟨tys, [], [4], [], []⟩
noncomputable def impl_copyInts.pts : List (Pt (denR (outTys impl_copyInts.g.rts impl_copyInts.g.pms))) := []
theorem impl_copyInts.hf (k : Nat) (x : denI impl_copyInts.g.pms) : impl_copyInts.fk k x = evC (impl_copyInts.E k) (fun κ s => lhOf k κ s impl_copyInts.pts) b50 (OM.start impl_copyInts.g.pms 0 x) (OM.fin impl_copyInts.g Try.f50.results.toList) := by kernel_rfl
theorem impl_copyInts.ok (k : Nat) : SmOk Try.prog (impl_copyInts.sm k) :=
  sm_ok mixed (E := impl_copyInts.E) (pts := impl_copyInts.pts) (fun k => ⟨⟨tysOk, by kernel_rfl⟩, forall_nil⟩) (fun _ => rfl) (fun _ => rfl)
    ⟨Try.func50, by kernel_rfl, by kernel_rfl, by kernel_rfl, by kernel_rfl, by kernel_rfl, by kernel_rfl⟩ (forall_nil) impl_copyInts.hf k
noncomputable def b12 : Code := Try.f12.body.getD .skip
theorem e12 : OM.Entry Try.prog 12 := ⟨_, Try.func12, by kernel_rfl, by kernel_rfl⟩
@[reducible] noncomputable def impl_EraNodes.g : Sig := ⟨[.fz tRegister, .fz (.int .i64)], [.v (.sl (.int .i64)) (.own .z)], []⟩
@[reducible] noncomputable def impl_EraNodes.fk : Nat → denI impl_EraNodes.g.pms → Option (denR (outTys impl_EraNodes.g.rts impl_EraNodes.g.pms)) := fun k x => impl_EraNodes.f x.1 x.2.1
@[reducible] noncomputable def impl_EraNodes.sm (k : Nat) : Sm := ⟨12, impl_EraNodes.g.pms, impl_EraNodes.g.rts, impl_EraNodes.fk k⟩
noncomputable def impl_EraNodes.E (k : Nat) : Env := ⟨tys, [impl_within.sm k, impl_copyInts.sm k], [], [], []⟩
noncomputable def impl_EraNodes.pts : List (Pt (denR (outTys impl_EraNodes.g.rts impl_EraNodes.g.pms))) := []
theorem impl_EraNodes.hf (k : Nat) (x : denI impl_EraNodes.g.pms) : impl_EraNodes.fk k x = evC (impl_EraNodes.E k) (fun κ s => lhOf k κ s impl_EraNodes.pts) b12 (OM.start impl_EraNodes.g.pms 0 x) (OM.fin impl_EraNodes.g Try.f12.results.toList) := by kernel_rfl
theorem impl_EraNodes.ok (k : Nat) : SmOk Try.prog (impl_EraNodes.sm k) :=
  sm_ok mixed (E := impl_EraNodes.E) (pts := impl_EraNodes.pts) (fun k => ⟨⟨tysOk, by kernel_rfl⟩, forall_cons ⟨impl_within.ok k, e49⟩ (forall_cons ⟨impl_copyInts.ok k, e50⟩ (forall_nil))⟩) (fun _ => rfl) (fun _ => rfl)
    ⟨Try.func12, by kernel_rfl, by kernel_rfl, by kernel_rfl, by kernel_rfl, by kernel_rfl, by kernel_rfl⟩ (forall_nil) impl_EraNodes.hf k
noncomputable def b13 : Code := Try.f13.body.getD .skip
theorem e13 : OM.Entry Try.prog 13 := ⟨_, Try.func13, by kernel_rfl, by kernel_rfl⟩
@[reducible] noncomputable def laws_eqIntS.g : Sig := ⟨[.fz (.sl (.int .i64)), .fz (.sl (.int .i64))], [.v .bool .z], []⟩
@[reducible] noncomputable def laws_eqIntS.fk : Nat → denI laws_eqIntS.g.pms → Option (denR (outTys laws_eqIntS.g.rts laws_eqIntS.g.pms)) := fun k x => laws_eqIntS.f k x.1 x.2.1
@[reducible] noncomputable def laws_eqIntS.sm (k : Nat) : Sm := ⟨13, laws_eqIntS.g.pms, laws_eqIntS.g.rts, laws_eqIntS.fk k⟩
noncomputable def laws_eqIntS.E (k : Nat) : Env := ⟨tys, [], [], [], []⟩
@[reducible] noncomputable def laws_eqIntS.s9 : List Slot := [.v 0 (.sl (.int .i64)) .z [] 0, .v 4 (.sl (.int .i64)) .z [] 0, .v 20 (.int .i64) .z [] 0]
noncomputable def laws_eqIntS.pts : List (Pt (denR (outTys laws_eqIntS.g.rts laws_eqIntS.g.pms))) := [⟨9, laws_eqIntS.s9, fun k x => laws_eqIntS.p9 k x.1 x.2.1 x.2.2.1⟩]
theorem laws_eqIntS.h9 (x : denS laws_eqIntS.s9) (k : Nat) : (laws_eqIntS.p9 (k + 1) x.1 x.2.1 x.2.2.1 : Option (denR (outTys laws_eqIntS.g.rts laws_eqIntS.g.pms))) = evAt (laws_eqIntS.E k) (fun κ s => lhOf k κ s laws_eqIntS.pts) 9 b13 (unproj laws_eqIntS.s9 x) (OM.fin laws_eqIntS.g Try.f13.results.toList) := by kernel_rfl
theorem laws_eqIntS.hf (k : Nat) (x : denI laws_eqIntS.g.pms) : laws_eqIntS.fk k x = evC (laws_eqIntS.E k) (fun κ s => lhOf k κ s laws_eqIntS.pts) b13 (OM.start laws_eqIntS.g.pms 0 x) (OM.fin laws_eqIntS.g Try.f13.results.toList) := by kernel_rfl
theorem laws_eqIntS.ok (k : Nat) : SmOk Try.prog (laws_eqIntS.sm k) :=
  sm_ok mixed (E := laws_eqIntS.E) (pts := laws_eqIntS.pts) (fun k => ⟨⟨tysOk, by kernel_rfl⟩, forall_nil⟩) (fun _ => rfl) (fun _ => rfl)
    ⟨Try.func13, by kernel_rfl, by kernel_rfl, by kernel_rfl, by kernel_rfl, by kernel_rfl, by kernel_rfl⟩ (forall_cons (fun x => ⟨rfl, laws_eqIntS.h9 x⟩) (forall_nil)) laws_eqIntS.hf k
noncomputable def b102 : Code := Try.f102.body.getD .skip
theorem e102 : OM.Entry Try.prog 102 := ⟨_, Try.func102, by kernel_rfl, by kernel_rfl⟩
@[reducible] noncomputable def laws_eqEra.g : Sig := ⟨[.fz tEra, .fz tEra], [.v .bool .z], []⟩
@[reducible] noncomputable def laws_eqEra.fk : Nat → denI laws_eqEra.g.pms → Option (denR (outTys laws_eqEra.g.rts laws_eqEra.g.pms)) := fun k x => laws_eqEra.f k x.1 x.2.1
@[reducible] noncomputable def laws_eqEra.sm (k : Nat) : Sm := ⟨102, laws_eqEra.g.pms, laws_eqEra.g.rts, laws_eqEra.fk k⟩
noncomputable def laws_eqEra.E (k : Nat) : Env := ⟨tys, [laws_eqIntS.sm k], [], [], [4]⟩
noncomputable def laws_eqEra.pts : List (Pt (denR (outTys laws_eqEra.g.rts laws_eqEra.g.pms))) := []
theorem laws_eqEra.hf (k : Nat) (x : denI laws_eqEra.g.pms) : laws_eqEra.fk k x = evC (laws_eqEra.E k) (fun κ s => lhOf k κ s laws_eqEra.pts) b102 (OM.start laws_eqEra.g.pms 0 x) (OM.fin laws_eqEra.g Try.f102.results.toList) := by kernel_rfl
theorem laws_eqEra.ok (k : Nat) : SmOk Try.prog (laws_eqEra.sm k) :=
  sm_ok mixed (E := laws_eqEra.E) (pts := laws_eqEra.pts) (fun k => ⟨⟨tysOk, by kernel_rfl⟩, forall_cons ⟨laws_eqIntS.ok k, e13⟩ (forall_nil)⟩) (fun _ => rfl) (fun _ => rfl)
    ⟨Try.func102, by kernel_rfl, by kernel_rfl, by kernel_rfl, by kernel_rfl, by kernel_rfl, by kernel_rfl⟩ (forall_nil) laws_eqEra.hf k
noncomputable def b51 : Code := Try.f51.body.getD .skip
theorem e51 : OM.Entry Try.prog 51 := ⟨_, Try.func51, by kernel_rfl, by kernel_rfl⟩
@[reducible] noncomputable def laws_eqEraS.g : Sig := ⟨[.fz (.sl tEra), .fz (.sl tEra)], [.v .bool .z], []⟩
@[reducible] noncomputable def laws_eqEraS.fk : Nat → denI laws_eqEraS.g.pms → Option (denR (outTys laws_eqEraS.g.rts laws_eqEraS.g.pms)) := fun k x => laws_eqEraS.f k x.1 x.2.1
@[reducible] noncomputable def laws_eqEraS.sm (k : Nat) : Sm := ⟨51, laws_eqEraS.g.pms, laws_eqEraS.g.rts, laws_eqEraS.fk k⟩
noncomputable def laws_eqEraS.E (k : Nat) : Env := ⟨tys, [laws_eqEra.sm k], [], [], []⟩
@[reducible] noncomputable def laws_eqEraS.s9 : List Slot := [.v 0 (.sl tEra) .z [] 0, .v 4 (.sl tEra) .z [] 0, .v 20 (.int .i64) .z [] 0]
noncomputable def laws_eqEraS.pts : List (Pt (denR (outTys laws_eqEraS.g.rts laws_eqEraS.g.pms))) := [⟨9, laws_eqEraS.s9, fun k x => laws_eqEraS.p9 k x.1 x.2.1 x.2.2.1⟩]
theorem laws_eqEraS.h9 (x : denS laws_eqEraS.s9) (k : Nat) : (laws_eqEraS.p9 (k + 1) x.1 x.2.1 x.2.2.1 : Option (denR (outTys laws_eqEraS.g.rts laws_eqEraS.g.pms))) = evAt (laws_eqEraS.E k) (fun κ s => lhOf k κ s laws_eqEraS.pts) 9 b51 (unproj laws_eqEraS.s9 x) (OM.fin laws_eqEraS.g Try.f51.results.toList) := by kernel_rfl
theorem laws_eqEraS.hf (k : Nat) (x : denI laws_eqEraS.g.pms) : laws_eqEraS.fk k x = evC (laws_eqEraS.E k) (fun κ s => lhOf k κ s laws_eqEraS.pts) b51 (OM.start laws_eqEraS.g.pms 0 x) (OM.fin laws_eqEraS.g Try.f51.results.toList) := by kernel_rfl
theorem laws_eqEraS.ok (k : Nat) : SmOk Try.prog (laws_eqEraS.sm k) :=
  sm_ok mixed (E := laws_eqEraS.E) (pts := laws_eqEraS.pts) (fun k => ⟨⟨tysOk, by kernel_rfl⟩, forall_cons ⟨laws_eqEra.ok k, e102⟩ (forall_nil)⟩) (fun _ => rfl) (fun _ => rfl)
    ⟨Try.func51, by kernel_rfl, by kernel_rfl, by kernel_rfl, by kernel_rfl, by kernel_rfl, by kernel_rfl⟩ (forall_cons (fun x => ⟨rfl, laws_eqEraS.h9 x⟩) (forall_nil)) laws_eqEraS.hf k
noncomputable def b14 : Code := Try.f14.body.getD .skip
theorem e14 : OM.Entry Try.prog 14 := ⟨_, Try.func14, by kernel_rfl, by kernel_rfl⟩
@[reducible] noncomputable def laws_eqRegister.g : Sig := ⟨[.fz tRegister, .fz tRegister], [.v .bool .z], []⟩
@[reducible] noncomputable def laws_eqRegister.fk : Nat → denI laws_eqRegister.g.pms → Option (denR (outTys laws_eqRegister.g.rts laws_eqRegister.g.pms)) := fun k x => laws_eqRegister.f k x.1 x.2.1
@[reducible] noncomputable def laws_eqRegister.sm (k : Nat) : Sm := ⟨14, laws_eqRegister.g.pms, laws_eqRegister.g.rts, laws_eqRegister.fk k⟩
noncomputable def laws_eqRegister.E (k : Nat) : Env := ⟨tys, [laws_eqEraS.sm k], [], [], []⟩
noncomputable def laws_eqRegister.pts : List (Pt (denR (outTys laws_eqRegister.g.rts laws_eqRegister.g.pms))) := []
theorem laws_eqRegister.hf (k : Nat) (x : denI laws_eqRegister.g.pms) : laws_eqRegister.fk k x = evC (laws_eqRegister.E k) (fun κ s => lhOf k κ s laws_eqRegister.pts) b14 (OM.start laws_eqRegister.g.pms 0 x) (OM.fin laws_eqRegister.g Try.f14.results.toList) := by kernel_rfl
theorem laws_eqRegister.ok (k : Nat) : SmOk Try.prog (laws_eqRegister.sm k) :=
  sm_ok mixed (E := laws_eqRegister.E) (pts := laws_eqRegister.pts) (fun k => ⟨⟨tysOk, by kernel_rfl⟩, forall_cons ⟨laws_eqEraS.ok k, e51⟩ (forall_nil)⟩) (fun _ => rfl) (fun _ => rfl)
    ⟨Try.func14, by kernel_rfl, by kernel_rfl, by kernel_rfl, by kernel_rfl, by kernel_rfl, by kernel_rfl⟩ (forall_nil) laws_eqRegister.hf k
noncomputable def b16 : Code := Try.f16.body.getD .skip
theorem e16 : OM.Entry Try.prog 16 := ⟨_, Try.func16, by kernel_rfl, by kernel_rfl⟩
@[reducible] noncomputable def laws_markIntS.g : Sig := ⟨[.mut (.sl (.int .i64)) (.own .z), .fz (.int .i64)], [.v (.int .i64) .z], [0]⟩
@[reducible] noncomputable def laws_markIntS.fk : Nat → denI laws_markIntS.g.pms → Option (denR (outTys laws_markIntS.g.rts laws_markIntS.g.pms)) := fun k x => laws_markIntS.f k x.1 x.2.1
@[reducible] noncomputable def laws_markIntS.sm (k : Nat) : Sm := ⟨16, laws_markIntS.g.pms, laws_markIntS.g.rts, laws_markIntS.fk k⟩
noncomputable def laws_markIntS.E (k : Nat) : Env := ⟨tys, [], [], [], []⟩
@[reducible] noncomputable def laws_markIntS.s5 : List Slot := [.v 0 (.sl (.int .i64)) (.own .z) [] 1, .v 4 (.int .i64) .z [] 0, .v 20 (.int .i64) .z [] 0]
noncomputable def laws_markIntS.pts : List (Pt (denR (outTys laws_markIntS.g.rts laws_markIntS.g.pms))) := [⟨5, laws_markIntS.s5, fun k x => laws_markIntS.p5 k x.1 x.2.1 x.2.2.1⟩]
theorem laws_markIntS.h5 (x : denS laws_markIntS.s5) (k : Nat) : (laws_markIntS.p5 (k + 1) x.1 x.2.1 x.2.2.1 : Option (denR (outTys laws_markIntS.g.rts laws_markIntS.g.pms))) = evAt (laws_markIntS.E k) (fun κ s => lhOf k κ s laws_markIntS.pts) 5 b16 (unproj laws_markIntS.s5 x) (OM.fin laws_markIntS.g Try.f16.results.toList) := by kernel_rfl
theorem laws_markIntS.hf (k : Nat) (x : denI laws_markIntS.g.pms) : laws_markIntS.fk k x = evC (laws_markIntS.E k) (fun κ s => lhOf k κ s laws_markIntS.pts) b16 (OM.start laws_markIntS.g.pms 0 x) (OM.fin laws_markIntS.g Try.f16.results.toList) := by kernel_rfl
theorem laws_markIntS.ok (k : Nat) : SmOk Try.prog (laws_markIntS.sm k) :=
  sm_ok mixed (E := laws_markIntS.E) (pts := laws_markIntS.pts) (fun k => ⟨⟨tysOk, by kernel_rfl⟩, forall_nil⟩) (fun _ => rfl) (fun _ => rfl)
    ⟨Try.func16, by kernel_rfl, by kernel_rfl, by kernel_rfl, by kernel_rfl, by kernel_rfl, by kernel_rfl⟩ (forall_cons (fun x => ⟨rfl, laws_markIntS.h5 x⟩) (forall_nil)) laws_markIntS.hf k
noncomputable def b52 : Code := Try.f52.body.getD .skip
theorem e52 : OM.Entry Try.prog 52 := ⟨_, Try.func52, by kernel_rfl, by kernel_rfl⟩
@[reducible] noncomputable def laws_markEraS.g : Sig := ⟨[.mut (.sl tEra) (.own (.two (.own .z) .z)), .fz (.int .i64)], [.v (.int .i64) .z], [0]⟩
@[reducible] noncomputable def laws_markEraS.fk : Nat → denI laws_markEraS.g.pms → Option (denR (outTys laws_markEraS.g.rts laws_markEraS.g.pms)) := fun k x => laws_markEraS.f k x.1 x.2.1
@[reducible] noncomputable def laws_markEraS.sm (k : Nat) : Sm := ⟨52, laws_markEraS.g.pms, laws_markEraS.g.rts, laws_markEraS.fk k⟩
noncomputable def laws_markEraS.E (k : Nat) : Env := ⟨tys, [laws_markIntS.sm k], [], [], []⟩
@[reducible] noncomputable def laws_markEraS.s5 : List Slot := [.v 0 (.sl tEra) (.own (.two (.own .z) .z)) [] 1, .v 4 (.int .i64) .z [] 0, .v 20 (.int .i64) .z [] 0]
noncomputable def laws_markEraS.pts : List (Pt (denR (outTys laws_markEraS.g.rts laws_markEraS.g.pms))) := [⟨5, laws_markEraS.s5, fun k x => laws_markEraS.p5 k x.1 x.2.1 x.2.2.1⟩]
theorem laws_markEraS.h5 (x : denS laws_markEraS.s5) (k : Nat) : (laws_markEraS.p5 (k + 1) x.1 x.2.1 x.2.2.1 : Option (denR (outTys laws_markEraS.g.rts laws_markEraS.g.pms))) = evAt (laws_markEraS.E k) (fun κ s => lhOf k κ s laws_markEraS.pts) 5 b52 (unproj laws_markEraS.s5 x) (OM.fin laws_markEraS.g Try.f52.results.toList) := by kernel_rfl
theorem laws_markEraS.hf (k : Nat) (x : denI laws_markEraS.g.pms) : laws_markEraS.fk k x = evC (laws_markEraS.E k) (fun κ s => lhOf k κ s laws_markEraS.pts) b52 (OM.start laws_markEraS.g.pms 0 x) (OM.fin laws_markEraS.g Try.f52.results.toList) := by kernel_rfl
theorem laws_markEraS.ok (k : Nat) : SmOk Try.prog (laws_markEraS.sm k) :=
  sm_ok mixed (E := laws_markEraS.E) (pts := laws_markEraS.pts) (fun k => ⟨⟨tysOk, by kernel_rfl⟩, forall_cons ⟨laws_markIntS.ok k, e16⟩ (forall_nil)⟩) (fun _ => rfl) (fun _ => rfl)
    ⟨Try.func52, by kernel_rfl, by kernel_rfl, by kernel_rfl, by kernel_rfl, by kernel_rfl, by kernel_rfl⟩ (forall_cons (fun x => ⟨rfl, laws_markEraS.h5 x⟩) (forall_nil)) laws_markEraS.hf k
noncomputable def b15 : Code := Try.f15.body.getD .skip
theorem e15 : OM.Entry Try.prog 15 := ⟨_, Try.func15, by kernel_rfl, by kernel_rfl⟩
@[reducible] noncomputable def laws_markRegister.g : Sig := ⟨[.mut tRegister (.two (.own (.two (.own .z) .z)) .z), .fz (.int .i64)], [.v (.int .i64) .z], [9]⟩
@[reducible] noncomputable def laws_markRegister.fk : Nat → denI laws_markRegister.g.pms → Option (denR (outTys laws_markRegister.g.rts laws_markRegister.g.pms)) := fun k x => laws_markRegister.f k x.1 x.2.1
@[reducible] noncomputable def laws_markRegister.sm (k : Nat) : Sm := ⟨15, laws_markRegister.g.pms, laws_markRegister.g.rts, laws_markRegister.fk k⟩
noncomputable def laws_markRegister.E (k : Nat) : Env := ⟨tys, [laws_markEraS.sm k], [], [], []⟩
noncomputable def laws_markRegister.pts : List (Pt (denR (outTys laws_markRegister.g.rts laws_markRegister.g.pms))) := []
theorem laws_markRegister.hf (k : Nat) (x : denI laws_markRegister.g.pms) : laws_markRegister.fk k x = evC (laws_markRegister.E k) (fun κ s => lhOf k κ s laws_markRegister.pts) b15 (OM.start laws_markRegister.g.pms 0 x) (OM.fin laws_markRegister.g Try.f15.results.toList) := by kernel_rfl
theorem laws_markRegister.ok (k : Nat) : SmOk Try.prog (laws_markRegister.sm k) :=
  sm_ok mixed (E := laws_markRegister.E) (pts := laws_markRegister.pts) (fun k => ⟨⟨tysOk, by kernel_rfl⟩, forall_cons ⟨laws_markEraS.ok k, e52⟩ (forall_nil)⟩) (fun _ => rfl) (fun _ => rfl)
    ⟨Try.func15, by kernel_rfl, by kernel_rfl, by kernel_rfl, by kernel_rfl, by kernel_rfl, by kernel_rfl⟩ (forall_nil) laws_markRegister.hf k
noncomputable def b17 : Code := Try.f17.body.getD .skip
theorem e17 : OM.Entry Try.prog 17 := ⟨_, Try.func17, by kernel_rfl, by kernel_rfl⟩
@[reducible] noncomputable def laws_heldIntS.g : Sig := ⟨[.fz (.sl (.int .i64)), .fz (.int .i64)], [.v (.int .i64) .z], []⟩
@[reducible] noncomputable def laws_heldIntS.fk : Nat → denI laws_heldIntS.g.pms → Option (denR (outTys laws_heldIntS.g.rts laws_heldIntS.g.pms)) := fun k x => laws_heldIntS.f k x.1 x.2.1
@[reducible] noncomputable def laws_heldIntS.sm (k : Nat) : Sm := ⟨17, laws_heldIntS.g.pms, laws_heldIntS.g.rts, laws_heldIntS.fk k⟩
noncomputable def laws_heldIntS.E (k : Nat) : Env := ⟨tys, [], [], [], []⟩
@[reducible] noncomputable def laws_heldIntS.s5 : List Slot := [.v 0 (.sl (.int .i64)) .z [] 0, .v 4 (.int .i64) .z [] 0, .v 20 (.int .i64) .z [] 0]
noncomputable def laws_heldIntS.pts : List (Pt (denR (outTys laws_heldIntS.g.rts laws_heldIntS.g.pms))) := [⟨5, laws_heldIntS.s5, fun k x => laws_heldIntS.p5 k x.1 x.2.1 x.2.2.1⟩]
theorem laws_heldIntS.h5 (x : denS laws_heldIntS.s5) (k : Nat) : (laws_heldIntS.p5 (k + 1) x.1 x.2.1 x.2.2.1 : Option (denR (outTys laws_heldIntS.g.rts laws_heldIntS.g.pms))) = evAt (laws_heldIntS.E k) (fun κ s => lhOf k κ s laws_heldIntS.pts) 5 b17 (unproj laws_heldIntS.s5 x) (OM.fin laws_heldIntS.g Try.f17.results.toList) := by kernel_rfl
theorem laws_heldIntS.hf (k : Nat) (x : denI laws_heldIntS.g.pms) : laws_heldIntS.fk k x = evC (laws_heldIntS.E k) (fun κ s => lhOf k κ s laws_heldIntS.pts) b17 (OM.start laws_heldIntS.g.pms 0 x) (OM.fin laws_heldIntS.g Try.f17.results.toList) := by kernel_rfl
theorem laws_heldIntS.ok (k : Nat) : SmOk Try.prog (laws_heldIntS.sm k) :=
  sm_ok mixed (E := laws_heldIntS.E) (pts := laws_heldIntS.pts) (fun k => ⟨⟨tysOk, by kernel_rfl⟩, forall_nil⟩) (fun _ => rfl) (fun _ => rfl)
    ⟨Try.func17, by kernel_rfl, by kernel_rfl, by kernel_rfl, by kernel_rfl, by kernel_rfl, by kernel_rfl⟩ (forall_cons (fun x => ⟨rfl, laws_heldIntS.h5 x⟩) (forall_nil)) laws_heldIntS.hf k
noncomputable def b3 : Code := Try.f3.body.getD .skip
theorem e3 : OM.Entry Try.prog 3 := ⟨_, Try.func3, by kernel_rfl, by kernel_rfl⟩
@[reducible] noncomputable def laws_FnExactEraNodes.g : Sig := ⟨[.fz tRegister, .fz (.int .i64)], [.v .bool .z], []⟩
@[reducible] noncomputable def laws_FnExactEraNodes.fk : Nat → denI laws_FnExactEraNodes.g.pms → Option (denR (outTys laws_FnExactEraNodes.g.rts laws_FnExactEraNodes.g.pms)) := fun k x => laws_FnExactEraNodes.f k x.1 x.2.1
@[reducible] noncomputable def laws_FnExactEraNodes.sm (k : Nat) : Sm := ⟨3, laws_FnExactEraNodes.g.pms, laws_FnExactEraNodes.g.rts, laws_FnExactEraNodes.fk k⟩
noncomputable def laws_FnExactEraNodes.E (k : Nat) : Env := ⟨tys, [laws_szRegister.sm k, laws_toRegister.sm k, spec_EraNodes.sm k, impl_EraNodes.sm k, laws_eqIntS.sm k, laws_eqRegister.sm k, laws_markIntS.sm k, laws_markRegister.sm k, laws_heldIntS.sm k], [], [], []⟩
noncomputable def laws_FnExactEraNodes.pts : List (Pt (denR (outTys laws_FnExactEraNodes.g.rts laws_FnExactEraNodes.g.pms))) := []
theorem laws_FnExactEraNodes.hf (k : Nat) (x : denI laws_FnExactEraNodes.g.pms) : laws_FnExactEraNodes.fk k x = evC (laws_FnExactEraNodes.E k) (fun κ s => lhOf k κ s laws_FnExactEraNodes.pts) b3 (OM.start laws_FnExactEraNodes.g.pms 0 x) (OM.fin laws_FnExactEraNodes.g Try.f3.results.toList) := by kernel_rfl
theorem laws_FnExactEraNodes.ok (k : Nat) : SmOk Try.prog (laws_FnExactEraNodes.sm k) :=
  sm_ok mixed (E := laws_FnExactEraNodes.E) (pts := laws_FnExactEraNodes.pts) (fun k => ⟨⟨tysOk, by kernel_rfl⟩, forall_cons ⟨laws_szRegister.ok k, e9⟩ (forall_cons ⟨laws_toRegister.ok k, e11⟩ (forall_cons ⟨spec_EraNodes.ok k, e10⟩ (forall_cons ⟨impl_EraNodes.ok k, e12⟩ (forall_cons ⟨laws_eqIntS.ok k, e13⟩ (forall_cons ⟨laws_eqRegister.ok k, e14⟩ (forall_cons ⟨laws_markIntS.ok k, e16⟩ (forall_cons ⟨laws_markRegister.ok k, e15⟩ (forall_cons ⟨laws_heldIntS.ok k, e17⟩ (forall_nil)))))))))⟩) (fun _ => rfl) (fun _ => rfl)
    ⟨Try.func3, by kernel_rfl, by kernel_rfl, by kernel_rfl, by kernel_rfl, by kernel_rfl, by kernel_rfl⟩ (forall_nil) laws_FnExactEraNodes.hf k
end Go.Proofs.Ytdkdhciogedoiaa.OmFnExactEraNodes
