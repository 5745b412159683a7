import Derived.Test.YtllmifioelbleabFFnExactMendForget
import Derived.Test.YtllmifioelbleabChecked
set_option maxRecDepth 1000000
set_option linter.unusedVariables false
namespace Go.Proofs.Ytllmifioelbleab.OmFnExactMendForget
open Go Go.OM
noncomputable def tys : List (Option Ty) := [none, none, some (.int .i64), some (.int .i64), some .bool, some (.int .u8), some (.int .u8), some (.pair (.int .i64) (.pair (.int .i64) (.pair .bool (.pair (.int .u8) .unit)))), some (.pair (.int .i64) (.pair (.int .i64) (.pair .bool (.pair (.int .u8) .unit)))), some .str, some .str, some .str, some (.int .u64), some (.pair .str (.pair (.int .u64) .unit)), some (.pair .str (.pair (.int .u64) .unit)), none, none, none, none, none, none, some (.int .i32), some (.sl (.int .i64)), some tConfig, some tConfig, some (.sl tWord), some tWriter, some tWriter, none, none, some (.sl tWord), some tWriter, some tWriter, none, none, some tConfig, none, none, none, none, none, none, none, some (.sl (.int .u8)), none, none, none, none, some tWord, some tWord, none, none, none, none, none, some (.sl tEntry), some (.sl (.sl (.int .i64))), some tMend, some tMend, none, some (.sl tEntry), some tMend, some tMend, none, none, none, none, none, none, none, none, none, none, none, none, none, none, none, none, none, none, none, none, none, none, none, none, none, none, none, none, none, none, none, none, none, none, none, none, none, none, none, none, none, none, none, none, none, none, some tEntry, some tEntry, none, some tEntry, none, none, none, none, none, some tWord, none, none, none, some tl1Cur, some tl1Cur, none, none, none, none, none, none, none, none, none, none, none, none, none, none, none, none, none, none, none, some (.sl .str), none, some (.int .u64), none, none, some (.sl .bool), none, none, none, none, none, none, none, none, none, none, none, none, some (.int .u32), some (.int .u8), some (.int .u8), none, none, some (.int .i32), some (.int .i32), none, none, none]
theorem tysOk : okTys Try.prog tys 0 tys = true := by kernel_rfl
theorem mixed : Try.prog.follows .mixedOrders = true := by kernel_rfl
noncomputable def b47 : Code := Try.f47.body.getD .skip
theorem e47 : OM.Entry Try.prog 47 := ⟨_, Try.func47, by kernel_rfl, by kernel_rfl⟩
@[reducible] noncomputable def laws_szIntS.g : Sig := ⟨[.fz (.sl (.int .i64)), .fz (.int .i64)], [.v (.int .i64) .z], []⟩
@[reducible] noncomputable def laws_szIntS.fk : Nat → denI laws_szIntS.g.pms → Option (denR (outTys laws_szIntS.g.rts laws_szIntS.g.pms)) := fun k x => laws_szIntS.f x.1 x.2.1
@[reducible] noncomputable def laws_szIntS.sm (k : Nat) : Sm := ⟨47, laws_szIntS.g.pms, laws_szIntS.g.rts, laws_szIntS.fk k⟩
noncomputable def laws_szIntS.E (k : Nat) : Env := ⟨tys, [], [], [], []⟩
noncomputable def laws_szIntS.pts : List (Pt (denR (outTys laws_szIntS.g.rts laws_szIntS.g.pms))) := []
theorem laws_szIntS.hf (k : Nat) (a0 : (List Int)) (a1 : Int) : (laws_szIntS.f a0 a1 : Option (denR (outTys laws_szIntS.g.rts laws_szIntS.g.pms))) = evC (laws_szIntS.E k) (fun κ s => lhOf k κ s laws_szIntS.pts) b47 (OM.start laws_szIntS.g.pms 0 (a0, a1, ())) (OM.fin laws_szIntS.g Try.f47.results.toList) := by kernel_rfl
theorem laws_szIntS.ok (k : Nat) : SmOk Try.prog (laws_szIntS.sm k) :=
  sm_ok mixed (E := laws_szIntS.E) (pts := laws_szIntS.pts) (fun k => ⟨⟨tysOk, by kernel_rfl⟩, forall_nil⟩) (fun _ => rfl) (fun _ => rfl)
    ⟨Try.func47, by kernel_rfl, by kernel_rfl, by kernel_rfl, by kernel_rfl, by kernel_rfl, by kernel_rfl⟩ (forall_nil) (fun k x => laws_szIntS.hf k x.1 x.2.1) k
noncomputable def b9 : Code := Try.f9.body.getD .skip
theorem e9 : OM.Entry Try.prog 9 := ⟨_, Try.func9, by kernel_rfl, by kernel_rfl⟩
@[reducible] noncomputable def laws_szConfig.g : Sig := ⟨[.fz tConfig, .fz (.int .i64)], [.v (.int .i64) .z], []⟩
@[reducible] noncomputable def laws_szConfig.fk : Nat → denI laws_szConfig.g.pms → Option (denR (outTys laws_szConfig.g.rts laws_szConfig.g.pms)) := fun k x => laws_szConfig.f x.1 x.2.1
@[reducible] noncomputable def laws_szConfig.sm (k : Nat) : Sm := ⟨9, laws_szConfig.g.pms, laws_szConfig.g.rts, laws_szConfig.fk k⟩
noncomputable def laws_szConfig.E (k : Nat) : Env := ⟨tys, [laws_szIntS.sm k], [], [], []⟩
noncomputable def laws_szConfig.pts : List (Pt (denR (outTys laws_szConfig.g.rts laws_szConfig.g.pms))) := []
theorem laws_szConfig.hf (k : Nat) (a0 : Config) (a1 : Int) : (laws_szConfig.f a0 a1 : Option (denR (outTys laws_szConfig.g.rts laws_szConfig.g.pms))) = evC (laws_szConfig.E k) (fun κ s => lhOf k κ s laws_szConfig.pts) b9 (OM.start laws_szConfig.g.pms 0 (a0, a1, ())) (OM.fin laws_szConfig.g Try.f9.results.toList) := by kernel_rfl
theorem laws_szConfig.ok (k : Nat) : SmOk Try.prog (laws_szConfig.sm k) :=
  sm_ok mixed (E := laws_szConfig.E) (pts := laws_szConfig.pts) (fun k => ⟨⟨tysOk, by kernel_rfl⟩, forall_cons ⟨laws_szIntS.ok k, e47⟩ (forall_nil)⟩) (fun _ => rfl) (fun _ => rfl)
    ⟨Try.func9, by kernel_rfl, by kernel_rfl, by kernel_rfl, by kernel_rfl, by kernel_rfl, by kernel_rfl⟩ (forall_nil) (fun k x => laws_szConfig.hf k x.1 x.2.1) k
noncomputable def b92 : Code := Try.f92.body.getD .skip
theorem e92 : OM.Entry Try.prog 92 := ⟨_, Try.func92, by kernel_rfl, by kernel_rfl⟩
@[reducible] noncomputable def laws_szEntry.g : Sig := ⟨[.fz tEntry, .fz (.int .i64)], [.v (.int .i64) .z], []⟩
@[reducible] noncomputable def laws_szEntry.fk : Nat → denI laws_szEntry.g.pms → Option (denR (outTys laws_szEntry.g.rts laws_szEntry.g.pms)) := fun k x => laws_szEntry.f x.1 x.2.1
@[reducible] noncomputable def laws_szEntry.sm (k : Nat) : Sm := ⟨92, laws_szEntry.g.pms, laws_szEntry.g.rts, laws_szEntry.fk k⟩
noncomputable def laws_szEntry.E (k : Nat) : Env := ⟨tys, [], [], [], []⟩
noncomputable def laws_szEntry.pts : List (Pt (denR (outTys laws_szEntry.g.rts laws_szEntry.g.pms))) := []
theorem laws_szEntry.hf (k : Nat) (a0 : Entry) (a1 : Int) : (laws_szEntry.f a0 a1 : Option (denR (outTys laws_szEntry.g.rts laws_szEntry.g.pms))) = evC (laws_szEntry.E k) (fun κ s => lhOf k κ s laws_szEntry.pts) b92 (OM.start laws_szEntry.g.pms 0 (a0, a1, ())) (OM.fin laws_szEntry.g Try.f92.results.toList) := by kernel_rfl
theorem laws_szEntry.ok (k : Nat) : SmOk Try.prog (laws_szEntry.sm k) :=
  sm_ok mixed (E := laws_szEntry.E) (pts := laws_szEntry.pts) (fun k => ⟨⟨tysOk, by kernel_rfl⟩, forall_nil⟩) (fun _ => rfl) (fun _ => rfl)
    ⟨Try.func92, by kernel_rfl, by kernel_rfl, by kernel_rfl, by kernel_rfl, by kernel_rfl, by kernel_rfl⟩ (forall_nil) (fun k x => laws_szEntry.hf k x.1 x.2.1) k
noncomputable def b39 : Code := Try.f39.body.getD .skip
theorem e39 : OM.Entry Try.prog 39 := ⟨_, Try.func39, by kernel_rfl, by kernel_rfl⟩
@[reducible] noncomputable def laws_szEntryS.g : Sig := ⟨[.fz (.sl tEntry), .fz (.int .i64)], [.v (.int .i64) .z], []⟩
@[reducible] noncomputable def laws_szEntryS.fk : Nat → denI laws_szEntryS.g.pms → Option (denR (outTys laws_szEntryS.g.rts laws_szEntryS.g.pms)) := fun k x => laws_szEntryS.f k x.1 x.2.1
@[reducible] noncomputable def laws_szEntryS.sm (k : Nat) : Sm := ⟨39, laws_szEntryS.g.pms, laws_szEntryS.g.rts, laws_szEntryS.fk k⟩
noncomputable def laws_szEntryS.E (k : Nat) : Env := ⟨tys, [laws_szEntry.sm k], [], [], []⟩
@[reducible] noncomputable def laws_szEntryS.s11 : List Slot := [.v 0 (.sl tEntry) .z [] 0, .v 4 (.int .i64) .z [] 0, .v 20 (.int .i64) .z [] 0]
noncomputable def laws_szEntryS.pts : List (Pt (denR (outTys laws_szEntryS.g.rts laws_szEntryS.g.pms))) := [⟨11, laws_szEntryS.s11, fun k x => laws_szEntryS.p11 k x.1 x.2.1 x.2.2.1⟩]
theorem laws_szEntryS.h11 (k : Nat) (x0 : (List Entry)) (x1 : Int) (x2 : Int) : (laws_szEntryS.p11 (k + 1) x0 x1 x2 : Option (denR (outTys laws_szEntryS.g.rts laws_szEntryS.g.pms))) = evAt (laws_szEntryS.E k) (fun κ s => lhOf k κ s laws_szEntryS.pts) 11 b39 (unproj laws_szEntryS.s11 (x0, x1, x2, ())) (OM.fin laws_szEntryS.g Try.f39.results.toList) := by kernel_rfl
theorem laws_szEntryS.hf (k : Nat) (a0 : (List Entry)) (a1 : Int) : (laws_szEntryS.f k a0 a1 : Option (denR (outTys laws_szEntryS.g.rts laws_szEntryS.g.pms))) = evC (laws_szEntryS.E k) (fun κ s => lhOf k κ s laws_szEntryS.pts) b39 (OM.start laws_szEntryS.g.pms 0 (a0, a1, ())) (OM.fin laws_szEntryS.g Try.f39.results.toList) := by kernel_rfl
theorem laws_szEntryS.ok (k : Nat) : SmOk Try.prog (laws_szEntryS.sm k) :=
  sm_ok mixed (E := laws_szEntryS.E) (pts := laws_szEntryS.pts) (fun k => ⟨⟨tysOk, by kernel_rfl⟩, forall_cons ⟨laws_szEntry.ok k, e92⟩ (forall_nil)⟩) (fun _ => rfl) (fun _ => rfl)
    ⟨Try.func39, by kernel_rfl, by kernel_rfl, by kernel_rfl, by kernel_rfl, by kernel_rfl, by kernel_rfl⟩ (forall_cons (fun x => ⟨rfl, fun k => laws_szEntryS.h11 k x.1 x.2.1 x.2.2.1⟩) (forall_nil)) (fun k x => laws_szEntryS.hf k x.1 x.2.1) k
noncomputable def b74 : Code := Try.f74.body.getD .skip
theorem e74 : OM.Entry Try.prog 74 := ⟨_, Try.func74, by kernel_rfl, by kernel_rfl⟩
@[reducible] noncomputable def laws_szIntSS.g : Sig := ⟨[.fz (.sl (.sl (.int .i64))), .fz (.int .i64)], [.v (.int .i64) .z], []⟩
@[reducible] noncomputable def laws_szIntSS.fk : Nat → denI laws_szIntSS.g.pms → Option (denR (outTys laws_szIntSS.g.rts laws_szIntSS.g.pms)) := fun k x => laws_szIntSS.f k x.1 x.2.1
@[reducible] noncomputable def laws_szIntSS.sm (k : Nat) : Sm := ⟨74, laws_szIntSS.g.pms, laws_szIntSS.g.rts, laws_szIntSS.fk k⟩
noncomputable def laws_szIntSS.E (k : Nat) : Env := ⟨tys, [laws_szIntS.sm k], [], [], []⟩
@[reducible] noncomputable def laws_szIntSS.s11 : List Slot := [.v 0 (.sl (.sl (.int .i64))) .z [] 0, .v 4 (.int .i64) .z [] 0, .v 20 (.int .i64) .z [] 0]
noncomputable def laws_szIntSS.pts : List (Pt (denR (outTys laws_szIntSS.g.rts laws_szIntSS.g.pms))) := [⟨11, laws_szIntSS.s11, fun k x => laws_szIntSS.p11 k x.1 x.2.1 x.2.2.1⟩]
theorem laws_szIntSS.h11 (k : Nat) (x0 : (List (List Int))) (x1 : Int) (x2 : Int) : (laws_szIntSS.p11 (k + 1) x0 x1 x2 : Option (denR (outTys laws_szIntSS.g.rts laws_szIntSS.g.pms))) = evAt (laws_szIntSS.E k) (fun κ s => lhOf k κ s laws_szIntSS.pts) 11 b74 (unproj laws_szIntSS.s11 (x0, x1, x2, ())) (OM.fin laws_szIntSS.g Try.f74.results.toList) := by kernel_rfl
theorem laws_szIntSS.hf (k : Nat) (a0 : (List (List Int))) (a1 : Int) : (laws_szIntSS.f k a0 a1 : Option (denR (outTys laws_szIntSS.g.rts laws_szIntSS.g.pms))) = evC (laws_szIntSS.E k) (fun κ s => lhOf k κ s laws_szIntSS.pts) b74 (OM.start laws_szIntSS.g.pms 0 (a0, a1, ())) (OM.fin laws_szIntSS.g Try.f74.results.toList) := by kernel_rfl
theorem laws_szIntSS.ok (k : Nat) : SmOk Try.prog (laws_szIntSS.sm k) :=
  sm_ok mixed (E := laws_szIntSS.E) (pts := laws_szIntSS.pts) (fun k => ⟨⟨tysOk, by kernel_rfl⟩, forall_cons ⟨laws_szIntS.ok k, e47⟩ (forall_nil)⟩) (fun _ => rfl) (fun _ => rfl)
    ⟨Try.func74, by kernel_rfl, by kernel_rfl, by kernel_rfl, by kernel_rfl, by kernel_rfl, by kernel_rfl⟩ (forall_cons (fun x => ⟨rfl, fun k => laws_szIntSS.h11 k x.1 x.2.1 x.2.2.1⟩) (forall_nil)) (fun k x => laws_szIntSS.hf k x.1 x.2.1) k
noncomputable def b29 : Code := Try.f29.body.getD .skip
theorem e29 : OM.Entry Try.prog 29 := ⟨_, Try.func29, by kernel_rfl, by kernel_rfl⟩
@[reducible] noncomputable def laws_szMend.g : Sig := ⟨[.fz tMend, .fz (.int .i64)], [.v (.int .i64) .z], []⟩
@[reducible] noncomputable def laws_szMend.fk : Nat → denI laws_szMend.g.pms → Option (denR (outTys laws_szMend.g.rts laws_szMend.g.pms)) := fun k x => laws_szMend.f k x.1 x.2.1
@[reducible] noncomputable def laws_szMend.sm (k : Nat) : Sm := ⟨29, laws_szMend.g.pms, laws_szMend.g.rts, laws_szMend.fk k⟩
noncomputable def laws_szMend.E (k : Nat) : Env := ⟨tys, [laws_szIntS.sm k, laws_szEntryS.sm k, laws_szIntSS.sm k], [], [], []⟩
noncomputable def laws_szMend.pts : List (Pt (denR (outTys laws_szMend.g.rts laws_szMend.g.pms))) := []
theorem laws_szMend.hf (k : Nat) (a0 : Mend) (a1 : Int) : (laws_szMend.f k a0 a1 : Option (denR (outTys laws_szMend.g.rts laws_szMend.g.pms))) = evC (laws_szMend.E k) (fun κ s => lhOf k κ s laws_szMend.pts) b29 (OM.start laws_szMend.g.pms 0 (a0, a1, ())) (OM.fin laws_szMend.g Try.f29.results.toList) := by kernel_rfl
theorem laws_szMend.ok (k : Nat) : SmOk Try.prog (laws_szMend.sm k) :=
  sm_ok mixed (E := laws_szMend.E) (pts := laws_szMend.pts) (fun k => ⟨⟨tysOk, by kernel_rfl⟩, forall_cons ⟨laws_szIntS.ok k, e47⟩ (forall_cons ⟨laws_szEntryS.ok k, e39⟩ (forall_cons ⟨laws_szIntSS.ok k, e74⟩ (forall_nil)))⟩) (fun _ => rfl) (fun _ => rfl)
    ⟨Try.func29, by kernel_rfl, by kernel_rfl, by kernel_rfl, by kernel_rfl, by kernel_rfl, by kernel_rfl⟩ (forall_nil) (fun k x => laws_szMend.hf k x.1 x.2.1) k
noncomputable def b32 : Code := Try.f32.body.getD .skip
theorem e32 : OM.Entry Try.prog 32 := ⟨_, Try.func32, by kernel_rfl, by kernel_rfl⟩
@[reducible] noncomputable def laws_toIntS.g : Sig := ⟨[.fz (.sl (.int .i64))], [.v (.sl (.int .i64)) (.own .z)], []⟩
@[reducible] noncomputable def laws_toIntS.fk : Nat → denI laws_toIntS.g.pms → Option (denR (outTys laws_toIntS.g.rts laws_toIntS.g.pms)) := fun k x => laws_toIntS.f k x.1
@[reducible] noncomputable def laws_toIntS.sm (k : Nat) : Sm := ⟨32, laws_toIntS.g.pms, laws_toIntS.g.rts, laws_toIntS.fk k⟩
noncomputable def laws_toIntS.E (k : Nat) : Env := ⟨tys, [], [19], [], []⟩
@[reducible] noncomputable def laws_toIntS.s7 : List Slot := [.v 0 (.sl (.int .i64)) .z [] 0, .v 12 (.sl (.int .i64)) (.own .z) [] 0, .v 16 (.int .i64) .z [] 0]
noncomputable def laws_toIntS.pts : List (Pt (denR (outTys laws_toIntS.g.rts laws_toIntS.g.pms))) := [⟨7, laws_toIntS.s7, fun k x => laws_toIntS.p7 k x.1 x.2.1 x.2.2.1⟩]
theorem laws_toIntS.h7 (k : Nat) (x0 : (List Int)) (x1 : (List Int)) (x2 : Int) : (laws_toIntS.p7 (k + 1) x0 x1 x2 : Option (denR (outTys laws_toIntS.g.rts laws_toIntS.g.pms))) = evAt (laws_toIntS.E k) (fun κ s => lhOf k κ s laws_toIntS.pts) 7 b32 (unproj laws_toIntS.s7 (x0, x1, x2, ())) (OM.fin laws_toIntS.g Try.f32.results.toList) := by kernel_rfl
theorem laws_toIntS.hf (k : Nat) (a0 : (List Int)) : (laws_toIntS.f k a0 : Option (denR (outTys laws_toIntS.g.rts laws_toIntS.g.pms))) = evC (laws_toIntS.E k) (fun κ s => lhOf k κ s laws_toIntS.pts) b32 (OM.start laws_toIntS.g.pms 0 (a0, ())) (OM.fin laws_toIntS.g Try.f32.results.toList) := by kernel_rfl
theorem laws_toIntS.ok (k : Nat) : SmOk Try.prog (laws_toIntS.sm k) :=
  sm_ok mixed (E := laws_toIntS.E) (pts := laws_toIntS.pts) (fun k => ⟨⟨tysOk, by kernel_rfl⟩, forall_nil⟩) (fun _ => rfl) (fun _ => rfl)
    ⟨Try.func32, by kernel_rfl, by kernel_rfl, by kernel_rfl, by kernel_rfl, by kernel_rfl, by kernel_rfl⟩ (forall_cons (fun x => ⟨rfl, fun k => laws_toIntS.h7 k x.1 x.2.1 x.2.2.1⟩) (forall_nil)) (fun k x => laws_toIntS.hf k x.1) k
noncomputable def b12 : Code := Try.f12.body.getD .skip
theorem e12 : OM.Entry Try.prog 12 := ⟨_, Try.func12, by kernel_rfl, by kernel_rfl⟩
@[reducible] noncomputable def laws_toConfig.g : Sig := ⟨[.fz tConfig], [.v tConfig (.two (.own .z) .z)], []⟩
@[reducible] noncomputable def laws_toConfig.fk : Nat → denI laws_toConfig.g.pms → Option (denR (outTys laws_toConfig.g.rts laws_toConfig.g.pms)) := fun k x => laws_toConfig.f k x.1
@[reducible] noncomputable def laws_toConfig.sm (k : Nat) : Sm := ⟨12, laws_toConfig.g.pms, laws_toConfig.g.rts, laws_toConfig.fk k⟩
noncomputable def laws_toConfig.E (k : Nat) : Env := ⟨tys, [laws_toIntS.sm k], [9], [], []⟩
noncomputable def laws_toConfig.pts : List (Pt (denR (outTys laws_toConfig.g.rts laws_toConfig.g.pms))) := []
theorem laws_toConfig.hf (k : Nat) (a0 : Config) : (laws_toConfig.f k a0 : Option (denR (outTys laws_toConfig.g.rts laws_toConfig.g.pms))) = evC (laws_toConfig.E k) (fun κ s => lhOf k κ s laws_toConfig.pts) b12 (OM.start laws_toConfig.g.pms 0 (a0, ())) (OM.fin laws_toConfig.g Try.f12.results.toList) := by kernel_rfl
theorem laws_toConfig.ok (k : Nat) : SmOk Try.prog (laws_toConfig.sm k) :=
  sm_ok mixed (E := laws_toConfig.E) (pts := laws_toConfig.pts) (fun k => ⟨⟨tysOk, by kernel_rfl⟩, forall_cons ⟨laws_toIntS.ok k, e32⟩ (forall_nil)⟩) (fun _ => rfl) (fun _ => rfl)
    ⟨Try.func12, by kernel_rfl, by kernel_rfl, by kernel_rfl, by kernel_rfl, by kernel_rfl, by kernel_rfl⟩ (forall_nil) (fun k x => laws_toConfig.hf k x.1) k
noncomputable def b95 : Code := Try.f95.body.getD .skip
theorem e95 : OM.Entry Try.prog 95 := ⟨_, Try.func95, by kernel_rfl, by kernel_rfl⟩
@[reducible] noncomputable def laws_toEntry.g : Sig := ⟨[.fz tEntry], [.v tEntry .z], []⟩
@[reducible] noncomputable def laws_toEntry.fk : Nat → denI laws_toEntry.g.pms → Option (denR (outTys laws_toEntry.g.rts laws_toEntry.g.pms)) := fun k x => laws_toEntry.f x.1
@[reducible] noncomputable def laws_toEntry.sm (k : Nat) : Sm := ⟨95, laws_toEntry.g.pms, laws_toEntry.g.rts, laws_toEntry.fk k⟩
noncomputable def laws_toEntry.E (k : Nat) : Env := ⟨tys, [], [14], [], []⟩
noncomputable def laws_toEntry.pts : List (Pt (denR (outTys laws_toEntry.g.rts laws_toEntry.g.pms))) := []
theorem laws_toEntry.hf (k : Nat) (a0 : Entry) : (laws_toEntry.f a0 : Option (denR (outTys laws_toEntry.g.rts laws_toEntry.g.pms))) = evC (laws_toEntry.E k) (fun κ s => lhOf k κ s laws_toEntry.pts) b95 (OM.start laws_toEntry.g.pms 0 (a0, ())) (OM.fin laws_toEntry.g Try.f95.results.toList) := by kernel_rfl
theorem laws_toEntry.ok (k : Nat) : SmOk Try.prog (laws_toEntry.sm k) :=
  sm_ok mixed (E := laws_toEntry.E) (pts := laws_toEntry.pts) (fun k => ⟨⟨tysOk, by kernel_rfl⟩, forall_nil⟩) (fun _ => rfl) (fun _ => rfl)
    ⟨Try.func95, by kernel_rfl, by kernel_rfl, by kernel_rfl, by kernel_rfl, by kernel_rfl, by kernel_rfl⟩ (forall_nil) (fun k x => laws_toEntry.hf k x.1) k
noncomputable def b41 : Code := Try.f41.body.getD .skip
theorem e41 : OM.Entry Try.prog 41 := ⟨_, Try.func41, by kernel_rfl, by kernel_rfl⟩
@[reducible] noncomputable def laws_toEntryS.g : Sig := ⟨[.fz (.sl tEntry)], [.v (.sl tEntry) (.own .z)], []⟩
@[reducible] noncomputable def laws_toEntryS.fk : Nat → denI laws_toEntryS.g.pms → Option (denR (outTys laws_toEntryS.g.rts laws_toEntryS.g.pms)) := fun k x => laws_toEntryS.f k x.1
@[reducible] noncomputable def laws_toEntryS.sm (k : Nat) : Sm := ⟨41, laws_toEntryS.g.pms, laws_toEntryS.g.rts, laws_toEntryS.fk k⟩
noncomputable def laws_toEntryS.E (k : Nat) : Env := ⟨tys, [laws_toEntry.sm k], [], [], []⟩
@[reducible] noncomputable def laws_toEntryS.s7 : List Slot := [.v 0 (.sl tEntry) .z [] 0, .v 12 (.sl tEntry) (.own .z) [] 0, .v 16 (.int .i64) .z [] 0]
noncomputable def laws_toEntryS.pts : List (Pt (denR (outTys laws_toEntryS.g.rts laws_toEntryS.g.pms))) := [⟨7, laws_toEntryS.s7, fun k x => laws_toEntryS.p7 k x.1 x.2.1 x.2.2.1⟩]
theorem laws_toEntryS.h7 (k : Nat) (x0 : (List Entry)) (x1 : (List Entry)) (x2 : Int) : (laws_toEntryS.p7 (k + 1) x0 x1 x2 : Option (denR (outTys laws_toEntryS.g.rts laws_toEntryS.g.pms))) = evAt (laws_toEntryS.E k) (fun κ s => lhOf k κ s laws_toEntryS.pts) 7 b41 (unproj laws_toEntryS.s7 (x0, x1, x2, ())) (OM.fin laws_toEntryS.g Try.f41.results.toList) := by kernel_rfl
theorem laws_toEntryS.hf (k : Nat) (a0 : (List Entry)) : (laws_toEntryS.f k a0 : Option (denR (outTys laws_toEntryS.g.rts laws_toEntryS.g.pms))) = evC (laws_toEntryS.E k) (fun κ s => lhOf k κ s laws_toEntryS.pts) b41 (OM.start laws_toEntryS.g.pms 0 (a0, ())) (OM.fin laws_toEntryS.g Try.f41.results.toList) := by kernel_rfl
theorem laws_toEntryS.ok (k : Nat) : SmOk Try.prog (laws_toEntryS.sm k) :=
  sm_ok mixed (E := laws_toEntryS.E) (pts := laws_toEntryS.pts) (fun k => ⟨⟨tysOk, by kernel_rfl⟩, forall_cons ⟨laws_toEntry.ok k, e95⟩ (forall_nil)⟩) (fun _ => rfl) (fun _ => rfl)
    ⟨Try.func41, by kernel_rfl, by kernel_rfl, by kernel_rfl, by kernel_rfl, by kernel_rfl, by kernel_rfl⟩ (forall_cons (fun x => ⟨rfl, fun k => laws_toEntryS.h7 k x.1 x.2.1 x.2.2.1⟩) (forall_nil)) (fun k x => laws_toEntryS.hf k x.1) k
noncomputable def b80 : Code := Try.f80.body.getD .skip
theorem e80 : OM.Entry Try.prog 80 := ⟨_, Try.func80, by kernel_rfl, by kernel_rfl⟩
@[reducible] noncomputable def laws_toIntSS.g : Sig := ⟨[.fz (.sl (.sl (.int .i64)))], [.v (.sl (.sl (.int .i64))) (.own (.own .z))], []⟩
@[reducible] noncomputable def laws_toIntSS.fk : Nat → denI laws_toIntSS.g.pms → Option (denR (outTys laws_toIntSS.g.rts laws_toIntSS.g.pms)) := fun k x => laws_toIntSS.f k x.1
@[reducible] noncomputable def laws_toIntSS.sm (k : Nat) : Sm := ⟨80, laws_toIntSS.g.pms, laws_toIntSS.g.rts, laws_toIntSS.fk k⟩
noncomputable def laws_toIntSS.E (k : Nat) : Env := ⟨tys, [laws_toIntS.sm k], [], [], []⟩
@[reducible] noncomputable def laws_toIntSS.s7 : List Slot := [.v 0 (.sl (.sl (.int .i64))) .z [] 0, .v 12 (.sl (.sl (.int .i64))) (.own (.own .z)) [] 0, .v 16 (.int .i64) .z [] 0]
noncomputable def laws_toIntSS.pts : List (Pt (denR (outTys laws_toIntSS.g.rts laws_toIntSS.g.pms))) := [⟨7, laws_toIntSS.s7, fun k x => laws_toIntSS.p7 k x.1 x.2.1 x.2.2.1⟩]
theorem laws_toIntSS.h7 (k : Nat) (x0 : (List (List Int))) (x1 : (List (List Int))) (x2 : Int) : (laws_toIntSS.p7 (k + 1) x0 x1 x2 : Option (denR (outTys laws_toIntSS.g.rts laws_toIntSS.g.pms))) = evAt (laws_toIntSS.E k) (fun κ s => lhOf k κ s laws_toIntSS.pts) 7 b80 (unproj laws_toIntSS.s7 (x0, x1, x2, ())) (OM.fin laws_toIntSS.g Try.f80.results.toList) := by kernel_rfl
theorem laws_toIntSS.hf (k : Nat) (a0 : (List (List Int))) : (laws_toIntSS.f k a0 : Option (denR (outTys laws_toIntSS.g.rts laws_toIntSS.g.pms))) = evC (laws_toIntSS.E k) (fun κ s => lhOf k κ s laws_toIntSS.pts) b80 (OM.start laws_toIntSS.g.pms 0 (a0, ())) (OM.fin laws_toIntSS.g Try.f80.results.toList) := by kernel_rfl
theorem laws_toIntSS.ok (k : Nat) : SmOk Try.prog (laws_toIntSS.sm k) :=
  sm_ok mixed (E := laws_toIntSS.E) (pts := laws_toIntSS.pts) (fun k => ⟨⟨tysOk, by kernel_rfl⟩, forall_cons ⟨laws_toIntS.ok k, e32⟩ (forall_nil)⟩) (fun _ => rfl) (fun _ => rfl)
    ⟨Try.func80, by kernel_rfl, by kernel_rfl, by kernel_rfl, by kernel_rfl, by kernel_rfl, by kernel_rfl⟩ (forall_cons (fun x => ⟨rfl, fun k => laws_toIntSS.h7 k x.1 x.2.1 x.2.2.1⟩) (forall_nil)) (fun k x => laws_toIntSS.hf k x.1) k
noncomputable def b31 : Code := Try.f31.body.getD .skip
theorem e31 : OM.Entry Try.prog 31 := ⟨_, Try.func31, by kernel_rfl, by kernel_rfl⟩
@[reducible] noncomputable def laws_toMend.g : Sig := ⟨[.fz tMend], [.v tMend (.two .z (.two .z (.two (.own .z) (.two (.own .z) (.two .z (.two (.own (.own .z)) .z))))))], []⟩
@[reducible] noncomputable def laws_toMend.fk : Nat → denI laws_toMend.g.pms → Option (denR (outTys laws_toMend.g.rts laws_toMend.g.pms)) := fun k x => laws_toMend.f k x.1
@[reducible] noncomputable def laws_toMend.sm (k : Nat) : Sm := ⟨31, laws_toMend.g.pms, laws_toMend.g.rts, laws_toMend.fk k⟩
noncomputable def laws_toMend.E (k : Nat) : Env := ⟨tys, [laws_toIntS.sm k, laws_toEntryS.sm k, laws_toIntSS.sm k], [], [], []⟩
noncomputable def laws_toMend.pts : List (Pt (denR (outTys laws_toMend.g.rts laws_toMend.g.pms))) := []
theorem laws_toMend.hf (k : Nat) (a0 : Mend) : (laws_toMend.f k a0 : Option (denR (outTys laws_toMend.g.rts laws_toMend.g.pms))) = evC (laws_toMend.E k) (fun κ s => lhOf k κ s laws_toMend.pts) b31 (OM.start laws_toMend.g.pms 0 (a0, ())) (OM.fin laws_toMend.g Try.f31.results.toList) := by kernel_rfl
theorem laws_toMend.ok (k : Nat) : SmOk Try.prog (laws_toMend.sm k) :=
  sm_ok mixed (E := laws_toMend.E) (pts := laws_toMend.pts) (fun k => ⟨⟨tysOk, by kernel_rfl⟩, forall_cons ⟨laws_toIntS.ok k, e32⟩ (forall_cons ⟨laws_toEntryS.ok k, e41⟩ (forall_cons ⟨laws_toIntSS.ok k, e80⟩ (forall_nil)))⟩) (fun _ => rfl) (fun _ => rfl)
    ⟨Try.func31, by kernel_rfl, by kernel_rfl, by kernel_rfl, by kernel_rfl, by kernel_rfl, by kernel_rfl⟩ (forall_nil) (fun k x => laws_toMend.hf k x.1) k
noncomputable def b65 : Code := Try.f65.body.getD .skip
theorem e65 : OM.Entry Try.prog 65 := ⟨_, Try.func65, by kernel_rfl, by kernel_rfl⟩
@[reducible] noncomputable def spec_l1In.g : Sig := ⟨[.fz (.int .i64), .fz (.int .i64), .fz (.int .i64)], [.v .bool .z], []⟩
@[reducible] noncomputable def spec_l1In.fk : Nat → denI spec_l1In.g.pms → Option (denR (outTys spec_l1In.g.rts spec_l1In.g.pms)) := fun k x => spec_l1In.f x.1 x.2.1 x.2.2.1
@[reducible] noncomputable def spec_l1In.sm (k : Nat) : Sm := ⟨65, spec_l1In.g.pms, spec_l1In.g.rts, spec_l1In.fk k⟩
noncomputable def spec_l1In.E (k : Nat) : Env := ⟨tys, [], [], [], []⟩
noncomputable def spec_l1In.pts : List (Pt (denR (outTys spec_l1In.g.rts spec_l1In.g.pms))) := []
theorem spec_l1In.hf (k : Nat) (a0 : Int) (a1 : Int) (a2 : Int) : (spec_l1In.f a0 a1 a2 : Option (denR (outTys spec_l1In.g.rts spec_l1In.g.pms))) = evC (spec_l1In.E k) (fun κ s => lhOf k κ s spec_l1In.pts) b65 (OM.start spec_l1In.g.pms 0 (a0, a1, a2, ())) (OM.fin spec_l1In.g Try.f65.results.toList) := by kernel_rfl
theorem spec_l1In.ok (k : Nat) : SmOk Try.prog (spec_l1In.sm k) :=
  sm_ok mixed (E := spec_l1In.E) (pts := spec_l1In.pts) (fun k => ⟨⟨tysOk, by kernel_rfl⟩, forall_nil⟩) (fun _ => rfl) (fun _ => rfl)
    ⟨Try.func65, by kernel_rfl, by kernel_rfl, by kernel_rfl, by kernel_rfl, by kernel_rfl, by kernel_rfl⟩ (forall_nil) (fun k x => spec_l1In.hf k x.1 x.2.1 x.2.2.1) k
noncomputable def b101 : Code := Try.f101.body.getD .skip
theorem e101 : OM.Entry Try.prog 101 := ⟨_, Try.func101, by kernel_rfl, by kernel_rfl⟩
@[reducible] noncomputable def spec_ConfigOk.g : Sig := ⟨[.fz tConfig], [.v .bool .z], []⟩
@[reducible] noncomputable def spec_ConfigOk.fk : Nat → denI spec_ConfigOk.g.pms → Option (denR (outTys spec_ConfigOk.g.rts spec_ConfigOk.g.pms)) := fun k x => spec_ConfigOk.f k x.1
@[reducible] noncomputable def spec_ConfigOk.sm (k : Nat) : Sm := ⟨101, spec_ConfigOk.g.pms, spec_ConfigOk.g.rts, spec_ConfigOk.fk k⟩
noncomputable def spec_ConfigOk.E (k : Nat) : Env := ⟨tys, [spec_l1In.sm k], [], [], []⟩
@[reducible] noncomputable def spec_ConfigOk.s9 : List Slot := [.r 4 5 [] tConfig, .v 12 (.int .i64) .z [] 0, .v 5 tConfig .z [] 0]
noncomputable def spec_ConfigOk.pts : List (Pt (denR (outTys spec_ConfigOk.g.rts spec_ConfigOk.g.pms))) := [⟨9, spec_ConfigOk.s9, fun k x => spec_ConfigOk.p9 k x.1 x.2.1⟩]
theorem spec_ConfigOk.h9 (k : Nat) (x0 : Int) (x1 : Config) : (spec_ConfigOk.p9 (k + 1) x0 x1 : Option (denR (outTys spec_ConfigOk.g.rts spec_ConfigOk.g.pms))) = evAt (spec_ConfigOk.E k) (fun κ s => lhOf k κ s spec_ConfigOk.pts) 9 b101 (unproj spec_ConfigOk.s9 (x0, x1, ())) (OM.fin spec_ConfigOk.g Try.f101.results.toList) := by kernel_rfl
theorem spec_ConfigOk.hf (k : Nat) (a0 : Config) : (spec_ConfigOk.f k a0 : Option (denR (outTys spec_ConfigOk.g.rts spec_ConfigOk.g.pms))) = evC (spec_ConfigOk.E k) (fun κ s => lhOf k κ s spec_ConfigOk.pts) b101 (OM.start spec_ConfigOk.g.pms 0 (a0, ())) (OM.fin spec_ConfigOk.g Try.f101.results.toList) := by kernel_rfl
theorem spec_ConfigOk.ok (k : Nat) : SmOk Try.prog (spec_ConfigOk.sm k) :=
  sm_ok mixed (E := spec_ConfigOk.E) (pts := spec_ConfigOk.pts) (fun k => ⟨⟨tysOk, by kernel_rfl⟩, forall_cons ⟨spec_l1In.ok k, e65⟩ (forall_nil)⟩) (fun _ => rfl) (fun _ => rfl)
    ⟨Try.func101, by kernel_rfl, by kernel_rfl, by kernel_rfl, by kernel_rfl, by kernel_rfl, by kernel_rfl⟩ (forall_cons (fun x => ⟨rfl, fun k => spec_ConfigOk.h9 k x.1 x.2.1⟩) (forall_nil)) (fun k x => spec_ConfigOk.hf k x.1) k
noncomputable def b132 : Code := Try.f132.body.getD .skip
theorem e132 : OM.Entry Try.prog 132 := ⟨_, Try.func132, by kernel_rfl, by kernel_rfl⟩
@[reducible] noncomputable def spec_l4Asc.g : Sig := ⟨[.fz (.sl (.int .i64)), .fz (.int .i64), .fz (.int .i64)], [.v .bool .z], []⟩
@[reducible] noncomputable def spec_l4Asc.fk : Nat → denI spec_l4Asc.g.pms → Option (denR (outTys spec_l4Asc.g.rts spec_l4Asc.g.pms)) := fun k x => spec_l4Asc.f k x.1 x.2.1 x.2.2.1
@[reducible] noncomputable def spec_l4Asc.sm (k : Nat) : Sm := ⟨132, spec_l4Asc.g.pms, spec_l4Asc.g.rts, spec_l4Asc.fk k⟩
noncomputable def spec_l4Asc.E (k : Nat) : Env := ⟨tys, [spec_l1In.sm k], [], [], []⟩
@[reducible] noncomputable def spec_l4Asc.s5 : List Slot := [.v 0 (.sl (.int .i64)) .z [] 0, .v 4 (.int .i64) .z [] 0, .v 8 (.int .i64) .z [] 0, .v 28 (.int .i64) .z [] 0]
noncomputable def spec_l4Asc.pts : List (Pt (denR (outTys spec_l4Asc.g.rts spec_l4Asc.g.pms))) := [⟨5, spec_l4Asc.s5, fun k x => spec_l4Asc.p5 k x.1 x.2.1 x.2.2.1 x.2.2.2.1⟩]
theorem spec_l4Asc.h5 (k : Nat) (x0 : (List Int)) (x1 : Int) (x2 : Int) (x3 : Int) : (spec_l4Asc.p5 (k + 1) x0 x1 x2 x3 : Option (denR (outTys spec_l4Asc.g.rts spec_l4Asc.g.pms))) = evAt (spec_l4Asc.E k) (fun κ s => lhOf k κ s spec_l4Asc.pts) 5 b132 (unproj spec_l4Asc.s5 (x0, x1, x2, x3, ())) (OM.fin spec_l4Asc.g Try.f132.results.toList) := by kernel_rfl
theorem spec_l4Asc.hf (k : Nat) (a0 : (List Int)) (a1 : Int) (a2 : Int) : (spec_l4Asc.f k a0 a1 a2 : Option (denR (outTys spec_l4Asc.g.rts spec_l4Asc.g.pms))) = evC (spec_l4Asc.E k) (fun κ s => lhOf k κ s spec_l4Asc.pts) b132 (OM.start spec_l4Asc.g.pms 0 (a0, a1, a2, ())) (OM.fin spec_l4Asc.g Try.f132.results.toList) := by kernel_rfl
theorem spec_l4Asc.ok (k : Nat) : SmOk Try.prog (spec_l4Asc.sm k) :=
  sm_ok mixed (E := spec_l4Asc.E) (pts := spec_l4Asc.pts) (fun k => ⟨⟨tysOk, by kernel_rfl⟩, forall_cons ⟨spec_l1In.ok k, e65⟩ (forall_nil)⟩) (fun _ => rfl) (fun _ => rfl)
    ⟨Try.func132, by kernel_rfl, by kernel_rfl, by kernel_rfl, by kernel_rfl, by kernel_rfl, by kernel_rfl⟩ (forall_cons (fun x => ⟨rfl, fun k => spec_l4Asc.h5 k x.1 x.2.1 x.2.2.1 x.2.2.2.1⟩) (forall_nil)) (fun k x => spec_l4Asc.hf k x.1 x.2.1 x.2.2.1) k
noncomputable def b102 : Code := Try.f102.body.getD .skip
theorem e102 : OM.Entry Try.prog 102 := ⟨_, Try.func102, by kernel_rfl, by kernel_rfl⟩
@[reducible] noncomputable def spec_NodesOk.g : Sig := ⟨[.fz tConfig, .fz (.sl (.int .i64))], [.v .bool .z], []⟩
@[reducible] noncomputable def spec_NodesOk.fk : Nat → denI spec_NodesOk.g.pms → Option (denR (outTys spec_NodesOk.g.rts spec_NodesOk.g.pms)) := fun k x => spec_NodesOk.f k x.1 x.2.1
@[reducible] noncomputable def spec_NodesOk.sm (k : Nat) : Sm := ⟨102, spec_NodesOk.g.pms, spec_NodesOk.g.rts, spec_NodesOk.fk k⟩
noncomputable def spec_NodesOk.E (k : Nat) : Env := ⟨tys, [spec_ConfigOk.sm k, spec_l4Asc.sm k], [], [], []⟩
noncomputable def spec_NodesOk.pts : List (Pt (denR (outTys spec_NodesOk.g.rts spec_NodesOk.g.pms))) := []
theorem spec_NodesOk.hf (k : Nat) (a0 : Config) (a1 : (List Int)) : (spec_NodesOk.f k a0 a1 : Option (denR (outTys spec_NodesOk.g.rts spec_NodesOk.g.pms))) = evC (spec_NodesOk.E k) (fun κ s => lhOf k κ s spec_NodesOk.pts) b102 (OM.start spec_NodesOk.g.pms 0 (a0, a1, ())) (OM.fin spec_NodesOk.g Try.f102.results.toList) := by kernel_rfl
theorem spec_NodesOk.ok (k : Nat) : SmOk Try.prog (spec_NodesOk.sm k) :=
  sm_ok mixed (E := spec_NodesOk.E) (pts := spec_NodesOk.pts) (fun k => ⟨⟨tysOk, by kernel_rfl⟩, forall_cons ⟨spec_ConfigOk.ok k, e101⟩ (forall_cons ⟨spec_l4Asc.ok k, e132⟩ (forall_nil))⟩) (fun _ => rfl) (fun _ => rfl)
    ⟨Try.func102, by kernel_rfl, by kernel_rfl, by kernel_rfl, by kernel_rfl, by kernel_rfl, by kernel_rfl⟩ (forall_nil) (fun k x => spec_NodesOk.hf k x.1 x.2.1) k
noncomputable def b118 : Code := Try.f118.body.getD .skip
theorem e118 : OM.Entry Try.prog 118 := ⟨_, Try.func118, by kernel_rfl, by kernel_rfl⟩
@[reducible] noncomputable def spec_l6Asc.g : Sig := ⟨[.fz (.sl tEntry)], [.v .bool .z], []⟩
@[reducible] noncomputable def spec_l6Asc.fk : Nat → denI spec_l6Asc.g.pms → Option (denR (outTys spec_l6Asc.g.rts spec_l6Asc.g.pms)) := fun k x => spec_l6Asc.f k x.1
@[reducible] noncomputable def spec_l6Asc.sm (k : Nat) : Sm := ⟨118, spec_l6Asc.g.pms, spec_l6Asc.g.rts, spec_l6Asc.fk k⟩
noncomputable def spec_l6Asc.E (k : Nat) : Env := ⟨tys, [], [], [], []⟩
@[reducible] noncomputable def spec_l6Asc.s5 : List Slot := [.v 0 (.sl tEntry) .z [] 0, .v 12 (.int .i64) .z [] 0]
noncomputable def spec_l6Asc.pts : List (Pt (denR (outTys spec_l6Asc.g.rts spec_l6Asc.g.pms))) := [⟨5, spec_l6Asc.s5, fun k x => spec_l6Asc.p5 k x.1 x.2.1⟩]
theorem spec_l6Asc.h5 (k : Nat) (x0 : (List Entry)) (x1 : Int) : (spec_l6Asc.p5 (k + 1) x0 x1 : Option (denR (outTys spec_l6Asc.g.rts spec_l6Asc.g.pms))) = evAt (spec_l6Asc.E k) (fun κ s => lhOf k κ s spec_l6Asc.pts) 5 b118 (unproj spec_l6Asc.s5 (x0, x1, ())) (OM.fin spec_l6Asc.g Try.f118.results.toList) := by kernel_rfl
theorem spec_l6Asc.hf (k : Nat) (a0 : (List Entry)) : (spec_l6Asc.f k a0 : Option (denR (outTys spec_l6Asc.g.rts spec_l6Asc.g.pms))) = evC (spec_l6Asc.E k) (fun κ s => lhOf k κ s spec_l6Asc.pts) b118 (OM.start spec_l6Asc.g.pms 0 (a0, ())) (OM.fin spec_l6Asc.g Try.f118.results.toList) := by kernel_rfl
theorem spec_l6Asc.ok (k : Nat) : SmOk Try.prog (spec_l6Asc.sm k) :=
  sm_ok mixed (E := spec_l6Asc.E) (pts := spec_l6Asc.pts) (fun k => ⟨⟨tysOk, by kernel_rfl⟩, forall_nil⟩) (fun _ => rfl) (fun _ => rfl)
    ⟨Try.func118, by kernel_rfl, by kernel_rfl, by kernel_rfl, by kernel_rfl, by kernel_rfl, by kernel_rfl⟩ (forall_cons (fun x => ⟨rfl, fun k => spec_l6Asc.h5 k x.1 x.2.1⟩) (forall_nil)) (fun k x => spec_l6Asc.hf k x.1) k
noncomputable def b126 : Code := Try.f126.body.getD .skip
theorem e126 : OM.Entry Try.prog 126 := ⟨_, Try.func126, by kernel_rfl, by kernel_rfl⟩
@[reducible] noncomputable def spec_PlaceOk.g : Sig := ⟨[.fz (.int .i64)], [.v .bool .z], []⟩
@[reducible] noncomputable def spec_PlaceOk.fk : Nat → denI spec_PlaceOk.g.pms → Option (denR (outTys spec_PlaceOk.g.rts spec_PlaceOk.g.pms)) := fun k x => spec_PlaceOk.f x.1
@[reducible] noncomputable def spec_PlaceOk.sm (k : Nat) : Sm := ⟨126, spec_PlaceOk.g.pms, spec_PlaceOk.g.rts, spec_PlaceOk.fk k⟩
noncomputable def spec_PlaceOk.E (k : Nat) : Env := ⟨tys, [spec_l1In.sm k], [], [], []⟩
noncomputable def spec_PlaceOk.pts : List (Pt (denR (outTys spec_PlaceOk.g.rts spec_PlaceOk.g.pms))) := []
theorem spec_PlaceOk.hf (k : Nat) (a0 : Int) : (spec_PlaceOk.f a0 : Option (denR (outTys spec_PlaceOk.g.rts spec_PlaceOk.g.pms))) = evC (spec_PlaceOk.E k) (fun κ s => lhOf k κ s spec_PlaceOk.pts) b126 (OM.start spec_PlaceOk.g.pms 0 (a0, ())) (OM.fin spec_PlaceOk.g Try.f126.results.toList) := by kernel_rfl
theorem spec_PlaceOk.ok (k : Nat) : SmOk Try.prog (spec_PlaceOk.sm k) :=
  sm_ok mixed (E := spec_PlaceOk.E) (pts := spec_PlaceOk.pts) (fun k => ⟨⟨tysOk, by kernel_rfl⟩, forall_cons ⟨spec_l1In.ok k, e65⟩ (forall_nil)⟩) (fun _ => rfl) (fun _ => rfl)
    ⟨Try.func126, by kernel_rfl, by kernel_rfl, by kernel_rfl, by kernel_rfl, by kernel_rfl, by kernel_rfl⟩ (forall_nil) (fun k x => spec_PlaceOk.hf k x.1) k
noncomputable def b93 : Code := Try.f93.body.getD .skip
theorem e93 : OM.Entry Try.prog 93 := ⟨_, Try.func93, by kernel_rfl, by kernel_rfl⟩
@[reducible] noncomputable def spec_EpochOf.g : Sig := ⟨[.fz (.int .i64)], [.v (.int .i64) .z], []⟩
@[reducible] noncomputable def spec_EpochOf.fk : Nat → denI spec_EpochOf.g.pms → Option (denR (outTys spec_EpochOf.g.rts spec_EpochOf.g.pms)) := fun k x => spec_EpochOf.f x.1
@[reducible] noncomputable def spec_EpochOf.sm (k : Nat) : Sm := ⟨93, spec_EpochOf.g.pms, spec_EpochOf.g.rts, spec_EpochOf.fk k⟩
noncomputable def spec_EpochOf.E (k : Nat) : Env := ⟨tys, [spec_PlaceOk.sm k], [], [], []⟩
noncomputable def spec_EpochOf.pts : List (Pt (denR (outTys spec_EpochOf.g.rts spec_EpochOf.g.pms))) := []
theorem spec_EpochOf.hf (k : Nat) (a0 : Int) : (spec_EpochOf.f a0 : Option (denR (outTys spec_EpochOf.g.rts spec_EpochOf.g.pms))) = evC (spec_EpochOf.E k) (fun κ s => lhOf k κ s spec_EpochOf.pts) b93 (OM.start spec_EpochOf.g.pms 0 (a0, ())) (OM.fin spec_EpochOf.g Try.f93.results.toList) := by kernel_rfl
theorem spec_EpochOf.ok (k : Nat) : SmOk Try.prog (spec_EpochOf.sm k) :=
  sm_ok mixed (E := spec_EpochOf.E) (pts := spec_EpochOf.pts) (fun k => ⟨⟨tysOk, by kernel_rfl⟩, forall_cons ⟨spec_PlaceOk.ok k, e126⟩ (forall_nil)⟩) (fun _ => rfl) (fun _ => rfl)
    ⟨Try.func93, by kernel_rfl, by kernel_rfl, by kernel_rfl, by kernel_rfl, by kernel_rfl, by kernel_rfl⟩ (forall_nil) (fun k x => spec_EpochOf.hf k x.1) k
noncomputable def b119 : Code := Try.f119.body.getD .skip
theorem e119 : OM.Entry Try.prog 119 := ⟨_, Try.func119, by kernel_rfl, by kernel_rfl⟩
@[reducible] noncomputable def spec_EntryOk.g : Sig := ⟨[.fz tEntry], [.v .bool .z], []⟩
@[reducible] noncomputable def spec_EntryOk.fk : Nat → denI spec_EntryOk.g.pms → Option (denR (outTys spec_EntryOk.g.rts spec_EntryOk.g.pms)) := fun k x => spec_EntryOk.f k x.1
@[reducible] noncomputable def spec_EntryOk.sm (k : Nat) : Sm := ⟨119, spec_EntryOk.g.pms, spec_EntryOk.g.rts, spec_EntryOk.fk k⟩
noncomputable def spec_EntryOk.E (k : Nat) : Env := ⟨tys, [spec_l1In.sm k, spec_PlaceOk.sm k, spec_EpochOf.sm k], [], [3], []⟩
@[reducible] noncomputable def spec_EntryOk.s6 : List Slot := [.r 4 5 [] tEntry, .v 5 tEntry .z [] 0]
noncomputable def spec_EntryOk.pts : List (Pt (denR (outTys spec_EntryOk.g.rts spec_EntryOk.g.pms))) := [⟨6, spec_EntryOk.s6, fun k x => spec_EntryOk.p6 k x.1⟩]
theorem spec_EntryOk.h6 (k : Nat) (x0 : Entry) : (spec_EntryOk.p6 (k + 1) x0 : Option (denR (outTys spec_EntryOk.g.rts spec_EntryOk.g.pms))) = evAt (spec_EntryOk.E k) (fun κ s => lhOf k κ s spec_EntryOk.pts) 6 b119 (unproj spec_EntryOk.s6 (x0, ())) (OM.fin spec_EntryOk.g Try.f119.results.toList) := by kernel_rfl
theorem spec_EntryOk.hf (k : Nat) (a0 : Entry) : (spec_EntryOk.f k a0 : Option (denR (outTys spec_EntryOk.g.rts spec_EntryOk.g.pms))) = evC (spec_EntryOk.E k) (fun κ s => lhOf k κ s spec_EntryOk.pts) b119 (OM.start spec_EntryOk.g.pms 0 (a0, ())) (OM.fin spec_EntryOk.g Try.f119.results.toList) := by kernel_rfl
theorem spec_EntryOk.ok (k : Nat) : SmOk Try.prog (spec_EntryOk.sm k) :=
  sm_ok mixed (E := spec_EntryOk.E) (pts := spec_EntryOk.pts) (fun k => ⟨⟨tysOk, by kernel_rfl⟩, forall_cons ⟨spec_l1In.ok k, e65⟩ (forall_cons ⟨spec_PlaceOk.ok k, e126⟩ (forall_cons ⟨spec_EpochOf.ok k, e93⟩ (forall_nil)))⟩) (fun _ => rfl) (fun _ => rfl)
    ⟨Try.func119, by kernel_rfl, by kernel_rfl, by kernel_rfl, by kernel_rfl, by kernel_rfl, by kernel_rfl⟩ (forall_cons (fun x => ⟨rfl, fun k => spec_EntryOk.h6 k x.1⟩) (forall_nil)) (fun k x => spec_EntryOk.hf k x.1) k
noncomputable def b120 : Code := Try.f120.body.getD .skip
theorem e120 : OM.Entry Try.prog 120 := ⟨_, Try.func120, by kernel_rfl, by kernel_rfl⟩
@[reducible] noncomputable def spec_OffOf.g : Sig := ⟨[.fz (.int .i64)], [.v (.int .i64) .z], []⟩
@[reducible] noncomputable def spec_OffOf.fk : Nat → denI spec_OffOf.g.pms → Option (denR (outTys spec_OffOf.g.rts spec_OffOf.g.pms)) := fun k x => spec_OffOf.f x.1
@[reducible] noncomputable def spec_OffOf.sm (k : Nat) : Sm := ⟨120, spec_OffOf.g.pms, spec_OffOf.g.rts, spec_OffOf.fk k⟩
noncomputable def spec_OffOf.E (k : Nat) : Env := ⟨tys, [spec_PlaceOk.sm k], [], [], []⟩
noncomputable def spec_OffOf.pts : List (Pt (denR (outTys spec_OffOf.g.rts spec_OffOf.g.pms))) := []
theorem spec_OffOf.hf (k : Nat) (a0 : Int) : (spec_OffOf.f a0 : Option (denR (outTys spec_OffOf.g.rts spec_OffOf.g.pms))) = evC (spec_OffOf.E k) (fun κ s => lhOf k κ s spec_OffOf.pts) b120 (OM.start spec_OffOf.g.pms 0 (a0, ())) (OM.fin spec_OffOf.g Try.f120.results.toList) := by kernel_rfl
theorem spec_OffOf.ok (k : Nat) : SmOk Try.prog (spec_OffOf.sm k) :=
  sm_ok mixed (E := spec_OffOf.E) (pts := spec_OffOf.pts) (fun k => ⟨⟨tysOk, by kernel_rfl⟩, forall_cons ⟨spec_PlaceOk.ok k, e126⟩ (forall_nil)⟩) (fun _ => rfl) (fun _ => rfl)
    ⟨Try.func120, by kernel_rfl, by kernel_rfl, by kernel_rfl, by kernel_rfl, by kernel_rfl, by kernel_rfl⟩ (forall_nil) (fun k x => spec_OffOf.hf k x.1) k
noncomputable def b79 : Code := Try.f79.body.getD .skip
theorem e79 : OM.Entry Try.prog 79 := ⟨_, Try.func79, by kernel_rfl, by kernel_rfl⟩
@[reducible] noncomputable def spec_l9Last.g : Sig := ⟨[.fz tMend], [.v (.int .i64) .z], []⟩
@[reducible] noncomputable def spec_l9Last.fk : Nat → denI spec_l9Last.g.pms → Option (denR (outTys spec_l9Last.g.rts spec_l9Last.g.pms)) := fun k x => spec_l9Last.f x.1
@[reducible] noncomputable def spec_l9Last.sm (k : Nat) : Sm := ⟨79, spec_l9Last.g.pms, spec_l9Last.g.rts, spec_l9Last.fk k⟩
noncomputable def spec_l9Last.E (k : Nat) : Env := ⟨tys, [spec_OffOf.sm k], [], [], []⟩
noncomputable def spec_l9Last.pts : List (Pt (denR (outTys spec_l9Last.g.rts spec_l9Last.g.pms))) := []
theorem spec_l9Last.hf (k : Nat) (a0 : Mend) : (spec_l9Last.f a0 : Option (denR (outTys spec_l9Last.g.rts spec_l9Last.g.pms))) = evC (spec_l9Last.E k) (fun κ s => lhOf k κ s spec_l9Last.pts) b79 (OM.start spec_l9Last.g.pms 0 (a0, ())) (OM.fin spec_l9Last.g Try.f79.results.toList) := by kernel_rfl
theorem spec_l9Last.ok (k : Nat) : SmOk Try.prog (spec_l9Last.sm k) :=
  sm_ok mixed (E := spec_l9Last.E) (pts := spec_l9Last.pts) (fun k => ⟨⟨tysOk, by kernel_rfl⟩, forall_cons ⟨spec_OffOf.ok k, e120⟩ (forall_nil)⟩) (fun _ => rfl) (fun _ => rfl)
    ⟨Try.func79, by kernel_rfl, by kernel_rfl, by kernel_rfl, by kernel_rfl, by kernel_rfl, by kernel_rfl⟩ (forall_nil) (fun k x => spec_l9Last.hf k x.1) k
noncomputable def b75 : Code := Try.f75.body.getD .skip
theorem e75 : OM.Entry Try.prog 75 := ⟨_, Try.func75, by kernel_rfl, by kernel_rfl⟩
@[reducible] noncomputable def spec_MendOk.g : Sig := ⟨[.fz tConfig, .fz tMend], [.v .bool .z], []⟩
@[reducible] noncomputable def spec_MendOk.fk : Nat → denI spec_MendOk.g.pms → Option (denR (outTys spec_MendOk.g.rts spec_MendOk.g.pms)) := fun k x => spec_MendOk.f k x.1 x.2.1
@[reducible] noncomputable def spec_MendOk.sm (k : Nat) : Sm := ⟨75, spec_MendOk.g.pms, spec_MendOk.g.rts, spec_MendOk.fk k⟩
noncomputable def spec_MendOk.E (k : Nat) : Env := ⟨tys, [spec_l1In.sm k, spec_ConfigOk.sm k, spec_NodesOk.sm k, spec_l6Asc.sm k, spec_EpochOf.sm k, spec_EntryOk.sm k, spec_l9Last.sm k], [], [], []⟩
@[reducible] noncomputable def spec_MendOk.s9 : List Slot := [.r 8 9 [] tConfig, .r 12 13 [] tMend, .v 20 (.int .i64) .z [] 0, .v 9 tConfig .z [] 0, .v 13 tMend .z [] 0]
@[reducible] noncomputable def spec_MendOk.s19 : List Slot := [.r 8 9 [] tConfig, .r 12 13 [] tMend, .v 24 (.int .i64) .z [] 0, .v 9 tConfig .z [] 0, .v 13 tMend .z [] 0]
noncomputable def spec_MendOk.pts : List (Pt (denR (outTys spec_MendOk.g.rts spec_MendOk.g.pms))) := [⟨9, spec_MendOk.s9, fun k x => spec_MendOk.p9 k x.1 x.2.1 x.2.2.1⟩, ⟨19, spec_MendOk.s19, fun k x => spec_MendOk.p19 k x.1 x.2.1 x.2.2.1⟩]
theorem spec_MendOk.h9 (k : Nat) (x0 : Int) (x1 : Config) (x2 : Mend) : (spec_MendOk.p9 (k + 1) x0 x1 x2 : Option (denR (outTys spec_MendOk.g.rts spec_MendOk.g.pms))) = evAt (spec_MendOk.E k) (fun κ s => lhOf k κ s spec_MendOk.pts) 9 b75 (unproj spec_MendOk.s9 (x0, x1, x2, ())) (OM.fin spec_MendOk.g Try.f75.results.toList) := by kernel_rfl
theorem spec_MendOk.h19 (k : Nat) (x0 : Int) (x1 : Config) (x2 : Mend) : (spec_MendOk.p19 (k + 1) x0 x1 x2 : Option (denR (outTys spec_MendOk.g.rts spec_MendOk.g.pms))) = evAt (spec_MendOk.E k) (fun κ s => lhOf k κ s spec_MendOk.pts) 19 b75 (unproj spec_MendOk.s19 (x0, x1, x2, ())) (OM.fin spec_MendOk.g Try.f75.results.toList) := by kernel_rfl
theorem spec_MendOk.hf (k : Nat) (a0 : Config) (a1 : Mend) : (spec_MendOk.f k a0 a1 : Option (denR (outTys spec_MendOk.g.rts spec_MendOk.g.pms))) = evC (spec_MendOk.E k) (fun κ s => lhOf k κ s spec_MendOk.pts) b75 (OM.start spec_MendOk.g.pms 0 (a0, a1, ())) (OM.fin spec_MendOk.g Try.f75.results.toList) := by kernel_rfl
theorem spec_MendOk.ok (k : Nat) : SmOk Try.prog (spec_MendOk.sm k) :=
  sm_ok mixed (E := spec_MendOk.E) (pts := spec_MendOk.pts) (fun k => ⟨⟨tysOk, by kernel_rfl⟩, forall_cons ⟨spec_l1In.ok k, e65⟩ (forall_cons ⟨spec_ConfigOk.ok k, e101⟩ (forall_cons ⟨spec_NodesOk.ok k, e102⟩ (forall_cons ⟨spec_l6Asc.ok k, e118⟩ (forall_cons ⟨spec_EpochOf.ok k, e93⟩ (forall_cons ⟨spec_EntryOk.ok k, e119⟩ (forall_cons ⟨spec_l9Last.ok k, e79⟩ (forall_nil)))))))⟩) (fun _ => rfl) (fun _ => rfl)
    ⟨Try.func75, by kernel_rfl, by kernel_rfl, by kernel_rfl, by kernel_rfl, by kernel_rfl, by kernel_rfl⟩ (forall_cons (fun x => ⟨rfl, fun k => spec_MendOk.h9 k x.1 x.2.1 x.2.2.1⟩) (forall_cons (fun x => ⟨rfl, fun k => spec_MendOk.h19 k x.1 x.2.1 x.2.2.1⟩) (forall_nil))) (fun k x => spec_MendOk.hf k x.1 x.2.1) k
noncomputable def b76 : Code := Try.f76.body.getD .skip
theorem e76 : OM.Entry Try.prog 76 := ⟨_, Try.func76, by kernel_rfl, by kernel_rfl⟩
@[reducible] noncomputable def spec_l9Copy.g : Sig := ⟨[.fz tMend], [.v tMend (.two .z (.two .z (.two (.own .z) (.two (.own .z) (.two .z (.two (.own (.own .z)) .z))))))], []⟩
@[reducible] noncomputable def spec_l9Copy.fk : Nat → denI spec_l9Copy.g.pms → Option (denR (outTys spec_l9Copy.g.rts spec_l9Copy.g.pms)) := fun k x => spec_l9Copy.f k x.1
@[reducible] noncomputable def spec_l9Copy.sm (k : Nat) : Sm := ⟨76, spec_l9Copy.g.pms, spec_l9Copy.g.rts, spec_l9Copy.fk k⟩
noncomputable def spec_l9Copy.E (k : Nat) : Env := ⟨tys, [], [34], [], []⟩
@[reducible] noncomputable def spec_l9Copy.s7 : List Slot := [.r 4 5 [] tMend, .r 8 9 [] tMend, .r 12 13 [] tMend, .v 16 (.int .i64) .z [] 0, .v 5 tMend .z [] 0, .v 9 tMend (.two .z (.two .z (.two (.own .a) (.two (.own .a) (.two .z (.two (.own .a) .z)))))) [] 0, .v 13 tMend (.two .z (.two .z (.two (.own .z) (.two (.own .z) (.two .z (.two (.own (.own .z)) .z)))))) [] 0]
noncomputable def spec_l9Copy.pts : List (Pt (denR (outTys spec_l9Copy.g.rts spec_l9Copy.g.pms))) := [⟨7, spec_l9Copy.s7, fun k x => spec_l9Copy.p7 k x.1 x.2.1 x.2.2.1 x.2.2.2.1⟩]
theorem spec_l9Copy.h7 (k : Nat) (x0 : Int) (x1 : Mend) (x2 : Mend) (x3 : Mend) : (spec_l9Copy.p7 (k + 1) x0 x1 x2 x3 : Option (denR (outTys spec_l9Copy.g.rts spec_l9Copy.g.pms))) = evAt (spec_l9Copy.E k) (fun κ s => lhOf k κ s spec_l9Copy.pts) 7 b76 (unproj spec_l9Copy.s7 (x0, x1, x2, x3, ())) (OM.fin spec_l9Copy.g Try.f76.results.toList) := by kernel_rfl
theorem spec_l9Copy.hf (k : Nat) (a0 : Mend) : (spec_l9Copy.f k a0 : Option (denR (outTys spec_l9Copy.g.rts spec_l9Copy.g.pms))) = evC (spec_l9Copy.E k) (fun κ s => lhOf k κ s spec_l9Copy.pts) b76 (OM.start spec_l9Copy.g.pms 0 (a0, ())) (OM.fin spec_l9Copy.g Try.f76.results.toList) := by kernel_rfl
theorem spec_l9Copy.ok (k : Nat) : SmOk Try.prog (spec_l9Copy.sm k) :=
  sm_ok mixed (E := spec_l9Copy.E) (pts := spec_l9Copy.pts) (fun k => ⟨⟨tysOk, by kernel_rfl⟩, forall_nil⟩) (fun _ => rfl) (fun _ => rfl)
    ⟨Try.func76, by kernel_rfl, by kernel_rfl, by kernel_rfl, by kernel_rfl, by kernel_rfl, by kernel_rfl⟩ (forall_cons (fun x => ⟨rfl, fun k => spec_l9Copy.h7 k x.1 x.2.1 x.2.2.1 x.2.2.2.1⟩) (forall_nil)) (fun k x => spec_l9Copy.hf k x.1) k
noncomputable def b103 : Code := Try.f103.body.getD .skip
theorem e103 : OM.Entry Try.prog 103 := ⟨_, Try.func103, by kernel_rfl, by kernel_rfl⟩
@[reducible] noncomputable def spec_l4Has.g : Sig := ⟨[.fz (.sl (.int .i64)), .fz (.int .i64)], [.v .bool .z], []⟩
@[reducible] noncomputable def spec_l4Has.fk : Nat → denI spec_l4Has.g.pms → Option (denR (outTys spec_l4Has.g.rts spec_l4Has.g.pms)) := fun k x => spec_l4Has.f k x.1 x.2.1
@[reducible] noncomputable def spec_l4Has.sm (k : Nat) : Sm := ⟨103, spec_l4Has.g.pms, spec_l4Has.g.rts, spec_l4Has.fk k⟩
noncomputable def spec_l4Has.E (k : Nat) : Env := ⟨tys, [], [], [], []⟩
@[reducible] noncomputable def spec_l4Has.s5 : List Slot := [.v 0 (.sl (.int .i64)) .z [] 0, .v 4 (.int .i64) .z [] 0, .v 20 (.int .i64) .z [] 0]
noncomputable def spec_l4Has.pts : List (Pt (denR (outTys spec_l4Has.g.rts spec_l4Has.g.pms))) := [⟨5, spec_l4Has.s5, fun k x => spec_l4Has.p5 k x.1 x.2.1 x.2.2.1⟩]
theorem spec_l4Has.h5 (k : Nat) (x0 : (List Int)) (x1 : Int) (x2 : Int) : (spec_l4Has.p5 (k + 1) x0 x1 x2 : Option (denR (outTys spec_l4Has.g.rts spec_l4Has.g.pms))) = evAt (spec_l4Has.E k) (fun κ s => lhOf k κ s spec_l4Has.pts) 5 b103 (unproj spec_l4Has.s5 (x0, x1, x2, ())) (OM.fin spec_l4Has.g Try.f103.results.toList) := by kernel_rfl
theorem spec_l4Has.hf (k : Nat) (a0 : (List Int)) (a1 : Int) : (spec_l4Has.f k a0 a1 : Option (denR (outTys spec_l4Has.g.rts spec_l4Has.g.pms))) = evC (spec_l4Has.E k) (fun κ s => lhOf k κ s spec_l4Has.pts) b103 (OM.start spec_l4Has.g.pms 0 (a0, a1, ())) (OM.fin spec_l4Has.g Try.f103.results.toList) := by kernel_rfl
theorem spec_l4Has.ok (k : Nat) : SmOk Try.prog (spec_l4Has.sm k) :=
  sm_ok mixed (E := spec_l4Has.E) (pts := spec_l4Has.pts) (fun k => ⟨⟨tysOk, by kernel_rfl⟩, forall_nil⟩) (fun _ => rfl) (fun _ => rfl)
    ⟨Try.func103, by kernel_rfl, by kernel_rfl, by kernel_rfl, by kernel_rfl, by kernel_rfl, by kernel_rfl⟩ (forall_cons (fun x => ⟨rfl, fun k => spec_l4Has.h5 k x.1 x.2.1 x.2.2.1⟩) (forall_nil)) (fun k x => spec_l4Has.hf k x.1 x.2.1) k
noncomputable def b51 : Code := Try.f51.body.getD .skip
theorem e51 : OM.Entry Try.prog 51 := ⟨_, Try.func51, by kernel_rfl, by kernel_rfl⟩
@[reducible] noncomputable def spec_l4Less.g : Sig := ⟨[.fz (.sl (.int .i64)), .fz (.sl (.int .i64))], [.v (.sl (.int .i64)) (.own .z)], []⟩
@[reducible] noncomputable def spec_l4Less.fk : Nat → denI spec_l4Less.g.pms → Option (denR (outTys spec_l4Less.g.rts spec_l4Less.g.pms)) := fun k x => spec_l4Less.f k x.1 x.2.1
@[reducible] noncomputable def spec_l4Less.sm (k : Nat) : Sm := ⟨51, spec_l4Less.g.pms, spec_l4Less.g.rts, spec_l4Less.fk k⟩
noncomputable def spec_l4Less.E (k : Nat) : Env := ⟨tys, [spec_l4Has.sm k], [25], [], []⟩
@[reducible] noncomputable def spec_l4Less.s7 : List Slot := [.v 0 (.sl (.int .i64)) .z [] 0, .v 4 (.sl (.int .i64)) .z [] 0, .v 20 (.sl (.int .i64)) (.own .z) [] 0, .v 24 (.int .i64) .z [] 0]
noncomputable def spec_l4Less.pts : List (Pt (denR (outTys spec_l4Less.g.rts spec_l4Less.g.pms))) := [⟨7, spec_l4Less.s7, fun k x => spec_l4Less.p7 k x.1 x.2.1 x.2.2.1 x.2.2.2.1⟩]
theorem spec_l4Less.h7 (k : Nat) (x0 : (List Int)) (x1 : (List Int)) (x2 : (List Int)) (x3 : Int) : (spec_l4Less.p7 (k + 1) x0 x1 x2 x3 : Option (denR (outTys spec_l4Less.g.rts spec_l4Less.g.pms))) = evAt (spec_l4Less.E k) (fun κ s => lhOf k κ s spec_l4Less.pts) 7 b51 (unproj spec_l4Less.s7 (x0, x1, x2, x3, ())) (OM.fin spec_l4Less.g Try.f51.results.toList) := by kernel_rfl
theorem spec_l4Less.hf (k : Nat) (a0 : (List Int)) (a1 : (List Int)) : (spec_l4Less.f k a0 a1 : Option (denR (outTys spec_l4Less.g.rts spec_l4Less.g.pms))) = evC (spec_l4Less.E k) (fun κ s => lhOf k κ s spec_l4Less.pts) b51 (OM.start spec_l4Less.g.pms 0 (a0, a1, ())) (OM.fin spec_l4Less.g Try.f51.results.toList) := by kernel_rfl
theorem spec_l4Less.ok (k : Nat) : SmOk Try.prog (spec_l4Less.sm k) :=
  sm_ok mixed (E := spec_l4Less.E) (pts := spec_l4Less.pts) (fun k => ⟨⟨tysOk, by kernel_rfl⟩, forall_cons ⟨spec_l4Has.ok k, e103⟩ (forall_nil)⟩) (fun _ => rfl) (fun _ => rfl)
    ⟨Try.func51, by kernel_rfl, by kernel_rfl, by kernel_rfl, by kernel_rfl, by kernel_rfl, by kernel_rfl⟩ (forall_cons (fun x => ⟨rfl, fun k => spec_l4Less.h7 k x.1 x.2.1 x.2.2.1 x.2.2.2.1⟩) (forall_nil)) (fun k x => spec_l4Less.hf k x.1 x.2.1) k
noncomputable def b45 : Code := Try.f45.body.getD .skip
theorem e45 : OM.Entry Try.prog 45 := ⟨_, Try.func45, by kernel_rfl, by kernel_rfl⟩
@[reducible] noncomputable def spec_MendForget.g : Sig := ⟨[.fz tConfig, .fz tMend, .fz (.int .i64)], [.v tMend (.two .z (.two .z (.two (.own .z) (.two (.own .z) (.two .z (.two (.own (.own .z)) .z)))))), .v .bool .z], []⟩
@[reducible] noncomputable def spec_MendForget.fk : Nat → denI spec_MendForget.g.pms → Option (denR (outTys spec_MendForget.g.rts spec_MendForget.g.pms)) := fun k x => spec_MendForget.f k x.1 x.2.1 x.2.2.1
@[reducible] noncomputable def spec_MendForget.sm (k : Nat) : Sm := ⟨45, spec_MendForget.g.pms, spec_MendForget.g.rts, spec_MendForget.fk k⟩
noncomputable def spec_MendForget.E (k : Nat) : Env := ⟨tys, [spec_MendOk.sm k, spec_l9Copy.sm k, spec_l4Less.sm k], [], [], []⟩
@[reducible] noncomputable def spec_MendForget.s11 : List Slot := [.v 8 (.int .i64) .z [] 0, .r 24 25 [] tMend, .r 32 33 [] tMend, .v 36 (.int .i64) .z [] 0, .v 25 tMend (.two .z (.two .z (.two (.own .a) (.two (.own .a) (.two .z (.two (.own .a) .z)))))) [] 0, .v 33 tMend (.two .z (.two .z (.two (.own .z) (.two (.own .z) (.two .z (.two (.own (.own .z)) .z)))))) [] 0]
noncomputable def spec_MendForget.pts : List (Pt (denR (outTys spec_MendForget.g.rts spec_MendForget.g.pms))) := [⟨11, spec_MendForget.s11, fun k x => spec_MendForget.p11 k x.1 x.2.1 x.2.2.1 x.2.2.2.1⟩]
theorem spec_MendForget.h11 (k : Nat) (x0 : Int) (x1 : Int) (x2 : Mend) (x3 : Mend) : (spec_MendForget.p11 (k + 1) x0 x1 x2 x3 : Option (denR (outTys spec_MendForget.g.rts spec_MendForget.g.pms))) = evAt (spec_MendForget.E k) (fun κ s => lhOf k κ s spec_MendForget.pts) 11 b45 (unproj spec_MendForget.s11 (x0, x1, x2, x3, ())) (OM.fin spec_MendForget.g Try.f45.results.toList) := by kernel_rfl
theorem spec_MendForget.hf (k : Nat) (a0 : Config) (a1 : Mend) (a2 : Int) : (spec_MendForget.f k a0 a1 a2 : Option (denR (outTys spec_MendForget.g.rts spec_MendForget.g.pms))) = evC (spec_MendForget.E k) (fun κ s => lhOf k κ s spec_MendForget.pts) b45 (OM.start spec_MendForget.g.pms 0 (a0, a1, a2, ())) (OM.fin spec_MendForget.g Try.f45.results.toList) := by kernel_rfl
theorem spec_MendForget.ok (k : Nat) : SmOk Try.prog (spec_MendForget.sm k) :=
  sm_ok mixed (E := spec_MendForget.E) (pts := spec_MendForget.pts) (fun k => ⟨⟨tysOk, by kernel_rfl⟩, forall_cons ⟨spec_MendOk.ok k, e75⟩ (forall_cons ⟨spec_l9Copy.ok k, e76⟩ (forall_cons ⟨spec_l4Less.ok k, e51⟩ (forall_nil)))⟩) (fun _ => rfl) (fun _ => rfl)
    ⟨Try.func45, by kernel_rfl, by kernel_rfl, by kernel_rfl, by kernel_rfl, by kernel_rfl, by kernel_rfl⟩ (forall_cons (fun x => ⟨rfl, fun k => spec_MendForget.h11 k x.1 x.2.1 x.2.2.1 x.2.2.2.1⟩) (forall_nil)) (fun k x => spec_MendForget.hf k x.1 x.2.1 x.2.2.1) k
noncomputable def b62 : Code := Try.f62.body.getD .skip
theorem e62 : OM.Entry Try.prog 62 := ⟨_, Try.func62, by kernel_rfl, by kernel_rfl⟩
@[reducible] noncomputable def impl_within.g : Sig := ⟨[.fz (.int .i64), .fz (.int .i64), .fz (.int .i64)], [.v .bool .z], []⟩
@[reducible] noncomputable def impl_within.fk : Nat → denI impl_within.g.pms → Option (denR (outTys impl_within.g.rts impl_within.g.pms)) := fun k x => impl_within.f x.1 x.2.1 x.2.2.1
@[reducible] noncomputable def impl_within.sm (k : Nat) : Sm := ⟨62, impl_within.g.pms, impl_within.g.rts, impl_within.fk k⟩
noncomputable def impl_within.E (k : Nat) : Env := ⟨tys, [], [], [], []⟩
noncomputable def impl_within.pts : List (Pt (denR (outTys impl_within.g.rts impl_within.g.pms))) := []
theorem impl_within.hf (k : Nat) (a0 : Int) (a1 : Int) (a2 : Int) : (impl_within.f a0 a1 a2 : Option (denR (outTys impl_within.g.rts impl_within.g.pms))) = evC (impl_within.E k) (fun κ s => lhOf k κ s impl_within.pts) b62 (OM.start impl_within.g.pms 0 (a0, a1, a2, ())) (OM.fin impl_within.g Try.f62.results.toList) := by kernel_rfl
theorem impl_within.ok (k : Nat) : SmOk Try.prog (impl_within.sm k) :=
  sm_ok mixed (E := impl_within.E) (pts := impl_within.pts) (fun k => ⟨⟨tysOk, by kernel_rfl⟩, forall_nil⟩) (fun _ => rfl) (fun _ => rfl)
    ⟨Try.func62, by kernel_rfl, by kernel_rfl, by kernel_rfl, by kernel_rfl, by kernel_rfl, by kernel_rfl⟩ (forall_nil) (fun k x => impl_within.hf k x.1 x.2.1 x.2.2.1) k
noncomputable def b72 : Code := Try.f72.body.getD .skip
theorem e72 : OM.Entry Try.prog 72 := ⟨_, Try.func72, by kernel_rfl, by kernel_rfl⟩
@[reducible] noncomputable def impl_ConfigOk.g : Sig := ⟨[.fz tConfig], [.v .bool .z], []⟩
@[reducible] noncomputable def impl_ConfigOk.fk : Nat → denI impl_ConfigOk.g.pms → Option (denR (outTys impl_ConfigOk.g.rts impl_ConfigOk.g.pms)) := fun k x => impl_ConfigOk.f k x.1
@[reducible] noncomputable def impl_ConfigOk.sm (k : Nat) : Sm := ⟨72, impl_ConfigOk.g.pms, impl_ConfigOk.g.rts, impl_ConfigOk.fk k⟩
noncomputable def impl_ConfigOk.E (k : Nat) : Env := ⟨tys, [impl_within.sm k], [11], [], []⟩
@[reducible] noncomputable def impl_ConfigOk.s5 : List Slot := [.r 4 5 [] tConfig, .v 24 (.sl (.int .i64)) .z [] 0, .v 28 (.int .i64) .z [] 0, .v 32 (.int .i64) .z [] 0, .v 5 tConfig .z [] 0]
noncomputable def impl_ConfigOk.pts : List (Pt (denR (outTys impl_ConfigOk.g.rts impl_ConfigOk.g.pms))) := [⟨5, impl_ConfigOk.s5, fun k x => impl_ConfigOk.p5 k x.1 x.2.1 x.2.2.1 x.2.2.2.1⟩]
theorem impl_ConfigOk.h5 (k : Nat) (x0 : (List Int)) (x1 : Int) (x2 : Int) (x3 : Config) : (impl_ConfigOk.p5 (k + 1) x0 x1 x2 x3 : Option (denR (outTys impl_ConfigOk.g.rts impl_ConfigOk.g.pms))) = evAt (impl_ConfigOk.E k) (fun κ s => lhOf k κ s impl_ConfigOk.pts) 5 b72 (unproj impl_ConfigOk.s5 (x0, x1, x2, x3, ())) (OM.fin impl_ConfigOk.g Try.f72.results.toList) := by kernel_rfl
theorem impl_ConfigOk.hf (k : Nat) (a0 : Config) : (impl_ConfigOk.f k a0 : Option (denR (outTys impl_ConfigOk.g.rts impl_ConfigOk.g.pms))) = evC (impl_ConfigOk.E k) (fun κ s => lhOf k κ s impl_ConfigOk.pts) b72 (OM.start impl_ConfigOk.g.pms 0 (a0, ())) (OM.fin impl_ConfigOk.g Try.f72.results.toList) := by kernel_rfl
theorem impl_ConfigOk.ok (k : Nat) : SmOk Try.prog (impl_ConfigOk.sm k) :=
  sm_ok mixed (E := impl_ConfigOk.E) (pts := impl_ConfigOk.pts) (fun k => ⟨⟨tysOk, by kernel_rfl⟩, forall_cons ⟨impl_within.ok k, e62⟩ (forall_nil)⟩) (fun _ => rfl) (fun _ => rfl)
    ⟨Try.func72, by kernel_rfl, by kernel_rfl, by kernel_rfl, by kernel_rfl, by kernel_rfl, by kernel_rfl⟩ (forall_cons (fun x => ⟨rfl, fun k => impl_ConfigOk.h5 k x.1 x.2.1 x.2.2.1 x.2.2.2.1⟩) (forall_nil)) (fun k x => impl_ConfigOk.hf k x.1) k
noncomputable def b116 : Code := Try.f116.body.getD .skip
theorem e116 : OM.Entry Try.prog 116 := ⟨_, Try.func116, by kernel_rfl, by kernel_rfl⟩
@[reducible] noncomputable def impl_ascends.g : Sig := ⟨[.fz (.sl (.int .i64)), .fz (.int .i64)], [.v .bool .z], []⟩
@[reducible] noncomputable def impl_ascends.fk : Nat → denI impl_ascends.g.pms → Option (denR (outTys impl_ascends.g.rts impl_ascends.g.pms)) := fun k x => impl_ascends.f k x.1 x.2.1
@[reducible] noncomputable def impl_ascends.sm (k : Nat) : Sm := ⟨116, impl_ascends.g.pms, impl_ascends.g.rts, impl_ascends.fk k⟩
noncomputable def impl_ascends.E (k : Nat) : Env := ⟨tys, [impl_within.sm k], [13], [], []⟩
@[reducible] noncomputable def impl_ascends.s5 : List Slot := [.v 0 (.sl (.int .i64)) .z [] 0, .v 4 (.int .i64) .z [] 0, .v 28 (.sl (.int .i64)) .z [] 0, .v 32 (.int .i64) .z [] 0, .v 36 (.int .i64) .z [] 0]
noncomputable def impl_ascends.pts : List (Pt (denR (outTys impl_ascends.g.rts impl_ascends.g.pms))) := [⟨5, impl_ascends.s5, fun k x => impl_ascends.p5 k x.1 x.2.1 x.2.2.1 x.2.2.2.1 x.2.2.2.2.1⟩]
theorem impl_ascends.h5 (k : Nat) (x0 : (List Int)) (x1 : Int) (x2 : (List Int)) (x3 : Int) (x4 : Int) : (impl_ascends.p5 (k + 1) x0 x1 x2 x3 x4 : Option (denR (outTys impl_ascends.g.rts impl_ascends.g.pms))) = evAt (impl_ascends.E k) (fun κ s => lhOf k κ s impl_ascends.pts) 5 b116 (unproj impl_ascends.s5 (x0, x1, x2, x3, x4, ())) (OM.fin impl_ascends.g Try.f116.results.toList) := by kernel_rfl
theorem impl_ascends.hf (k : Nat) (a0 : (List Int)) (a1 : Int) : (impl_ascends.f k a0 a1 : Option (denR (outTys impl_ascends.g.rts impl_ascends.g.pms))) = evC (impl_ascends.E k) (fun κ s => lhOf k κ s impl_ascends.pts) b116 (OM.start impl_ascends.g.pms 0 (a0, a1, ())) (OM.fin impl_ascends.g Try.f116.results.toList) := by kernel_rfl
theorem impl_ascends.ok (k : Nat) : SmOk Try.prog (impl_ascends.sm k) :=
  sm_ok mixed (E := impl_ascends.E) (pts := impl_ascends.pts) (fun k => ⟨⟨tysOk, by kernel_rfl⟩, forall_cons ⟨impl_within.ok k, e62⟩ (forall_nil)⟩) (fun _ => rfl) (fun _ => rfl)
    ⟨Try.func116, by kernel_rfl, by kernel_rfl, by kernel_rfl, by kernel_rfl, by kernel_rfl, by kernel_rfl⟩ (forall_cons (fun x => ⟨rfl, fun k => impl_ascends.h5 k x.1 x.2.1 x.2.2.1 x.2.2.2.1 x.2.2.2.2.1⟩) (forall_nil)) (fun k x => impl_ascends.hf k x.1 x.2.1) k
noncomputable def b68 : Code := Try.f68.body.getD .skip
theorem e68 : OM.Entry Try.prog 68 := ⟨_, Try.func68, by kernel_rfl, by kernel_rfl⟩
@[reducible] noncomputable def impl_NodesOk.g : Sig := ⟨[.fz tConfig, .fz (.sl (.int .i64))], [.v .bool .z], []⟩
@[reducible] noncomputable def impl_NodesOk.fk : Nat → denI impl_NodesOk.g.pms → Option (denR (outTys impl_NodesOk.g.rts impl_NodesOk.g.pms)) := fun k x => impl_NodesOk.f k x.1 x.2.1
@[reducible] noncomputable def impl_NodesOk.sm (k : Nat) : Sm := ⟨68, impl_NodesOk.g.pms, impl_NodesOk.g.rts, impl_NodesOk.fk k⟩
noncomputable def impl_NodesOk.E (k : Nat) : Env := ⟨tys, [impl_ConfigOk.sm k, impl_ascends.sm k], [], [], []⟩
noncomputable def impl_NodesOk.pts : List (Pt (denR (outTys impl_NodesOk.g.rts impl_NodesOk.g.pms))) := []
theorem impl_NodesOk.hf (k : Nat) (a0 : Config) (a1 : (List Int)) : (impl_NodesOk.f k a0 a1 : Option (denR (outTys impl_NodesOk.g.rts impl_NodesOk.g.pms))) = evC (impl_NodesOk.E k) (fun κ s => lhOf k κ s impl_NodesOk.pts) b68 (OM.start impl_NodesOk.g.pms 0 (a0, a1, ())) (OM.fin impl_NodesOk.g Try.f68.results.toList) := by kernel_rfl
theorem impl_NodesOk.ok (k : Nat) : SmOk Try.prog (impl_NodesOk.sm k) :=
  sm_ok mixed (E := impl_NodesOk.E) (pts := impl_NodesOk.pts) (fun k => ⟨⟨tysOk, by kernel_rfl⟩, forall_cons ⟨impl_ConfigOk.ok k, e72⟩ (forall_cons ⟨impl_ascends.ok k, e116⟩ (forall_nil))⟩) (fun _ => rfl) (fun _ => rfl)
    ⟨Try.func68, by kernel_rfl, by kernel_rfl, by kernel_rfl, by kernel_rfl, by kernel_rfl, by kernel_rfl⟩ (forall_nil) (fun k x => impl_NodesOk.hf k x.1 x.2.1) k
noncomputable def b73 : Code := Try.f73.body.getD .skip
theorem e73 : OM.Entry Try.prog 73 := ⟨_, Try.func73, by kernel_rfl, by kernel_rfl⟩
@[reducible] noncomputable def impl_isEpoch.g : Sig := ⟨[.fz (.int .i64)], [.v .bool .z], []⟩
@[reducible] noncomputable def impl_isEpoch.fk : Nat → denI impl_isEpoch.g.pms → Option (denR (outTys impl_isEpoch.g.rts impl_isEpoch.g.pms)) := fun k x => impl_isEpoch.f x.1
@[reducible] noncomputable def impl_isEpoch.sm (k : Nat) : Sm := ⟨73, impl_isEpoch.g.pms, impl_isEpoch.g.rts, impl_isEpoch.fk k⟩
noncomputable def impl_isEpoch.E (k : Nat) : Env := ⟨tys, [impl_within.sm k], [], [], []⟩
noncomputable def impl_isEpoch.pts : List (Pt (denR (outTys impl_isEpoch.g.rts impl_isEpoch.g.pms))) := []
theorem impl_isEpoch.hf (k : Nat) (a0 : Int) : (impl_isEpoch.f a0 : Option (denR (outTys impl_isEpoch.g.rts impl_isEpoch.g.pms))) = evC (impl_isEpoch.E k) (fun κ s => lhOf k κ s impl_isEpoch.pts) b73 (OM.start impl_isEpoch.g.pms 0 (a0, ())) (OM.fin impl_isEpoch.g Try.f73.results.toList) := by kernel_rfl
theorem impl_isEpoch.ok (k : Nat) : SmOk Try.prog (impl_isEpoch.sm k) :=
  sm_ok mixed (E := impl_isEpoch.E) (pts := impl_isEpoch.pts) (fun k => ⟨⟨tysOk, by kernel_rfl⟩, forall_cons ⟨impl_within.ok k, e62⟩ (forall_nil)⟩) (fun _ => rfl) (fun _ => rfl)
    ⟨Try.func73, by kernel_rfl, by kernel_rfl, by kernel_rfl, by kernel_rfl, by kernel_rfl, by kernel_rfl⟩ (forall_nil) (fun k x => impl_isEpoch.hf k x.1) k
noncomputable def b145 : Code := Try.f145.body.getD .skip
theorem e145 : OM.Entry Try.prog 145 := ⟨_, Try.func145, by kernel_rfl, by kernel_rfl⟩
@[reducible] noncomputable def impl_isOff.g : Sig := ⟨[.fz (.int .i64)], [.v .bool .z], []⟩
@[reducible] noncomputable def impl_isOff.fk : Nat → denI impl_isOff.g.pms → Option (denR (outTys impl_isOff.g.rts impl_isOff.g.pms)) := fun k x => impl_isOff.f x.1
@[reducible] noncomputable def impl_isOff.sm (k : Nat) : Sm := ⟨145, impl_isOff.g.pms, impl_isOff.g.rts, impl_isOff.fk k⟩
noncomputable def impl_isOff.E (k : Nat) : Env := ⟨tys, [impl_within.sm k], [], [], []⟩
noncomputable def impl_isOff.pts : List (Pt (denR (outTys impl_isOff.g.rts impl_isOff.g.pms))) := []
theorem impl_isOff.hf (k : Nat) (a0 : Int) : (impl_isOff.f a0 : Option (denR (outTys impl_isOff.g.rts impl_isOff.g.pms))) = evC (impl_isOff.E k) (fun κ s => lhOf k κ s impl_isOff.pts) b145 (OM.start impl_isOff.g.pms 0 (a0, ())) (OM.fin impl_isOff.g Try.f145.results.toList) := by kernel_rfl
theorem impl_isOff.ok (k : Nat) : SmOk Try.prog (impl_isOff.sm k) :=
  sm_ok mixed (E := impl_isOff.E) (pts := impl_isOff.pts) (fun k => ⟨⟨tysOk, by kernel_rfl⟩, forall_cons ⟨impl_within.ok k, e62⟩ (forall_nil)⟩) (fun _ => rfl) (fun _ => rfl)
    ⟨Try.func145, by kernel_rfl, by kernel_rfl, by kernel_rfl, by kernel_rfl, by kernel_rfl, by kernel_rfl⟩ (forall_nil) (fun k x => impl_isOff.hf k x.1) k
noncomputable def b128 : Code := Try.f128.body.getD .skip
theorem e128 : OM.Entry Try.prog 128 := ⟨_, Try.func128, by kernel_rfl, by kernel_rfl⟩
@[reducible] noncomputable def impl_PlaceOk.g : Sig := ⟨[.fz (.int .i64)], [.v .bool .z], []⟩
@[reducible] noncomputable def impl_PlaceOk.fk : Nat → denI impl_PlaceOk.g.pms → Option (denR (outTys impl_PlaceOk.g.rts impl_PlaceOk.g.pms)) := fun k x => impl_PlaceOk.f x.1
@[reducible] noncomputable def impl_PlaceOk.sm (k : Nat) : Sm := ⟨128, impl_PlaceOk.g.pms, impl_PlaceOk.g.rts, impl_PlaceOk.fk k⟩
noncomputable def impl_PlaceOk.E (k : Nat) : Env := ⟨tys, [impl_isEpoch.sm k, impl_isOff.sm k], [], [], []⟩
noncomputable def impl_PlaceOk.pts : List (Pt (denR (outTys impl_PlaceOk.g.rts impl_PlaceOk.g.pms))) := []
theorem impl_PlaceOk.hf (k : Nat) (a0 : Int) : (impl_PlaceOk.f a0 : Option (denR (outTys impl_PlaceOk.g.rts impl_PlaceOk.g.pms))) = evC (impl_PlaceOk.E k) (fun κ s => lhOf k κ s impl_PlaceOk.pts) b128 (OM.start impl_PlaceOk.g.pms 0 (a0, ())) (OM.fin impl_PlaceOk.g Try.f128.results.toList) := by kernel_rfl
theorem impl_PlaceOk.ok (k : Nat) : SmOk Try.prog (impl_PlaceOk.sm k) :=
  sm_ok mixed (E := impl_PlaceOk.E) (pts := impl_PlaceOk.pts) (fun k => ⟨⟨tysOk, by kernel_rfl⟩, forall_cons ⟨impl_isEpoch.ok k, e73⟩ (forall_cons ⟨impl_isOff.ok k, e145⟩ (forall_nil))⟩) (fun _ => rfl) (fun _ => rfl)
    ⟨Try.func128, by kernel_rfl, by kernel_rfl, by kernel_rfl, by kernel_rfl, by kernel_rfl, by kernel_rfl⟩ (forall_nil) (fun k x => impl_PlaceOk.hf k x.1) k
noncomputable def b125 : Code := Try.f125.body.getD .skip
theorem e125 : OM.Entry Try.prog 125 := ⟨_, Try.func125, by kernel_rfl, by kernel_rfl⟩
@[reducible] noncomputable def impl_OffOf.g : Sig := ⟨[.fz (.int .i64)], [.v (.int .i64) .z], []⟩
@[reducible] noncomputable def impl_OffOf.fk : Nat → denI impl_OffOf.g.pms → Option (denR (outTys impl_OffOf.g.rts impl_OffOf.g.pms)) := fun k x => impl_OffOf.f x.1
@[reducible] noncomputable def impl_OffOf.sm (k : Nat) : Sm := ⟨125, impl_OffOf.g.pms, impl_OffOf.g.rts, impl_OffOf.fk k⟩
noncomputable def impl_OffOf.E (k : Nat) : Env := ⟨tys, [impl_PlaceOk.sm k], [], [], []⟩
noncomputable def impl_OffOf.pts : List (Pt (denR (outTys impl_OffOf.g.rts impl_OffOf.g.pms))) := []
theorem impl_OffOf.hf (k : Nat) (a0 : Int) : (impl_OffOf.f a0 : Option (denR (outTys impl_OffOf.g.rts impl_OffOf.g.pms))) = evC (impl_OffOf.E k) (fun κ s => lhOf k κ s impl_OffOf.pts) b125 (OM.start impl_OffOf.g.pms 0 (a0, ())) (OM.fin impl_OffOf.g Try.f125.results.toList) := by kernel_rfl
theorem impl_OffOf.ok (k : Nat) : SmOk Try.prog (impl_OffOf.sm k) :=
  sm_ok mixed (E := impl_OffOf.E) (pts := impl_OffOf.pts) (fun k => ⟨⟨tysOk, by kernel_rfl⟩, forall_cons ⟨impl_PlaceOk.ok k, e128⟩ (forall_nil)⟩) (fun _ => rfl) (fun _ => rfl)
    ⟨Try.func125, by kernel_rfl, by kernel_rfl, by kernel_rfl, by kernel_rfl, by kernel_rfl, by kernel_rfl⟩ (forall_nil) (fun k x => impl_OffOf.hf k x.1) k
noncomputable def b86 : Code := Try.f86.body.getD .skip
theorem e86 : OM.Entry Try.prog 86 := ⟨_, Try.func86, by kernel_rfl, by kernel_rfl⟩
@[reducible] noncomputable def impl_lastOff.g : Sig := ⟨[.fz tMend], [.v (.int .i64) .z], []⟩
@[reducible] noncomputable def impl_lastOff.fk : Nat → denI impl_lastOff.g.pms → Option (denR (outTys impl_lastOff.g.rts impl_lastOff.g.pms)) := fun k x => impl_lastOff.f x.1
@[reducible] noncomputable def impl_lastOff.sm (k : Nat) : Sm := ⟨86, impl_lastOff.g.pms, impl_lastOff.g.rts, impl_lastOff.fk k⟩
noncomputable def impl_lastOff.E (k : Nat) : Env := ⟨tys, [impl_OffOf.sm k], [], [], []⟩
noncomputable def impl_lastOff.pts : List (Pt (denR (outTys impl_lastOff.g.rts impl_lastOff.g.pms))) := []
theorem impl_lastOff.hf (k : Nat) (a0 : Mend) : (impl_lastOff.f a0 : Option (denR (outTys impl_lastOff.g.rts impl_lastOff.g.pms))) = evC (impl_lastOff.E k) (fun κ s => lhOf k κ s impl_lastOff.pts) b86 (OM.start impl_lastOff.g.pms 0 (a0, ())) (OM.fin impl_lastOff.g Try.f86.results.toList) := by kernel_rfl
theorem impl_lastOff.ok (k : Nat) : SmOk Try.prog (impl_lastOff.sm k) :=
  sm_ok mixed (E := impl_lastOff.E) (pts := impl_lastOff.pts) (fun k => ⟨⟨tysOk, by kernel_rfl⟩, forall_cons ⟨impl_OffOf.ok k, e125⟩ (forall_nil)⟩) (fun _ => rfl) (fun _ => rfl)
    ⟨Try.func86, by kernel_rfl, by kernel_rfl, by kernel_rfl, by kernel_rfl, by kernel_rfl, by kernel_rfl⟩ (forall_nil) (fun k x => impl_lastOff.hf k x.1) k
noncomputable def b70 : Code := Try.f70.body.getD .skip
theorem e70 : OM.Entry Try.prog 70 := ⟨_, Try.func70, by kernel_rfl, by kernel_rfl⟩
@[reducible] noncomputable def impl_dataOk.g : Sig := ⟨[.fz .str], [.v .bool .z], []⟩
@[reducible] noncomputable def impl_dataOk.fk : Nat → denI impl_dataOk.g.pms → Option (denR (outTys impl_dataOk.g.rts impl_dataOk.g.pms)) := fun k x => impl_dataOk.f x.1
@[reducible] noncomputable def impl_dataOk.sm (k : Nat) : Sm := ⟨70, impl_dataOk.g.pms, impl_dataOk.g.rts, impl_dataOk.fk k⟩
noncomputable def impl_dataOk.E (k : Nat) : Env := ⟨tys, [], [], [], []⟩
noncomputable def impl_dataOk.pts : List (Pt (denR (outTys impl_dataOk.g.rts impl_dataOk.g.pms))) := []
theorem impl_dataOk.hf (k : Nat) (a0 : ByteArray) : (impl_dataOk.f a0 : Option (denR (outTys impl_dataOk.g.rts impl_dataOk.g.pms))) = evC (impl_dataOk.E k) (fun κ s => lhOf k κ s impl_dataOk.pts) b70 (OM.start impl_dataOk.g.pms 0 (a0, ())) (OM.fin impl_dataOk.g Try.f70.results.toList) := by kernel_rfl
theorem impl_dataOk.ok (k : Nat) : SmOk Try.prog (impl_dataOk.sm k) :=
  sm_ok mixed (E := impl_dataOk.E) (pts := impl_dataOk.pts) (fun k => ⟨⟨tysOk, by kernel_rfl⟩, forall_nil⟩) (fun _ => rfl) (fun _ => rfl)
    ⟨Try.func70, by kernel_rfl, by kernel_rfl, by kernel_rfl, by kernel_rfl, by kernel_rfl, by kernel_rfl⟩ (forall_nil) (fun k x => impl_dataOk.hf k x.1) k
noncomputable def b96 : Code := Try.f96.body.getD .skip
theorem e96 : OM.Entry Try.prog 96 := ⟨_, Try.func96, by kernel_rfl, by kernel_rfl⟩
@[reducible] noncomputable def impl_EpochOf.g : Sig := ⟨[.fz (.int .i64)], [.v (.int .i64) .z], []⟩
@[reducible] noncomputable def impl_EpochOf.fk : Nat → denI impl_EpochOf.g.pms → Option (denR (outTys impl_EpochOf.g.rts impl_EpochOf.g.pms)) := fun k x => impl_EpochOf.f x.1
@[reducible] noncomputable def impl_EpochOf.sm (k : Nat) : Sm := ⟨96, impl_EpochOf.g.pms, impl_EpochOf.g.rts, impl_EpochOf.fk k⟩
noncomputable def impl_EpochOf.E (k : Nat) : Env := ⟨tys, [impl_PlaceOk.sm k], [], [], []⟩
noncomputable def impl_EpochOf.pts : List (Pt (denR (outTys impl_EpochOf.g.rts impl_EpochOf.g.pms))) := []
theorem impl_EpochOf.hf (k : Nat) (a0 : Int) : (impl_EpochOf.f a0 : Option (denR (outTys impl_EpochOf.g.rts impl_EpochOf.g.pms))) = evC (impl_EpochOf.E k) (fun κ s => lhOf k κ s impl_EpochOf.pts) b96 (OM.start impl_EpochOf.g.pms 0 (a0, ())) (OM.fin impl_EpochOf.g Try.f96.results.toList) := by kernel_rfl
theorem impl_EpochOf.ok (k : Nat) : SmOk Try.prog (impl_EpochOf.sm k) :=
  sm_ok mixed (E := impl_EpochOf.E) (pts := impl_EpochOf.pts) (fun k => ⟨⟨tysOk, by kernel_rfl⟩, forall_cons ⟨impl_PlaceOk.ok k, e128⟩ (forall_nil)⟩) (fun _ => rfl) (fun _ => rfl)
    ⟨Try.func96, by kernel_rfl, by kernel_rfl, by kernel_rfl, by kernel_rfl, by kernel_rfl, by kernel_rfl⟩ (forall_nil) (fun k x => impl_EpochOf.hf k x.1) k
noncomputable def b143 : Code := Try.f143.body.getD .skip
theorem e143 : OM.Entry Try.prog 143 := ⟨_, Try.func143, by kernel_rfl, by kernel_rfl⟩
@[reducible] noncomputable def impl_EntryOk.g : Sig := ⟨[.fz tEntry], [.v .bool .z], []⟩
@[reducible] noncomputable def impl_EntryOk.fk : Nat → denI impl_EntryOk.g.pms → Option (denR (outTys impl_EntryOk.g.rts impl_EntryOk.g.pms)) := fun k x => impl_EntryOk.f k x.1
@[reducible] noncomputable def impl_EntryOk.sm (k : Nat) : Sm := ⟨143, impl_EntryOk.g.pms, impl_EntryOk.g.rts, impl_EntryOk.fk k⟩
noncomputable def impl_EntryOk.E (k : Nat) : Env := ⟨tys, [impl_within.sm k, impl_PlaceOk.sm k, impl_dataOk.sm k, impl_EpochOf.sm k], [], [2, 3], []⟩
@[reducible] noncomputable def impl_EntryOk.s4 : List Slot := [.r 4 5 [] tEntry, .v 12 .bool .z [] 0, .v 5 tEntry .z [] 0]
@[reducible] noncomputable def impl_EntryOk.s6 : List Slot := [.r 4 5 [] tEntry, .v 12 .bool .z [] 0, .v 16 .bool .z [] 0, .v 5 tEntry .z [] 0]
noncomputable def impl_EntryOk.pts : List (Pt (denR (outTys impl_EntryOk.g.rts impl_EntryOk.g.pms))) := [⟨4, impl_EntryOk.s4, fun k x => impl_EntryOk.p4 k x.1 x.2.1⟩, ⟨6, impl_EntryOk.s6, fun k x => impl_EntryOk.p6 k x.1 x.2.1 x.2.2.1⟩]
theorem impl_EntryOk.h4 (k : Nat) (x0 : Bool) (x1 : Entry) : (impl_EntryOk.p4 (k + 1) x0 x1 : Option (denR (outTys impl_EntryOk.g.rts impl_EntryOk.g.pms))) = evAt (impl_EntryOk.E k) (fun κ s => lhOf k κ s impl_EntryOk.pts) 4 b143 (unproj impl_EntryOk.s4 (x0, x1, ())) (OM.fin impl_EntryOk.g Try.f143.results.toList) := by kernel_rfl
theorem impl_EntryOk.h6 (k : Nat) (x0 : Bool) (x1 : Bool) (x2 : Entry) : (impl_EntryOk.p6 (k + 1) x0 x1 x2 : Option (denR (outTys impl_EntryOk.g.rts impl_EntryOk.g.pms))) = evAt (impl_EntryOk.E k) (fun κ s => lhOf k κ s impl_EntryOk.pts) 6 b143 (unproj impl_EntryOk.s6 (x0, x1, x2, ())) (OM.fin impl_EntryOk.g Try.f143.results.toList) := by kernel_rfl
theorem impl_EntryOk.hf (k : Nat) (a0 : Entry) : (impl_EntryOk.f k a0 : Option (denR (outTys impl_EntryOk.g.rts impl_EntryOk.g.pms))) = evC (impl_EntryOk.E k) (fun κ s => lhOf k κ s impl_EntryOk.pts) b143 (OM.start impl_EntryOk.g.pms 0 (a0, ())) (OM.fin impl_EntryOk.g Try.f143.results.toList) := by kernel_rfl
theorem impl_EntryOk.ok (k : Nat) : SmOk Try.prog (impl_EntryOk.sm k) :=
  sm_ok mixed (E := impl_EntryOk.E) (pts := impl_EntryOk.pts) (fun k => ⟨⟨tysOk, by kernel_rfl⟩, forall_cons ⟨impl_within.ok k, e62⟩ (forall_cons ⟨impl_PlaceOk.ok k, e128⟩ (forall_cons ⟨impl_dataOk.ok k, e70⟩ (forall_cons ⟨impl_EpochOf.ok k, e96⟩ (forall_nil))))⟩) (fun _ => rfl) (fun _ => rfl)
    ⟨Try.func143, by kernel_rfl, by kernel_rfl, by kernel_rfl, by kernel_rfl, by kernel_rfl, by kernel_rfl⟩ (forall_cons (fun x => ⟨rfl, fun k => impl_EntryOk.h4 k x.1 x.2.1⟩) (forall_cons (fun x => ⟨rfl, fun k => impl_EntryOk.h6 k x.1 x.2.1 x.2.2.1⟩) (forall_nil))) (fun k x => impl_EntryOk.hf k x.1) k
noncomputable def b144 : Code := Try.f144.body.getD .skip
theorem e144 : OM.Entry Try.prog 144 := ⟨_, Try.func144, by kernel_rfl, by kernel_rfl⟩
@[reducible] noncomputable def impl_placesAscend.g : Sig := ⟨[.fz (.sl tEntry)], [.v .bool .z], []⟩
@[reducible] noncomputable def impl_placesAscend.fk : Nat → denI impl_placesAscend.g.pms → Option (denR (outTys impl_placesAscend.g.rts impl_placesAscend.g.pms)) := fun k x => impl_placesAscend.f k x.1
@[reducible] noncomputable def impl_placesAscend.sm (k : Nat) : Sm := ⟨144, impl_placesAscend.g.pms, impl_placesAscend.g.rts, impl_placesAscend.fk k⟩
noncomputable def impl_placesAscend.E (k : Nat) : Env := ⟨tys, [], [11], [], []⟩
@[reducible] noncomputable def impl_placesAscend.s5 : List Slot := [.v 0 (.sl tEntry) .z [] 0, .v 20 (.sl tEntry) .z [] 0, .v 24 (.int .i64) .z [] 0, .v 28 (.int .i64) .z [] 0]
noncomputable def impl_placesAscend.pts : List (Pt (denR (outTys impl_placesAscend.g.rts impl_placesAscend.g.pms))) := [⟨5, impl_placesAscend.s5, fun k x => impl_placesAscend.p5 k x.1 x.2.1 x.2.2.1 x.2.2.2.1⟩]
theorem impl_placesAscend.h5 (k : Nat) (x0 : (List Entry)) (x1 : (List Entry)) (x2 : Int) (x3 : Int) : (impl_placesAscend.p5 (k + 1) x0 x1 x2 x3 : Option (denR (outTys impl_placesAscend.g.rts impl_placesAscend.g.pms))) = evAt (impl_placesAscend.E k) (fun κ s => lhOf k κ s impl_placesAscend.pts) 5 b144 (unproj impl_placesAscend.s5 (x0, x1, x2, x3, ())) (OM.fin impl_placesAscend.g Try.f144.results.toList) := by kernel_rfl
theorem impl_placesAscend.hf (k : Nat) (a0 : (List Entry)) : (impl_placesAscend.f k a0 : Option (denR (outTys impl_placesAscend.g.rts impl_placesAscend.g.pms))) = evC (impl_placesAscend.E k) (fun κ s => lhOf k κ s impl_placesAscend.pts) b144 (OM.start impl_placesAscend.g.pms 0 (a0, ())) (OM.fin impl_placesAscend.g Try.f144.results.toList) := by kernel_rfl
theorem impl_placesAscend.ok (k : Nat) : SmOk Try.prog (impl_placesAscend.sm k) :=
  sm_ok mixed (E := impl_placesAscend.E) (pts := impl_placesAscend.pts) (fun k => ⟨⟨tysOk, by kernel_rfl⟩, forall_nil⟩) (fun _ => rfl) (fun _ => rfl)
    ⟨Try.func144, by kernel_rfl, by kernel_rfl, by kernel_rfl, by kernel_rfl, by kernel_rfl, by kernel_rfl⟩ (forall_cons (fun x => ⟨rfl, fun k => impl_placesAscend.h5 k x.1 x.2.1 x.2.2.1 x.2.2.2.1⟩) (forall_nil)) (fun k x => impl_placesAscend.hf k x.1) k
noncomputable def b121 : Code := Try.f121.body.getD .skip
theorem e121 : OM.Entry Try.prog 121 := ⟨_, Try.func121, by kernel_rfl, by kernel_rfl⟩
@[reducible] noncomputable def impl_seenOk.g : Sig := ⟨[.fz tMend], [.v .bool .z], []⟩
@[reducible] noncomputable def impl_seenOk.fk : Nat → denI impl_seenOk.g.pms → Option (denR (outTys impl_seenOk.g.rts impl_seenOk.g.pms)) := fun k x => impl_seenOk.f k x.1
@[reducible] noncomputable def impl_seenOk.sm (k : Nat) : Sm := ⟨121, impl_seenOk.g.pms, impl_seenOk.g.rts, impl_seenOk.fk k⟩
noncomputable def impl_seenOk.E (k : Nat) : Env := ⟨tys, [impl_EpochOf.sm k, impl_EntryOk.sm k, impl_placesAscend.sm k], [11], [], []⟩
@[reducible] noncomputable def impl_seenOk.s5 : List Slot := [.r 4 5 [] tMend, .v 24 (.sl tEntry) .z [] 0, .v 28 (.int .i64) .z [] 0, .v 32 (.int .i64) .z [] 0, .v 5 tMend .z [] 0]
noncomputable def impl_seenOk.pts : List (Pt (denR (outTys impl_seenOk.g.rts impl_seenOk.g.pms))) := [⟨5, impl_seenOk.s5, fun k x => impl_seenOk.p5 k x.1 x.2.1 x.2.2.1 x.2.2.2.1⟩]
theorem impl_seenOk.h5 (k : Nat) (x0 : (List Entry)) (x1 : Int) (x2 : Int) (x3 : Mend) : (impl_seenOk.p5 (k + 1) x0 x1 x2 x3 : Option (denR (outTys impl_seenOk.g.rts impl_seenOk.g.pms))) = evAt (impl_seenOk.E k) (fun κ s => lhOf k κ s impl_seenOk.pts) 5 b121 (unproj impl_seenOk.s5 (x0, x1, x2, x3, ())) (OM.fin impl_seenOk.g Try.f121.results.toList) := by kernel_rfl
theorem impl_seenOk.hf (k : Nat) (a0 : Mend) : (impl_seenOk.f k a0 : Option (denR (outTys impl_seenOk.g.rts impl_seenOk.g.pms))) = evC (impl_seenOk.E k) (fun κ s => lhOf k κ s impl_seenOk.pts) b121 (OM.start impl_seenOk.g.pms 0 (a0, ())) (OM.fin impl_seenOk.g Try.f121.results.toList) := by kernel_rfl
theorem impl_seenOk.ok (k : Nat) : SmOk Try.prog (impl_seenOk.sm k) :=
  sm_ok mixed (E := impl_seenOk.E) (pts := impl_seenOk.pts) (fun k => ⟨⟨tysOk, by kernel_rfl⟩, forall_cons ⟨impl_EpochOf.ok k, e96⟩ (forall_cons ⟨impl_EntryOk.ok k, e143⟩ (forall_cons ⟨impl_placesAscend.ok k, e144⟩ (forall_nil)))⟩) (fun _ => rfl) (fun _ => rfl)
    ⟨Try.func121, by kernel_rfl, by kernel_rfl, by kernel_rfl, by kernel_rfl, by kernel_rfl, by kernel_rfl⟩ (forall_cons (fun x => ⟨rfl, fun k => impl_seenOk.h5 k x.1 x.2.1 x.2.2.1 x.2.2.2.1⟩) (forall_nil)) (fun k x => impl_seenOk.hf k x.1) k
noncomputable def b81 : Code := Try.f81.body.getD .skip
theorem e81 : OM.Entry Try.prog 81 := ⟨_, Try.func81, by kernel_rfl, by kernel_rfl⟩
@[reducible] noncomputable def impl_MendOk.g : Sig := ⟨[.fz tConfig, .fz tMend], [.v .bool .z], []⟩
@[reducible] noncomputable def impl_MendOk.fk : Nat → denI impl_MendOk.g.pms → Option (denR (outTys impl_MendOk.g.rts impl_MendOk.g.pms)) := fun k x => impl_MendOk.f k x.1 x.2.1
@[reducible] noncomputable def impl_MendOk.sm (k : Nat) : Sm := ⟨81, impl_MendOk.g.pms, impl_MendOk.g.rts, impl_MendOk.fk k⟩
noncomputable def impl_MendOk.E (k : Nat) : Env := ⟨tys, [impl_within.sm k, impl_ConfigOk.sm k, impl_NodesOk.sm k, impl_isEpoch.sm k, impl_lastOff.sm k, impl_seenOk.sm k], [15], [10, 11], []⟩
@[reducible] noncomputable def impl_MendOk.s5 : List Slot := [.r 8 9 [] tConfig, .r 12 13 [] tMend, .v 40 (.sl (.sl (.int .i64))) .z [] 0, .v 44 (.int .i64) .z [] 0, .v 48 (.int .i64) .z [] 0, .v 9 tConfig .z [] 0, .v 13 tMend .z [] 0]
@[reducible] noncomputable def impl_MendOk.s20 : List Slot := [.r 8 9 [] tConfig, .r 12 13 [] tMend, .v 28 (.int .i64) .z [] 0, .v 9 tConfig .z [] 0, .v 13 tMend .z [] 0]
@[reducible] noncomputable def impl_MendOk.s22 : List Slot := [.r 8 9 [] tConfig, .r 12 13 [] tMend, .v 28 (.int .i64) .z [] 0, .v 32 .bool .z [] 0, .v 9 tConfig .z [] 0, .v 13 tMend .z [] 0]
noncomputable def impl_MendOk.pts : List (Pt (denR (outTys impl_MendOk.g.rts impl_MendOk.g.pms))) := [⟨5, impl_MendOk.s5, fun k x => impl_MendOk.p5 k x.1 x.2.1 x.2.2.1 x.2.2.2.1 x.2.2.2.2.1⟩, ⟨20, impl_MendOk.s20, fun k x => impl_MendOk.p20 k x.1 x.2.1 x.2.2.1⟩, ⟨22, impl_MendOk.s22, fun k x => impl_MendOk.p22 k x.1 x.2.1 x.2.2.1 x.2.2.2.1⟩]
theorem impl_MendOk.h5 (k : Nat) (x0 : (List (List Int))) (x1 : Int) (x2 : Int) (x3 : Config) (x4 : Mend) : (impl_MendOk.p5 (k + 1) x0 x1 x2 x3 x4 : Option (denR (outTys impl_MendOk.g.rts impl_MendOk.g.pms))) = evAt (impl_MendOk.E k) (fun κ s => lhOf k κ s impl_MendOk.pts) 5 b81 (unproj impl_MendOk.s5 (x0, x1, x2, x3, x4, ())) (OM.fin impl_MendOk.g Try.f81.results.toList) := by kernel_rfl
theorem impl_MendOk.h20 (k : Nat) (x0 : Int) (x1 : Config) (x2 : Mend) : (impl_MendOk.p20 (k + 1) x0 x1 x2 : Option (denR (outTys impl_MendOk.g.rts impl_MendOk.g.pms))) = evAt (impl_MendOk.E k) (fun κ s => lhOf k κ s impl_MendOk.pts) 20 b81 (unproj impl_MendOk.s20 (x0, x1, x2, ())) (OM.fin impl_MendOk.g Try.f81.results.toList) := by kernel_rfl
theorem impl_MendOk.h22 (k : Nat) (x0 : Int) (x1 : Bool) (x2 : Config) (x3 : Mend) : (impl_MendOk.p22 (k + 1) x0 x1 x2 x3 : Option (denR (outTys impl_MendOk.g.rts impl_MendOk.g.pms))) = evAt (impl_MendOk.E k) (fun κ s => lhOf k κ s impl_MendOk.pts) 22 b81 (unproj impl_MendOk.s22 (x0, x1, x2, x3, ())) (OM.fin impl_MendOk.g Try.f81.results.toList) := by kernel_rfl
theorem impl_MendOk.hf (k : Nat) (a0 : Config) (a1 : Mend) : (impl_MendOk.f k a0 a1 : Option (denR (outTys impl_MendOk.g.rts impl_MendOk.g.pms))) = evC (impl_MendOk.E k) (fun κ s => lhOf k κ s impl_MendOk.pts) b81 (OM.start impl_MendOk.g.pms 0 (a0, a1, ())) (OM.fin impl_MendOk.g Try.f81.results.toList) := by kernel_rfl
theorem impl_MendOk.ok (k : Nat) : SmOk Try.prog (impl_MendOk.sm k) :=
  sm_ok mixed (E := impl_MendOk.E) (pts := impl_MendOk.pts) (fun k => ⟨⟨tysOk, by kernel_rfl⟩, forall_cons ⟨impl_within.ok k, e62⟩ (forall_cons ⟨impl_ConfigOk.ok k, e72⟩ (forall_cons ⟨impl_NodesOk.ok k, e68⟩ (forall_cons ⟨impl_isEpoch.ok k, e73⟩ (forall_cons ⟨impl_lastOff.ok k, e86⟩ (forall_cons ⟨impl_seenOk.ok k, e121⟩ (forall_nil))))))⟩) (fun _ => rfl) (fun _ => rfl)
    ⟨Try.func81, by kernel_rfl, by kernel_rfl, by kernel_rfl, by kernel_rfl, by kernel_rfl, by kernel_rfl⟩ (forall_cons (fun x => ⟨rfl, fun k => impl_MendOk.h5 k x.1 x.2.1 x.2.2.1 x.2.2.2.1 x.2.2.2.2.1⟩) (forall_cons (fun x => ⟨rfl, fun k => impl_MendOk.h20 k x.1 x.2.1 x.2.2.1⟩) (forall_cons (fun x => ⟨rfl, fun k => impl_MendOk.h22 k x.1 x.2.1 x.2.2.1 x.2.2.2.1⟩) (forall_nil)))) (fun k x => impl_MendOk.hf k x.1 x.2.1) k
noncomputable def b105 : Code := Try.f105.body.getD .skip
theorem e105 : OM.Entry Try.prog 105 := ⟨_, Try.func105, by kernel_rfl, by kernel_rfl⟩
@[reducible] noncomputable def impl_copyInts.g : Sig := ⟨[.fz (.sl (.int .i64))], [.v (.sl (.int .i64)) (.own .z)], []⟩
@[reducible] noncomputable def impl_copyInts.fk : Nat → denI impl_copyInts.g.pms → Option (denR (outTys impl_copyInts.g.rts impl_copyInts.g.pms)) := fun k x => impl_copyInts.f x.1
@[reducible] noncomputable def impl_copyInts.sm (k : Nat) : Sm := ⟨105, impl_copyInts.g.pms, impl_copyInts.g.rts, impl_copyInts.fk k⟩
noncomputable def impl_copyInts.E (k : Nat) : Env := ⟨tys, [], [4], [], []⟩
noncomputable def impl_copyInts.pts : List (Pt (denR (outTys impl_copyInts.g.rts impl_copyInts.g.pms))) := []
theorem impl_copyInts.hf (k : Nat) (a0 : (List Int)) : (impl_copyInts.f a0 : Option (denR (outTys impl_copyInts.g.rts impl_copyInts.g.pms))) = evC (impl_copyInts.E k) (fun κ s => lhOf k κ s impl_copyInts.pts) b105 (OM.start impl_copyInts.g.pms 0 (a0, ())) (OM.fin impl_copyInts.g Try.f105.results.toList) := by kernel_rfl
theorem impl_copyInts.ok (k : Nat) : SmOk Try.prog (impl_copyInts.sm k) :=
  sm_ok mixed (E := impl_copyInts.E) (pts := impl_copyInts.pts) (fun k => ⟨⟨tysOk, by kernel_rfl⟩, forall_nil⟩) (fun _ => rfl) (fun _ => rfl)
    ⟨Try.func105, by kernel_rfl, by kernel_rfl, by kernel_rfl, by kernel_rfl, by kernel_rfl, by kernel_rfl⟩ (forall_nil) (fun k x => impl_copyInts.hf k x.1) k
noncomputable def b124 : Code := Try.f124.body.getD .skip
theorem e124 : OM.Entry Try.prog 124 := ⟨_, Try.func124, by kernel_rfl, by kernel_rfl⟩
@[reducible] noncomputable def impl_copyEntries.g : Sig := ⟨[.fz (.sl tEntry)], [.v (.sl tEntry) (.own .z)], []⟩
@[reducible] noncomputable def impl_copyEntries.fk : Nat → denI impl_copyEntries.g.pms → Option (denR (outTys impl_copyEntries.g.rts impl_copyEntries.g.pms)) := fun k x => impl_copyEntries.f x.1
@[reducible] noncomputable def impl_copyEntries.sm (k : Nat) : Sm := ⟨124, impl_copyEntries.g.pms, impl_copyEntries.g.rts, impl_copyEntries.fk k⟩
noncomputable def impl_copyEntries.E (k : Nat) : Env := ⟨tys, [], [4], [], []⟩
noncomputable def impl_copyEntries.pts : List (Pt (denR (outTys impl_copyEntries.g.rts impl_copyEntries.g.pms))) := []
theorem impl_copyEntries.hf (k : Nat) (a0 : (List Entry)) : (impl_copyEntries.f a0 : Option (denR (outTys impl_copyEntries.g.rts impl_copyEntries.g.pms))) = evC (impl_copyEntries.E k) (fun κ s => lhOf k κ s impl_copyEntries.pts) b124 (OM.start impl_copyEntries.g.pms 0 (a0, ())) (OM.fin impl_copyEntries.g Try.f124.results.toList) := by kernel_rfl
theorem impl_copyEntries.ok (k : Nat) : SmOk Try.prog (impl_copyEntries.sm k) :=
  sm_ok mixed (E := impl_copyEntries.E) (pts := impl_copyEntries.pts) (fun k => ⟨⟨tysOk, by kernel_rfl⟩, forall_nil⟩) (fun _ => rfl) (fun _ => rfl)
    ⟨Try.func124, by kernel_rfl, by kernel_rfl, by kernel_rfl, by kernel_rfl, by kernel_rfl, by kernel_rfl⟩ (forall_nil) (fun k x => impl_copyEntries.hf k x.1) k
noncomputable def b85 : Code := Try.f85.body.getD .skip
theorem e85 : OM.Entry Try.prog 85 := ⟨_, Try.func85, by kernel_rfl, by kernel_rfl⟩
@[reducible] noncomputable def impl_copyMend.g : Sig := ⟨[.fz tMend], [.v tMend (.two .z (.two .z (.two (.own .z) (.two (.own .z) (.two .z (.two (.own (.own .z)) .z))))))], []⟩
@[reducible] noncomputable def impl_copyMend.fk : Nat → denI impl_copyMend.g.pms → Option (denR (outTys impl_copyMend.g.rts impl_copyMend.g.pms)) := fun k x => impl_copyMend.f k x.1
@[reducible] noncomputable def impl_copyMend.sm (k : Nat) : Sm := ⟨85, impl_copyMend.g.pms, impl_copyMend.g.rts, impl_copyMend.fk k⟩
noncomputable def impl_copyMend.E (k : Nat) : Env := ⟨tys, [impl_copyInts.sm k, impl_copyEntries.sm k], [22], [], []⟩
@[reducible] noncomputable def impl_copyMend.s9 : List Slot := [.r 8 9 [] tMend, .r 12 13 [] tMend, .v 68 (.sl (.sl (.int .i64))) .z [] 0, .v 72 (.int .i64) .z [] 0, .v 76 (.int .i64) .z [] 0, .v 9 tMend (.two .z (.two .z (.two (.own .a) (.two (.own .a) (.two .z (.two (.own .a) .z)))))) [] 0, .v 13 tMend (.two .z (.two .z (.two (.own .z) (.two (.own .z) (.two .z (.two (.own (.own .z)) .z)))))) [] 0]
noncomputable def impl_copyMend.pts : List (Pt (denR (outTys impl_copyMend.g.rts impl_copyMend.g.pms))) := [⟨9, impl_copyMend.s9, fun k x => impl_copyMend.p9 k x.1 x.2.1 x.2.2.1 x.2.2.2.1 x.2.2.2.2.1⟩]
theorem impl_copyMend.h9 (k : Nat) (x0 : (List (List Int))) (x1 : Int) (x2 : Int) (x3 : Mend) (x4 : Mend) : (impl_copyMend.p9 (k + 1) x0 x1 x2 x3 x4 : Option (denR (outTys impl_copyMend.g.rts impl_copyMend.g.pms))) = evAt (impl_copyMend.E k) (fun κ s => lhOf k κ s impl_copyMend.pts) 9 b85 (unproj impl_copyMend.s9 (x0, x1, x2, x3, x4, ())) (OM.fin impl_copyMend.g Try.f85.results.toList) := by kernel_rfl
theorem impl_copyMend.hf (k : Nat) (a0 : Mend) : (impl_copyMend.f k a0 : Option (denR (outTys impl_copyMend.g.rts impl_copyMend.g.pms))) = evC (impl_copyMend.E k) (fun κ s => lhOf k κ s impl_copyMend.pts) b85 (OM.start impl_copyMend.g.pms 0 (a0, ())) (OM.fin impl_copyMend.g Try.f85.results.toList) := by kernel_rfl
theorem impl_copyMend.ok (k : Nat) : SmOk Try.prog (impl_copyMend.sm k) :=
  sm_ok mixed (E := impl_copyMend.E) (pts := impl_copyMend.pts) (fun k => ⟨⟨tysOk, by kernel_rfl⟩, forall_cons ⟨impl_copyInts.ok k, e105⟩ (forall_cons ⟨impl_copyEntries.ok k, e124⟩ (forall_nil))⟩) (fun _ => rfl) (fun _ => rfl)
    ⟨Try.func85, by kernel_rfl, by kernel_rfl, by kernel_rfl, by kernel_rfl, by kernel_rfl, by kernel_rfl⟩ (forall_cons (fun x => ⟨rfl, fun k => impl_copyMend.h9 k x.1 x.2.1 x.2.2.1 x.2.2.2.1 x.2.2.2.2.1⟩) (forall_nil)) (fun k x => impl_copyMend.hf k x.1) k
noncomputable def b106 : Code := Try.f106.body.getD .skip
theorem e106 : OM.Entry Try.prog 106 := ⟨_, Try.func106, by kernel_rfl, by kernel_rfl⟩
noncomputable def slices_DeleteFunc_int_int_impl_withoutNode_1.rho : Shelf.Ren := ⟨fun n => cond (Nat.beq n 6) 133 (cond (Nat.beq n 10) 106 (n)), fun n => cond (Nat.beq n 22) 22 (cond (Nat.beq n 23) 3 (cond (Nat.beq n 25) 99 (cond (Nat.beq n 0) 0 (cond (Nat.beq n 3) 3 (cond (Nat.beq n 4) 4 (n)))))), fun n => n⟩
theorem slices_DeleteFunc_int_int_impl_withoutNode_1.lay : Proofs.SlLaysH.n10 Try.prog slices_DeleteFunc_int_int_impl_withoutNode_1.rho := { mixed := mixed, f6 := ⟨"slices.IndexFunc[[]int,int]", by kernel_rfl, (Try.func133).trans (congrArg some (by kernel_rfl))⟩, f10 := ⟨"slices.DeleteFunc[[]int,int]", by kernel_rfl, (Try.func106).trans (congrArg some (by kernel_rfl))⟩, t0 := Try.underlying0, a0 := Try.isAgg0, z0 := Try.sizeOf0, v0 := Try.zeroValue0, t3 := Try.underlying3, a3 := Try.isAgg3, z3 := Try.sizeOf3, v3 := Try.zeroValue3, t4 := Try.underlying4, a4 := Try.isAgg4, z4 := Try.sizeOf4, v4 := Try.zeroValue4, t22 := Try.underlying22, a22 := Try.isAgg22, z22 := Try.sizeOf22, v22 := Try.zeroValue22, a23 := Try.isAgg3, z23 := Try.sizeOf3, t25 := Try.underlying99, a25 := Try.isAgg99, z25 := Try.sizeOf99, v25 := Try.zeroValue99 }
theorem slices_DeleteFunc_int_int_impl_withoutNode_1.gives (w : World) (S : Nat → Prop) (y : (Int × Unit)) (cap : List Value) (x : Int) (hy : slices_DeleteFunc_int_int_impl_withoutNode_1.okp y) (h : Rp w S (.pair (.fp (.int .i64)) .unit) .z y cap (fun _ => False)) : Proofs.FnGives Try.prog 107 cap.toArray #[.int .i64 x] (.bool (slices_DeleteFunc_int_int_impl_withoutNode_1.pred y x)) w := by
  obtain ⟨b, off, c1, rfl, h1, h2⟩ := cap_one h
  have hcell := intAt h1 h2
  unfold slices_DeleteFunc_int_int_impl_withoutNode_1.pred
  generalize y.1 = u at hcell ⊢
  clear h h1 h2 hy
  show Calls Try.prog 107 #[.int .i64 x, .pointer (some ⟨b, off, none⟩)] w _
  go_enter Try.func107, Try.ntmps107
  go_wp2
  all_goals (go_ret; exact ⟨by first | (simp_all; done) | (by_cases h : x = u <;> simp [h]; done) | (simp; by_cases h : x = u <;> simp [h]), 0, rfl⟩)
@[reducible] noncomputable def slices_DeleteFunc_int_int_impl_withoutNode_1.g : Sig := ⟨[.own (.sl (.int .i64)) (.own .z), .fz (.fn 107 (.pair (.fp (.int .i64)) .unit))], [.v (.sl (.int .i64)) (.own .z)], []⟩
@[reducible] noncomputable def slices_DeleteFunc_int_int_impl_withoutNode_1.fk : Nat → denI slices_DeleteFunc_int_int_impl_withoutNode_1.g.pms → Option (denR (outTys slices_DeleteFunc_int_int_impl_withoutNode_1.g.rts slices_DeleteFunc_int_int_impl_withoutNode_1.g.pms)) := fun k x => slices_DeleteFunc_int_int_impl_withoutNode_1.f x.1 x.2.1
@[reducible] noncomputable def slices_DeleteFunc_int_int_impl_withoutNode_1.sm (k : Nat) : Sm := ⟨106, slices_DeleteFunc_int_int_impl_withoutNode_1.g.pms, slices_DeleteFunc_int_int_impl_withoutNode_1.g.rts, slices_DeleteFunc_int_int_impl_withoutNode_1.fk k⟩
theorem slices_DeleteFunc_int_int_impl_withoutNode_1.ok (k : Nat) : SmOk Try.prog (slices_DeleteFunc_int_int_impl_withoutNode_1.sm k) :=
  del_ok (t := (.pair (.fp (.int .i64)) .unit)) slices_DeleteFunc_int_int_impl_withoutNode_1.lay Try.zeroValue3 (Proofs.enters_of Try.func107 (by kernel_rfl) rfl) slices_DeleteFunc_int_int_impl_withoutNode_1.pred slices_DeleteFunc_int_int_impl_withoutNode_1.okp slices_DeleteFunc_int_int_impl_withoutNode_1.gives

noncomputable def b54 : Code := Try.f54.body.getD .skip
theorem e54 : OM.Entry Try.prog 54 := ⟨_, Try.func54, by kernel_rfl, by kernel_rfl⟩
@[reducible] noncomputable def impl_withoutNode.g : Sig := ⟨[.fz (.sl (.int .i64)), .fz (.int .i64)], [.v (.sl (.int .i64)) (.own .z)], []⟩
@[reducible] noncomputable def impl_withoutNode.fk : Nat → denI impl_withoutNode.g.pms → Option (denR (outTys impl_withoutNode.g.rts impl_withoutNode.g.pms)) := fun k x => impl_withoutNode.f x.1 x.2.1
@[reducible] noncomputable def impl_withoutNode.sm (k : Nat) : Sm := ⟨54, impl_withoutNode.g.pms, impl_withoutNode.g.rts, impl_withoutNode.fk k⟩
noncomputable def impl_withoutNode.E (k : Nat) : Env := ⟨tys, [impl_copyInts.sm k, slices_DeleteFunc_int_int_impl_withoutNode_1.sm k], [], [], []⟩
noncomputable def impl_withoutNode.pts : List (Pt (denR (outTys impl_withoutNode.g.rts impl_withoutNode.g.pms))) := []
theorem impl_withoutNode.hf (k : Nat) (a0 : (List Int)) (a1 : Int) : (impl_withoutNode.f a0 a1 : Option (denR (outTys impl_withoutNode.g.rts impl_withoutNode.g.pms))) = evC (impl_withoutNode.E k) (fun κ s => lhOf k κ s impl_withoutNode.pts) b54 (OM.start impl_withoutNode.g.pms 0 (a0, a1, ())) (OM.fin impl_withoutNode.g Try.f54.results.toList) := by kernel_rfl
theorem impl_withoutNode.ok (k : Nat) : SmOk Try.prog (impl_withoutNode.sm k) :=
  sm_ok mixed (E := impl_withoutNode.E) (pts := impl_withoutNode.pts) (fun k => ⟨⟨tysOk, by kernel_rfl⟩, forall_cons ⟨impl_copyInts.ok k, e105⟩ (forall_cons ⟨slices_DeleteFunc_int_int_impl_withoutNode_1.ok k, e106⟩ (forall_nil))⟩) (fun _ => rfl) (fun _ => rfl)
    ⟨Try.func54, by kernel_rfl, by kernel_rfl, by kernel_rfl, by kernel_rfl, by kernel_rfl, by kernel_rfl⟩ (forall_nil) (fun k x => impl_withoutNode.hf k x.1 x.2.1) k
noncomputable def b46 : Code := Try.f46.body.getD .skip
theorem e46 : OM.Entry Try.prog 46 := ⟨_, Try.func46, by kernel_rfl, by kernel_rfl⟩
@[reducible] noncomputable def impl_MendForget.g : Sig := ⟨[.fz tConfig, .fz tMend, .fz (.int .i64)], [.v tMend (.two .z (.two .z (.two (.own .z) (.two (.own .z) (.two .z (.two (.own (.own .z)) .z)))))), .v .bool .z], []⟩
@[reducible] noncomputable def impl_MendForget.fk : Nat → denI impl_MendForget.g.pms → Option (denR (outTys impl_MendForget.g.rts impl_MendForget.g.pms)) := fun k x => impl_MendForget.f k x.1 x.2.1 x.2.2.1
@[reducible] noncomputable def impl_MendForget.sm (k : Nat) : Sm := ⟨46, impl_MendForget.g.pms, impl_MendForget.g.rts, impl_MendForget.fk k⟩
noncomputable def impl_MendForget.E (k : Nat) : Env := ⟨tys, [impl_MendOk.sm k, impl_copyMend.sm k, impl_withoutNode.sm k], [25], [], []⟩
@[reducible] noncomputable def impl_MendForget.s11 : List Slot := [.v 8 (.int .i64) .z [] 0, .r 24 25 [] tMend, .r 32 33 [] tMend, .v 76 (.sl (.sl (.int .i64))) .z [] 0, .v 80 (.int .i64) .z [] 0, .v 84 (.int .i64) .z [] 0, .v 25 tMend (.two .z (.two .z (.two (.own .a) (.two (.own .a) (.two .z (.two (.own .a) .z)))))) [] 0, .v 33 tMend (.two .z (.two .z (.two (.own .z) (.two (.own .z) (.two .z (.two (.own (.own .z)) .z)))))) [] 0]
noncomputable def impl_MendForget.pts : List (Pt (denR (outTys impl_MendForget.g.rts impl_MendForget.g.pms))) := [⟨11, impl_MendForget.s11, fun k x => impl_MendForget.p11 k x.1 x.2.1 x.2.2.1 x.2.2.2.1 x.2.2.2.2.1 x.2.2.2.2.2.1⟩]
theorem impl_MendForget.h11 (k : Nat) (x0 : Int) (x1 : (List (List Int))) (x2 : Int) (x3 : Int) (x4 : Mend) (x5 : Mend) : (impl_MendForget.p11 (k + 1) x0 x1 x2 x3 x4 x5 : Option (denR (outTys impl_MendForget.g.rts impl_MendForget.g.pms))) = evAt (impl_MendForget.E k) (fun κ s => lhOf k κ s impl_MendForget.pts) 11 b46 (unproj impl_MendForget.s11 (x0, x1, x2, x3, x4, x5, ())) (OM.fin impl_MendForget.g Try.f46.results.toList) := by kernel_rfl
theorem impl_MendForget.hf (k : Nat) (a0 : Config) (a1 : Mend) (a2 : Int) : (impl_MendForget.f k a0 a1 a2 : Option (denR (outTys impl_MendForget.g.rts impl_MendForget.g.pms))) = evC (impl_MendForget.E k) (fun κ s => lhOf k κ s impl_MendForget.pts) b46 (OM.start impl_MendForget.g.pms 0 (a0, a1, a2, ())) (OM.fin impl_MendForget.g Try.f46.results.toList) := by kernel_rfl
theorem impl_MendForget.ok (k : Nat) : SmOk Try.prog (impl_MendForget.sm k) :=
  sm_ok mixed (E := impl_MendForget.E) (pts := impl_MendForget.pts) (fun k => ⟨⟨tysOk, by kernel_rfl⟩, forall_cons ⟨impl_MendOk.ok k, e81⟩ (forall_cons ⟨impl_copyMend.ok k, e85⟩ (forall_cons ⟨impl_withoutNode.ok k, e54⟩ (forall_nil)))⟩) (fun _ => rfl) (fun _ => rfl)
    ⟨Try.func46, by kernel_rfl, by kernel_rfl, by kernel_rfl, by kernel_rfl, by kernel_rfl, by kernel_rfl⟩ (forall_cons (fun x => ⟨rfl, fun k => impl_MendForget.h11 k x.1 x.2.1 x.2.2.1 x.2.2.2.1 x.2.2.2.2.1 x.2.2.2.2.2.1⟩) (forall_nil)) (fun k x => impl_MendForget.hf k x.1 x.2.1 x.2.2.1) k
noncomputable def b35 : Code := Try.f35.body.getD .skip
theorem e35 : OM.Entry Try.prog 35 := ⟨_, Try.func35, by kernel_rfl, by kernel_rfl⟩
@[reducible] noncomputable def laws_eqIntS.g : Sig := ⟨[.fz (.sl (.int .i64)), .fz (.sl (.int .i64))], [.v .bool .z], []⟩
@[reducible] noncomputable def laws_eqIntS.fk : Nat → denI laws_eqIntS.g.pms → Option (denR (outTys laws_eqIntS.g.rts laws_eqIntS.g.pms)) := fun k x => laws_eqIntS.f k x.1 x.2.1
@[reducible] noncomputable def laws_eqIntS.sm (k : Nat) : Sm := ⟨35, laws_eqIntS.g.pms, laws_eqIntS.g.rts, laws_eqIntS.fk k⟩
noncomputable def laws_eqIntS.E (k : Nat) : Env := ⟨tys, [], [], [], []⟩
@[reducible] noncomputable def laws_eqIntS.s9 : List Slot := [.v 0 (.sl (.int .i64)) .z [] 0, .v 4 (.sl (.int .i64)) .z [] 0, .v 20 (.int .i64) .z [] 0]
noncomputable def laws_eqIntS.pts : List (Pt (denR (outTys laws_eqIntS.g.rts laws_eqIntS.g.pms))) := [⟨9, laws_eqIntS.s9, fun k x => laws_eqIntS.p9 k x.1 x.2.1 x.2.2.1⟩]
theorem laws_eqIntS.h9 (k : Nat) (x0 : (List Int)) (x1 : (List Int)) (x2 : Int) : (laws_eqIntS.p9 (k + 1) x0 x1 x2 : Option (denR (outTys laws_eqIntS.g.rts laws_eqIntS.g.pms))) = evAt (laws_eqIntS.E k) (fun κ s => lhOf k κ s laws_eqIntS.pts) 9 b35 (unproj laws_eqIntS.s9 (x0, x1, x2, ())) (OM.fin laws_eqIntS.g Try.f35.results.toList) := by kernel_rfl
theorem laws_eqIntS.hf (k : Nat) (a0 : (List Int)) (a1 : (List Int)) : (laws_eqIntS.f k a0 a1 : Option (denR (outTys laws_eqIntS.g.rts laws_eqIntS.g.pms))) = evC (laws_eqIntS.E k) (fun κ s => lhOf k κ s laws_eqIntS.pts) b35 (OM.start laws_eqIntS.g.pms 0 (a0, a1, ())) (OM.fin laws_eqIntS.g Try.f35.results.toList) := by kernel_rfl
theorem laws_eqIntS.ok (k : Nat) : SmOk Try.prog (laws_eqIntS.sm k) :=
  sm_ok mixed (E := laws_eqIntS.E) (pts := laws_eqIntS.pts) (fun k => ⟨⟨tysOk, by kernel_rfl⟩, forall_nil⟩) (fun _ => rfl) (fun _ => rfl)
    ⟨Try.func35, by kernel_rfl, by kernel_rfl, by kernel_rfl, by kernel_rfl, by kernel_rfl, by kernel_rfl⟩ (forall_cons (fun x => ⟨rfl, fun k => laws_eqIntS.h9 k x.1 x.2.1 x.2.2.1⟩) (forall_nil)) (fun k x => laws_eqIntS.hf k x.1 x.2.1) k
noncomputable def b98 : Code := Try.f98.body.getD .skip
theorem e98 : OM.Entry Try.prog 98 := ⟨_, Try.func98, by kernel_rfl, by kernel_rfl⟩
@[reducible] noncomputable def laws_eqEntry.g : Sig := ⟨[.fz tEntry, .fz tEntry], [.v .bool .z], []⟩
@[reducible] noncomputable def laws_eqEntry.fk : Nat → denI laws_eqEntry.g.pms → Option (denR (outTys laws_eqEntry.g.rts laws_eqEntry.g.pms)) := fun k x => laws_eqEntry.f x.1 x.2.1
@[reducible] noncomputable def laws_eqEntry.sm (k : Nat) : Sm := ⟨98, laws_eqEntry.g.pms, laws_eqEntry.g.rts, laws_eqEntry.fk k⟩
noncomputable def laws_eqEntry.E (k : Nat) : Env := ⟨tys, [], [], [], [4]⟩
noncomputable def laws_eqEntry.pts : List (Pt (denR (outTys laws_eqEntry.g.rts laws_eqEntry.g.pms))) := []
theorem laws_eqEntry.hf (k : Nat) (a0 : Entry) (a1 : Entry) : (laws_eqEntry.f a0 a1 : Option (denR (outTys laws_eqEntry.g.rts laws_eqEntry.g.pms))) = evC (laws_eqEntry.E k) (fun κ s => lhOf k κ s laws_eqEntry.pts) b98 (OM.start laws_eqEntry.g.pms 0 (a0, a1, ())) (OM.fin laws_eqEntry.g Try.f98.results.toList) := by kernel_rfl
theorem laws_eqEntry.ok (k : Nat) : SmOk Try.prog (laws_eqEntry.sm k) :=
  sm_ok mixed (E := laws_eqEntry.E) (pts := laws_eqEntry.pts) (fun k => ⟨⟨tysOk, by kernel_rfl⟩, forall_nil⟩) (fun _ => rfl) (fun _ => rfl)
    ⟨Try.func98, by kernel_rfl, by kernel_rfl, by kernel_rfl, by kernel_rfl, by kernel_rfl, by kernel_rfl⟩ (forall_nil) (fun k x => laws_eqEntry.hf k x.1 x.2.1) k
noncomputable def b43 : Code := Try.f43.body.getD .skip
theorem e43 : OM.Entry Try.prog 43 := ⟨_, Try.func43, by kernel_rfl, by kernel_rfl⟩
@[reducible] noncomputable def laws_eqEntryS.g : Sig := ⟨[.fz (.sl tEntry), .fz (.sl tEntry)], [.v .bool .z], []⟩
@[reducible] noncomputable def laws_eqEntryS.fk : Nat → denI laws_eqEntryS.g.pms → Option (denR (outTys laws_eqEntryS.g.rts laws_eqEntryS.g.pms)) := fun k x => laws_eqEntryS.f k x.1 x.2.1
@[reducible] noncomputable def laws_eqEntryS.sm (k : Nat) : Sm := ⟨43, laws_eqEntryS.g.pms, laws_eqEntryS.g.rts, laws_eqEntryS.fk k⟩
noncomputable def laws_eqEntryS.E (k : Nat) : Env := ⟨tys, [laws_eqEntry.sm k], [], [], []⟩
@[reducible] noncomputable def laws_eqEntryS.s9 : List Slot := [.v 0 (.sl tEntry) .z [] 0, .v 4 (.sl tEntry) .z [] 0, .v 20 (.int .i64) .z [] 0]
noncomputable def laws_eqEntryS.pts : List (Pt (denR (outTys laws_eqEntryS.g.rts laws_eqEntryS.g.pms))) := [⟨9, laws_eqEntryS.s9, fun k x => laws_eqEntryS.p9 k x.1 x.2.1 x.2.2.1⟩]
theorem laws_eqEntryS.h9 (k : Nat) (x0 : (List Entry)) (x1 : (List Entry)) (x2 : Int) : (laws_eqEntryS.p9 (k + 1) x0 x1 x2 : Option (denR (outTys laws_eqEntryS.g.rts laws_eqEntryS.g.pms))) = evAt (laws_eqEntryS.E k) (fun κ s => lhOf k κ s laws_eqEntryS.pts) 9 b43 (unproj laws_eqEntryS.s9 (x0, x1, x2, ())) (OM.fin laws_eqEntryS.g Try.f43.results.toList) := by kernel_rfl
theorem laws_eqEntryS.hf (k : Nat) (a0 : (List Entry)) (a1 : (List Entry)) : (laws_eqEntryS.f k a0 a1 : Option (denR (outTys laws_eqEntryS.g.rts laws_eqEntryS.g.pms))) = evC (laws_eqEntryS.E k) (fun κ s => lhOf k κ s laws_eqEntryS.pts) b43 (OM.start laws_eqEntryS.g.pms 0 (a0, a1, ())) (OM.fin laws_eqEntryS.g Try.f43.results.toList) := by kernel_rfl
theorem laws_eqEntryS.ok (k : Nat) : SmOk Try.prog (laws_eqEntryS.sm k) :=
  sm_ok mixed (E := laws_eqEntryS.E) (pts := laws_eqEntryS.pts) (fun k => ⟨⟨tysOk, by kernel_rfl⟩, forall_cons ⟨laws_eqEntry.ok k, e98⟩ (forall_nil)⟩) (fun _ => rfl) (fun _ => rfl)
    ⟨Try.func43, by kernel_rfl, by kernel_rfl, by kernel_rfl, by kernel_rfl, by kernel_rfl, by kernel_rfl⟩ (forall_cons (fun x => ⟨rfl, fun k => laws_eqEntryS.h9 k x.1 x.2.1 x.2.2.1⟩) (forall_nil)) (fun k x => laws_eqEntryS.hf k x.1 x.2.1) k
noncomputable def b87 : Code := Try.f87.body.getD .skip
theorem e87 : OM.Entry Try.prog 87 := ⟨_, Try.func87, by kernel_rfl, by kernel_rfl⟩
@[reducible] noncomputable def laws_eqIntSS.g : Sig := ⟨[.fz (.sl (.sl (.int .i64))), .fz (.sl (.sl (.int .i64)))], [.v .bool .z], []⟩
@[reducible] noncomputable def laws_eqIntSS.fk : Nat → denI laws_eqIntSS.g.pms → Option (denR (outTys laws_eqIntSS.g.rts laws_eqIntSS.g.pms)) := fun k x => laws_eqIntSS.f k x.1 x.2.1
@[reducible] noncomputable def laws_eqIntSS.sm (k : Nat) : Sm := ⟨87, laws_eqIntSS.g.pms, laws_eqIntSS.g.rts, laws_eqIntSS.fk k⟩
noncomputable def laws_eqIntSS.E (k : Nat) : Env := ⟨tys, [laws_eqIntS.sm k], [], [], []⟩
@[reducible] noncomputable def laws_eqIntSS.s9 : List Slot := [.v 0 (.sl (.sl (.int .i64))) .z [] 0, .v 4 (.sl (.sl (.int .i64))) .z [] 0, .v 20 (.int .i64) .z [] 0]
noncomputable def laws_eqIntSS.pts : List (Pt (denR (outTys laws_eqIntSS.g.rts laws_eqIntSS.g.pms))) := [⟨9, laws_eqIntSS.s9, fun k x => laws_eqIntSS.p9 k x.1 x.2.1 x.2.2.1⟩]
theorem laws_eqIntSS.h9 (k : Nat) (x0 : (List (List Int))) (x1 : (List (List Int))) (x2 : Int) : (laws_eqIntSS.p9 (k + 1) x0 x1 x2 : Option (denR (outTys laws_eqIntSS.g.rts laws_eqIntSS.g.pms))) = evAt (laws_eqIntSS.E k) (fun κ s => lhOf k κ s laws_eqIntSS.pts) 9 b87 (unproj laws_eqIntSS.s9 (x0, x1, x2, ())) (OM.fin laws_eqIntSS.g Try.f87.results.toList) := by kernel_rfl
theorem laws_eqIntSS.hf (k : Nat) (a0 : (List (List Int))) (a1 : (List (List Int))) : (laws_eqIntSS.f k a0 a1 : Option (denR (outTys laws_eqIntSS.g.rts laws_eqIntSS.g.pms))) = evC (laws_eqIntSS.E k) (fun κ s => lhOf k κ s laws_eqIntSS.pts) b87 (OM.start laws_eqIntSS.g.pms 0 (a0, a1, ())) (OM.fin laws_eqIntSS.g Try.f87.results.toList) := by kernel_rfl
theorem laws_eqIntSS.ok (k : Nat) : SmOk Try.prog (laws_eqIntSS.sm k) :=
  sm_ok mixed (E := laws_eqIntSS.E) (pts := laws_eqIntSS.pts) (fun k => ⟨⟨tysOk, by kernel_rfl⟩, forall_cons ⟨laws_eqIntS.ok k, e35⟩ (forall_nil)⟩) (fun _ => rfl) (fun _ => rfl)
    ⟨Try.func87, by kernel_rfl, by kernel_rfl, by kernel_rfl, by kernel_rfl, by kernel_rfl, by kernel_rfl⟩ (forall_cons (fun x => ⟨rfl, fun k => laws_eqIntSS.h9 k x.1 x.2.1 x.2.2.1⟩) (forall_nil)) (fun k x => laws_eqIntSS.hf k x.1 x.2.1) k
noncomputable def b34 : Code := Try.f34.body.getD .skip
theorem e34 : OM.Entry Try.prog 34 := ⟨_, Try.func34, by kernel_rfl, by kernel_rfl⟩
@[reducible] noncomputable def laws_eqMend.g : Sig := ⟨[.fz tMend, .fz tMend], [.v .bool .z], []⟩
@[reducible] noncomputable def laws_eqMend.fk : Nat → denI laws_eqMend.g.pms → Option (denR (outTys laws_eqMend.g.rts laws_eqMend.g.pms)) := fun k x => laws_eqMend.f k x.1 x.2.1
@[reducible] noncomputable def laws_eqMend.sm (k : Nat) : Sm := ⟨34, laws_eqMend.g.pms, laws_eqMend.g.rts, laws_eqMend.fk k⟩
noncomputable def laws_eqMend.E (k : Nat) : Env := ⟨tys, [laws_eqIntS.sm k, laws_eqEntryS.sm k, laws_eqIntSS.sm k], [], [], [4]⟩
noncomputable def laws_eqMend.pts : List (Pt (denR (outTys laws_eqMend.g.rts laws_eqMend.g.pms))) := []
theorem laws_eqMend.hf (k : Nat) (a0 : Mend) (a1 : Mend) : (laws_eqMend.f k a0 a1 : Option (denR (outTys laws_eqMend.g.rts laws_eqMend.g.pms))) = evC (laws_eqMend.E k) (fun κ s => lhOf k κ s laws_eqMend.pts) b34 (OM.start laws_eqMend.g.pms 0 (a0, a1, ())) (OM.fin laws_eqMend.g Try.f34.results.toList) := by kernel_rfl
theorem laws_eqMend.ok (k : Nat) : SmOk Try.prog (laws_eqMend.sm k) :=
  sm_ok mixed (E := laws_eqMend.E) (pts := laws_eqMend.pts) (fun k => ⟨⟨tysOk, by kernel_rfl⟩, forall_cons ⟨laws_eqIntS.ok k, e35⟩ (forall_cons ⟨laws_eqEntryS.ok k, e43⟩ (forall_cons ⟨laws_eqIntSS.ok k, e87⟩ (forall_nil)))⟩) (fun _ => rfl) (fun _ => rfl)
    ⟨Try.func34, by kernel_rfl, by kernel_rfl, by kernel_rfl, by kernel_rfl, by kernel_rfl, by kernel_rfl⟩ (forall_nil) (fun k x => laws_eqMend.hf k x.1 x.2.1) k
noncomputable def b16 : Code := Try.f16.body.getD .skip
theorem e16 : OM.Entry Try.prog 16 := ⟨_, Try.func16, by kernel_rfl, by kernel_rfl⟩
@[reducible] noncomputable def laws_eqConfig.g : Sig := ⟨[.fz tConfig, .fz tConfig], [.v .bool .z], []⟩
@[reducible] noncomputable def laws_eqConfig.fk : Nat → denI laws_eqConfig.g.pms → Option (denR (outTys laws_eqConfig.g.rts laws_eqConfig.g.pms)) := fun k x => laws_eqConfig.f k x.1 x.2.1
@[reducible] noncomputable def laws_eqConfig.sm (k : Nat) : Sm := ⟨16, laws_eqConfig.g.pms, laws_eqConfig.g.rts, laws_eqConfig.fk k⟩
noncomputable def laws_eqConfig.E (k : Nat) : Env := ⟨tys, [laws_eqIntS.sm k], [], [], []⟩
noncomputable def laws_eqConfig.pts : List (Pt (denR (outTys laws_eqConfig.g.rts laws_eqConfig.g.pms))) := []
theorem laws_eqConfig.hf (k : Nat) (a0 : Config) (a1 : Config) : (laws_eqConfig.f k a0 a1 : Option (denR (outTys laws_eqConfig.g.rts laws_eqConfig.g.pms))) = evC (laws_eqConfig.E k) (fun κ s => lhOf k κ s laws_eqConfig.pts) b16 (OM.start laws_eqConfig.g.pms 0 (a0, a1, ())) (OM.fin laws_eqConfig.g Try.f16.results.toList) := by kernel_rfl
theorem laws_eqConfig.ok (k : Nat) : SmOk Try.prog (laws_eqConfig.sm k) :=
  sm_ok mixed (E := laws_eqConfig.E) (pts := laws_eqConfig.pts) (fun k => ⟨⟨tysOk, by kernel_rfl⟩, forall_cons ⟨laws_eqIntS.ok k, e35⟩ (forall_nil)⟩) (fun _ => rfl) (fun _ => rfl)
    ⟨Try.func16, by kernel_rfl, by kernel_rfl, by kernel_rfl, by kernel_rfl, by kernel_rfl, by kernel_rfl⟩ (forall_nil) (fun k x => laws_eqConfig.hf k x.1 x.2.1) k
noncomputable def b37 : Code := Try.f37.body.getD .skip
theorem e37 : OM.Entry Try.prog 37 := ⟨_, Try.func37, by kernel_rfl, by kernel_rfl⟩
@[reducible] noncomputable def laws_markIntS.g : Sig := ⟨[.mut (.sl (.int .i64)) (.own .z), .fz (.int .i64)], [.v (.int .i64) .z], [0]⟩
@[reducible] noncomputable def laws_markIntS.fk : Nat → denI laws_markIntS.g.pms → Option (denR (outTys laws_markIntS.g.rts laws_markIntS.g.pms)) := fun k x => laws_markIntS.f k x.1 x.2.1
@[reducible] noncomputable def laws_markIntS.sm (k : Nat) : Sm := ⟨37, laws_markIntS.g.pms, laws_markIntS.g.rts, laws_markIntS.fk k⟩
noncomputable def laws_markIntS.E (k : Nat) : Env := ⟨tys, [], [], [], []⟩
@[reducible] noncomputable def laws_markIntS.s5 : List Slot := [.v 0 (.sl (.int .i64)) (.own .z) [] 1, .v 4 (.int .i64) .z [] 0, .v 20 (.int .i64) .z [] 0]
noncomputable def laws_markIntS.pts : List (Pt (denR (outTys laws_markIntS.g.rts laws_markIntS.g.pms))) := [⟨5, laws_markIntS.s5, fun k x => laws_markIntS.p5 k x.1 x.2.1 x.2.2.1⟩]
theorem laws_markIntS.h5 (k : Nat) (x0 : (List Int)) (x1 : Int) (x2 : Int) : (laws_markIntS.p5 (k + 1) x0 x1 x2 : Option (denR (outTys laws_markIntS.g.rts laws_markIntS.g.pms))) = evAt (laws_markIntS.E k) (fun κ s => lhOf k κ s laws_markIntS.pts) 5 b37 (unproj laws_markIntS.s5 (x0, x1, x2, ())) (OM.fin laws_markIntS.g Try.f37.results.toList) := by kernel_rfl
theorem laws_markIntS.hf (k : Nat) (a0 : (List Int)) (a1 : Int) : (laws_markIntS.f k a0 a1 : Option (denR (outTys laws_markIntS.g.rts laws_markIntS.g.pms))) = evC (laws_markIntS.E k) (fun κ s => lhOf k κ s laws_markIntS.pts) b37 (OM.start laws_markIntS.g.pms 0 (a0, a1, ())) (OM.fin laws_markIntS.g Try.f37.results.toList) := by kernel_rfl
theorem laws_markIntS.ok (k : Nat) : SmOk Try.prog (laws_markIntS.sm k) :=
  sm_ok mixed (E := laws_markIntS.E) (pts := laws_markIntS.pts) (fun k => ⟨⟨tysOk, by kernel_rfl⟩, forall_nil⟩) (fun _ => rfl) (fun _ => rfl)
    ⟨Try.func37, by kernel_rfl, by kernel_rfl, by kernel_rfl, by kernel_rfl, by kernel_rfl, by kernel_rfl⟩ (forall_cons (fun x => ⟨rfl, fun k => laws_markIntS.h5 k x.1 x.2.1 x.2.2.1⟩) (forall_nil)) (fun k x => laws_markIntS.hf k x.1 x.2.1) k
noncomputable def b17 : Code := Try.f17.body.getD .skip
theorem e17 : OM.Entry Try.prog 17 := ⟨_, Try.func17, by kernel_rfl, by kernel_rfl⟩
@[reducible] noncomputable def laws_markConfig.g : Sig := ⟨[.mut tConfig (.two (.own .z) .z), .fz (.int .i64)], [.v (.int .i64) .z], [9]⟩
@[reducible] noncomputable def laws_markConfig.fk : Nat → denI laws_markConfig.g.pms → Option (denR (outTys laws_markConfig.g.rts laws_markConfig.g.pms)) := fun k x => laws_markConfig.f k x.1 x.2.1
@[reducible] noncomputable def laws_markConfig.sm (k : Nat) : Sm := ⟨17, laws_markConfig.g.pms, laws_markConfig.g.rts, laws_markConfig.fk k⟩
noncomputable def laws_markConfig.E (k : Nat) : Env := ⟨tys, [laws_markIntS.sm k], [], [], []⟩
noncomputable def laws_markConfig.pts : List (Pt (denR (outTys laws_markConfig.g.rts laws_markConfig.g.pms))) := []
theorem laws_markConfig.hf (k : Nat) (a0 : Config) (a1 : Int) : (laws_markConfig.f k a0 a1 : Option (denR (outTys laws_markConfig.g.rts laws_markConfig.g.pms))) = evC (laws_markConfig.E k) (fun κ s => lhOf k κ s laws_markConfig.pts) b17 (OM.start laws_markConfig.g.pms 0 (a0, a1, ())) (OM.fin laws_markConfig.g Try.f17.results.toList) := by kernel_rfl
theorem laws_markConfig.ok (k : Nat) : SmOk Try.prog (laws_markConfig.sm k) :=
  sm_ok mixed (E := laws_markConfig.E) (pts := laws_markConfig.pts) (fun k => ⟨⟨tysOk, by kernel_rfl⟩, forall_cons ⟨laws_markIntS.ok k, e37⟩ (forall_nil)⟩) (fun _ => rfl) (fun _ => rfl)
    ⟨Try.func17, by kernel_rfl, by kernel_rfl, by kernel_rfl, by kernel_rfl, by kernel_rfl, by kernel_rfl⟩ (forall_nil) (fun k x => laws_markConfig.hf k x.1 x.2.1) k
noncomputable def b99 : Code := Try.f99.body.getD .skip
theorem e99 : OM.Entry Try.prog 99 := ⟨_, Try.func99, by kernel_rfl, by kernel_rfl⟩
@[reducible] noncomputable def laws_markText.g : Sig := ⟨[.fz (.int .i64)], [.v .str .z], []⟩
@[reducible] noncomputable def laws_markText.fk : Nat → denI laws_markText.g.pms → Option (denR (outTys laws_markText.g.rts laws_markText.g.pms)) := fun k x => laws_markText.f k x.1
@[reducible] noncomputable def laws_markText.sm (k : Nat) : Sm := ⟨99, laws_markText.g.pms, laws_markText.g.rts, laws_markText.fk k⟩
noncomputable def laws_markText.E (k : Nat) : Env := ⟨tys, [], [], [], []⟩
@[reducible] noncomputable def laws_markText.s9 : List Slot := [.v 0 (.int .i64) .z [] 0, .v 12 .str .z [] 0]
noncomputable def laws_markText.pts : List (Pt (denR (outTys laws_markText.g.rts laws_markText.g.pms))) := [⟨9, laws_markText.s9, fun k x => laws_markText.p9 k x.1 x.2.1⟩]
theorem laws_markText.h9 (k : Nat) (x0 : Int) (x1 : ByteArray) : (laws_markText.p9 (k + 1) x0 x1 : Option (denR (outTys laws_markText.g.rts laws_markText.g.pms))) = evAt (laws_markText.E k) (fun κ s => lhOf k κ s laws_markText.pts) 9 b99 (unproj laws_markText.s9 (x0, x1, ())) (OM.fin laws_markText.g Try.f99.results.toList) := by kernel_rfl
theorem laws_markText.hf (k : Nat) (a0 : Int) : (laws_markText.f k a0 : Option (denR (outTys laws_markText.g.rts laws_markText.g.pms))) = evC (laws_markText.E k) (fun κ s => lhOf k κ s laws_markText.pts) b99 (OM.start laws_markText.g.pms 0 (a0, ())) (OM.fin laws_markText.g Try.f99.results.toList) := by kernel_rfl
theorem laws_markText.ok (k : Nat) : SmOk Try.prog (laws_markText.sm k) :=
  sm_ok mixed (E := laws_markText.E) (pts := laws_markText.pts) (fun k => ⟨⟨tysOk, by kernel_rfl⟩, forall_nil⟩) (fun _ => rfl) (fun _ => rfl)
    ⟨Try.func99, by kernel_rfl, by kernel_rfl, by kernel_rfl, by kernel_rfl, by kernel_rfl, by kernel_rfl⟩ (forall_cons (fun x => ⟨rfl, fun k => laws_markText.h9 k x.1 x.2.1⟩) (forall_nil)) (fun k x => laws_markText.hf k x.1) k
noncomputable def b44 : Code := Try.f44.body.getD .skip
theorem e44 : OM.Entry Try.prog 44 := ⟨_, Try.func44, by kernel_rfl, by kernel_rfl⟩
@[reducible] noncomputable def laws_markEntryS.g : Sig := ⟨[.mut (.sl tEntry) (.own .z), .fz (.int .i64)], [.v (.int .i64) .z], [0]⟩
@[reducible] noncomputable def laws_markEntryS.fk : Nat → denI laws_markEntryS.g.pms → Option (denR (outTys laws_markEntryS.g.rts laws_markEntryS.g.pms)) := fun k x => laws_markEntryS.f k x.1 x.2.1
@[reducible] noncomputable def laws_markEntryS.sm (k : Nat) : Sm := ⟨44, laws_markEntryS.g.pms, laws_markEntryS.g.rts, laws_markEntryS.fk k⟩
noncomputable def laws_markEntryS.E (k : Nat) : Env := ⟨tys, [laws_markText.sm k], [], [], []⟩
@[reducible] noncomputable def laws_markEntryS.s5 : List Slot := [.v 0 (.sl tEntry) (.own .z) [] 1, .v 4 (.int .i64) .z [] 0, .v 20 (.int .i64) .z [] 0]
noncomputable def laws_markEntryS.pts : List (Pt (denR (outTys laws_markEntryS.g.rts laws_markEntryS.g.pms))) := [⟨5, laws_markEntryS.s5, fun k x => laws_markEntryS.p5 k x.1 x.2.1 x.2.2.1⟩]
theorem laws_markEntryS.h5 (k : Nat) (x0 : (List Entry)) (x1 : Int) (x2 : Int) : (laws_markEntryS.p5 (k + 1) x0 x1 x2 : Option (denR (outTys laws_markEntryS.g.rts laws_markEntryS.g.pms))) = evAt (laws_markEntryS.E k) (fun κ s => lhOf k κ s laws_markEntryS.pts) 5 b44 (unproj laws_markEntryS.s5 (x0, x1, x2, ())) (OM.fin laws_markEntryS.g Try.f44.results.toList) := by kernel_rfl
theorem laws_markEntryS.hf (k : Nat) (a0 : (List Entry)) (a1 : Int) : (laws_markEntryS.f k a0 a1 : Option (denR (outTys laws_markEntryS.g.rts laws_markEntryS.g.pms))) = evC (laws_markEntryS.E k) (fun κ s => lhOf k κ s laws_markEntryS.pts) b44 (OM.start laws_markEntryS.g.pms 0 (a0, a1, ())) (OM.fin laws_markEntryS.g Try.f44.results.toList) := by kernel_rfl
theorem laws_markEntryS.ok (k : Nat) : SmOk Try.prog (laws_markEntryS.sm k) :=
  sm_ok mixed (E := laws_markEntryS.E) (pts := laws_markEntryS.pts) (fun k => ⟨⟨tysOk, by kernel_rfl⟩, forall_cons ⟨laws_markText.ok k, e99⟩ (forall_nil)⟩) (fun _ => rfl) (fun _ => rfl)
    ⟨Try.func44, by kernel_rfl, by kernel_rfl, by kernel_rfl, by kernel_rfl, by kernel_rfl, by kernel_rfl⟩ (forall_cons (fun x => ⟨rfl, fun k => laws_markEntryS.h5 k x.1 x.2.1 x.2.2.1⟩) (forall_nil)) (fun k x => laws_markEntryS.hf k x.1 x.2.1) k
noncomputable def b88 : Code := Try.f88.body.getD .skip
theorem e88 : OM.Entry Try.prog 88 := ⟨_, Try.func88, by kernel_rfl, by kernel_rfl⟩
@[reducible] noncomputable def laws_markIntSS.g : Sig := ⟨[.mut (.sl (.sl (.int .i64))) (.own (.own .z)), .fz (.int .i64)], [.v (.int .i64) .z], [0]⟩
@[reducible] noncomputable def laws_markIntSS.fk : Nat → denI laws_markIntSS.g.pms → Option (denR (outTys laws_markIntSS.g.rts laws_markIntSS.g.pms)) := fun k x => laws_markIntSS.f k x.1 x.2.1
@[reducible] noncomputable def laws_markIntSS.sm (k : Nat) : Sm := ⟨88, laws_markIntSS.g.pms, laws_markIntSS.g.rts, laws_markIntSS.fk k⟩
noncomputable def laws_markIntSS.E (k : Nat) : Env := ⟨tys, [laws_markIntS.sm k], [], [], []⟩
@[reducible] noncomputable def laws_markIntSS.s5 : List Slot := [.v 0 (.sl (.sl (.int .i64))) (.own (.own .z)) [] 1, .v 4 (.int .i64) .z [] 0, .v 20 (.int .i64) .z [] 0]
noncomputable def laws_markIntSS.pts : List (Pt (denR (outTys laws_markIntSS.g.rts laws_markIntSS.g.pms))) := [⟨5, laws_markIntSS.s5, fun k x => laws_markIntSS.p5 k x.1 x.2.1 x.2.2.1⟩]
theorem laws_markIntSS.h5 (k : Nat) (x0 : (List (List Int))) (x1 : Int) (x2 : Int) : (laws_markIntSS.p5 (k + 1) x0 x1 x2 : Option (denR (outTys laws_markIntSS.g.rts laws_markIntSS.g.pms))) = evAt (laws_markIntSS.E k) (fun κ s => lhOf k κ s laws_markIntSS.pts) 5 b88 (unproj laws_markIntSS.s5 (x0, x1, x2, ())) (OM.fin laws_markIntSS.g Try.f88.results.toList) := by kernel_rfl
theorem laws_markIntSS.hf (k : Nat) (a0 : (List (List Int))) (a1 : Int) : (laws_markIntSS.f k a0 a1 : Option (denR (outTys laws_markIntSS.g.rts laws_markIntSS.g.pms))) = evC (laws_markIntSS.E k) (fun κ s => lhOf k κ s laws_markIntSS.pts) b88 (OM.start laws_markIntSS.g.pms 0 (a0, a1, ())) (OM.fin laws_markIntSS.g Try.f88.results.toList) := by kernel_rfl
theorem laws_markIntSS.ok (k : Nat) : SmOk Try.prog (laws_markIntSS.sm k) :=
  sm_ok mixed (E := laws_markIntSS.E) (pts := laws_markIntSS.pts) (fun k => ⟨⟨tysOk, by kernel_rfl⟩, forall_cons ⟨laws_markIntS.ok k, e37⟩ (forall_nil)⟩) (fun _ => rfl) (fun _ => rfl)
    ⟨Try.func88, by kernel_rfl, by kernel_rfl, by kernel_rfl, by kernel_rfl, by kernel_rfl, by kernel_rfl⟩ (forall_cons (fun x => ⟨rfl, fun k => laws_markIntSS.h5 k x.1 x.2.1 x.2.2.1⟩) (forall_nil)) (fun k x => laws_markIntSS.hf k x.1 x.2.1) k
noncomputable def b36 : Code := Try.f36.body.getD .skip
theorem e36 : OM.Entry Try.prog 36 := ⟨_, Try.func36, by kernel_rfl, by kernel_rfl⟩
@[reducible] noncomputable def laws_markMend.g : Sig := ⟨[.mut tMend (.two .z (.two .z (.two (.own .z) (.two (.own .z) (.two .z (.two (.own (.own .z)) .z)))))), .fz (.int .i64)], [.v (.int .i64) .z], [9]⟩
@[reducible] noncomputable def laws_markMend.fk : Nat → denI laws_markMend.g.pms → Option (denR (outTys laws_markMend.g.rts laws_markMend.g.pms)) := fun k x => laws_markMend.f k x.1 x.2.1
@[reducible] noncomputable def laws_markMend.sm (k : Nat) : Sm := ⟨36, laws_markMend.g.pms, laws_markMend.g.rts, laws_markMend.fk k⟩
noncomputable def laws_markMend.E (k : Nat) : Env := ⟨tys, [laws_markIntS.sm k, laws_markEntryS.sm k, laws_markIntSS.sm k], [], [], []⟩
noncomputable def laws_markMend.pts : List (Pt (denR (outTys laws_markMend.g.rts laws_markMend.g.pms))) := []
theorem laws_markMend.hf (k : Nat) (a0 : Mend) (a1 : Int) : (laws_markMend.f k a0 a1 : Option (denR (outTys laws_markMend.g.rts laws_markMend.g.pms))) = evC (laws_markMend.E k) (fun κ s => lhOf k κ s laws_markMend.pts) b36 (OM.start laws_markMend.g.pms 0 (a0, a1, ())) (OM.fin laws_markMend.g Try.f36.results.toList) := by kernel_rfl
theorem laws_markMend.ok (k : Nat) : SmOk Try.prog (laws_markMend.sm k) :=
  sm_ok mixed (E := laws_markMend.E) (pts := laws_markMend.pts) (fun k => ⟨⟨tysOk, by kernel_rfl⟩, forall_cons ⟨laws_markIntS.ok k, e37⟩ (forall_cons ⟨laws_markEntryS.ok k, e44⟩ (forall_cons ⟨laws_markIntSS.ok k, e88⟩ (forall_nil)))⟩) (fun _ => rfl) (fun _ => rfl)
    ⟨Try.func36, by kernel_rfl, by kernel_rfl, by kernel_rfl, by kernel_rfl, by kernel_rfl, by kernel_rfl⟩ (forall_nil) (fun k x => laws_markMend.hf k x.1 x.2.1) k
noncomputable def b89 : Code := Try.f89.body.getD .skip
theorem e89 : OM.Entry Try.prog 89 := ⟨_, Try.func89, by kernel_rfl, by kernel_rfl⟩
@[reducible] noncomputable def laws_heldIntS.g : Sig := ⟨[.fz (.sl (.int .i64)), .fz (.int .i64)], [.v (.int .i64) .z], []⟩
@[reducible] noncomputable def laws_heldIntS.fk : Nat → denI laws_heldIntS.g.pms → Option (denR (outTys laws_heldIntS.g.rts laws_heldIntS.g.pms)) := fun k x => laws_heldIntS.f k x.1 x.2.1
@[reducible] noncomputable def laws_heldIntS.sm (k : Nat) : Sm := ⟨89, laws_heldIntS.g.pms, laws_heldIntS.g.rts, laws_heldIntS.fk k⟩
noncomputable def laws_heldIntS.E (k : Nat) : Env := ⟨tys, [], [], [], []⟩
@[reducible] noncomputable def laws_heldIntS.s5 : List Slot := [.v 0 (.sl (.int .i64)) .z [] 0, .v 4 (.int .i64) .z [] 0, .v 20 (.int .i64) .z [] 0]
noncomputable def laws_heldIntS.pts : List (Pt (denR (outTys laws_heldIntS.g.rts laws_heldIntS.g.pms))) := [⟨5, laws_heldIntS.s5, fun k x => laws_heldIntS.p5 k x.1 x.2.1 x.2.2.1⟩]
theorem laws_heldIntS.h5 (k : Nat) (x0 : (List Int)) (x1 : Int) (x2 : Int) : (laws_heldIntS.p5 (k + 1) x0 x1 x2 : Option (denR (outTys laws_heldIntS.g.rts laws_heldIntS.g.pms))) = evAt (laws_heldIntS.E k) (fun κ s => lhOf k κ s laws_heldIntS.pts) 5 b89 (unproj laws_heldIntS.s5 (x0, x1, x2, ())) (OM.fin laws_heldIntS.g Try.f89.results.toList) := by kernel_rfl
theorem laws_heldIntS.hf (k : Nat) (a0 : (List Int)) (a1 : Int) : (laws_heldIntS.f k a0 a1 : Option (denR (outTys laws_heldIntS.g.rts laws_heldIntS.g.pms))) = evC (laws_heldIntS.E k) (fun κ s => lhOf k κ s laws_heldIntS.pts) b89 (OM.start laws_heldIntS.g.pms 0 (a0, a1, ())) (OM.fin laws_heldIntS.g Try.f89.results.toList) := by kernel_rfl
theorem laws_heldIntS.ok (k : Nat) : SmOk Try.prog (laws_heldIntS.sm k) :=
  sm_ok mixed (E := laws_heldIntS.E) (pts := laws_heldIntS.pts) (fun k => ⟨⟨tysOk, by kernel_rfl⟩, forall_nil⟩) (fun _ => rfl) (fun _ => rfl)
    ⟨Try.func89, by kernel_rfl, by kernel_rfl, by kernel_rfl, by kernel_rfl, by kernel_rfl, by kernel_rfl⟩ (forall_cons (fun x => ⟨rfl, fun k => laws_heldIntS.h5 k x.1 x.2.1 x.2.2.1⟩) (forall_nil)) (fun k x => laws_heldIntS.hf k x.1 x.2.1) k
noncomputable def b90 : Code := Try.f90.body.getD .skip
theorem e90 : OM.Entry Try.prog 90 := ⟨_, Try.func90, by kernel_rfl, by kernel_rfl⟩
@[reducible] noncomputable def laws_heldEntryS.g : Sig := ⟨[.fz (.sl tEntry), .fz (.int .i64)], [.v (.int .i64) .z], []⟩
@[reducible] noncomputable def laws_heldEntryS.fk : Nat → denI laws_heldEntryS.g.pms → Option (denR (outTys laws_heldEntryS.g.rts laws_heldEntryS.g.pms)) := fun k x => laws_heldEntryS.f k x.1 x.2.1
@[reducible] noncomputable def laws_heldEntryS.sm (k : Nat) : Sm := ⟨90, laws_heldEntryS.g.pms, laws_heldEntryS.g.rts, laws_heldEntryS.fk k⟩
noncomputable def laws_heldEntryS.E (k : Nat) : Env := ⟨tys, [laws_markText.sm k], [], [], [4]⟩
@[reducible] noncomputable def laws_heldEntryS.s5 : List Slot := [.v 0 (.sl tEntry) .z [] 0, .v 4 (.int .i64) .z [] 0, .v 20 (.int .i64) .z [] 0]
noncomputable def laws_heldEntryS.pts : List (Pt (denR (outTys laws_heldEntryS.g.rts laws_heldEntryS.g.pms))) := [⟨5, laws_heldEntryS.s5, fun k x => laws_heldEntryS.p5 k x.1 x.2.1 x.2.2.1⟩]
theorem laws_heldEntryS.h5 (k : Nat) (x0 : (List Entry)) (x1 : Int) (x2 : Int) : (laws_heldEntryS.p5 (k + 1) x0 x1 x2 : Option (denR (outTys laws_heldEntryS.g.rts laws_heldEntryS.g.pms))) = evAt (laws_heldEntryS.E k) (fun κ s => lhOf k κ s laws_heldEntryS.pts) 5 b90 (unproj laws_heldEntryS.s5 (x0, x1, x2, ())) (OM.fin laws_heldEntryS.g Try.f90.results.toList) := by kernel_rfl
theorem laws_heldEntryS.hf (k : Nat) (a0 : (List Entry)) (a1 : Int) : (laws_heldEntryS.f k a0 a1 : Option (denR (outTys laws_heldEntryS.g.rts laws_heldEntryS.g.pms))) = evC (laws_heldEntryS.E k) (fun κ s => lhOf k κ s laws_heldEntryS.pts) b90 (OM.start laws_heldEntryS.g.pms 0 (a0, a1, ())) (OM.fin laws_heldEntryS.g Try.f90.results.toList) := by kernel_rfl
theorem laws_heldEntryS.ok (k : Nat) : SmOk Try.prog (laws_heldEntryS.sm k) :=
  sm_ok mixed (E := laws_heldEntryS.E) (pts := laws_heldEntryS.pts) (fun k => ⟨⟨tysOk, by kernel_rfl⟩, forall_cons ⟨laws_markText.ok k, e99⟩ (forall_nil)⟩) (fun _ => rfl) (fun _ => rfl)
    ⟨Try.func90, by kernel_rfl, by kernel_rfl, by kernel_rfl, by kernel_rfl, by kernel_rfl, by kernel_rfl⟩ (forall_cons (fun x => ⟨rfl, fun k => laws_heldEntryS.h5 k x.1 x.2.1 x.2.2.1⟩) (forall_nil)) (fun k x => laws_heldEntryS.hf k x.1 x.2.1) k
noncomputable def b91 : Code := Try.f91.body.getD .skip
theorem e91 : OM.Entry Try.prog 91 := ⟨_, Try.func91, by kernel_rfl, by kernel_rfl⟩
@[reducible] noncomputable def laws_heldIntSS.g : Sig := ⟨[.fz (.sl (.sl (.int .i64))), .fz (.int .i64)], [.v (.int .i64) .z], []⟩
@[reducible] noncomputable def laws_heldIntSS.fk : Nat → denI laws_heldIntSS.g.pms → Option (denR (outTys laws_heldIntSS.g.rts laws_heldIntSS.g.pms)) := fun k x => laws_heldIntSS.f k x.1 x.2.1
@[reducible] noncomputable def laws_heldIntSS.sm (k : Nat) : Sm := ⟨91, laws_heldIntSS.g.pms, laws_heldIntSS.g.rts, laws_heldIntSS.fk k⟩
noncomputable def laws_heldIntSS.E (k : Nat) : Env := ⟨tys, [laws_heldIntS.sm k], [], [], []⟩
@[reducible] noncomputable def laws_heldIntSS.s5 : List Slot := [.v 0 (.sl (.sl (.int .i64))) .z [] 0, .v 4 (.int .i64) .z [] 0, .v 20 (.int .i64) .z [] 0]
noncomputable def laws_heldIntSS.pts : List (Pt (denR (outTys laws_heldIntSS.g.rts laws_heldIntSS.g.pms))) := [⟨5, laws_heldIntSS.s5, fun k x => laws_heldIntSS.p5 k x.1 x.2.1 x.2.2.1⟩]
theorem laws_heldIntSS.h5 (k : Nat) (x0 : (List (List Int))) (x1 : Int) (x2 : Int) : (laws_heldIntSS.p5 (k + 1) x0 x1 x2 : Option (denR (outTys laws_heldIntSS.g.rts laws_heldIntSS.g.pms))) = evAt (laws_heldIntSS.E k) (fun κ s => lhOf k κ s laws_heldIntSS.pts) 5 b91 (unproj laws_heldIntSS.s5 (x0, x1, x2, ())) (OM.fin laws_heldIntSS.g Try.f91.results.toList) := by kernel_rfl
theorem laws_heldIntSS.hf (k : Nat) (a0 : (List (List Int))) (a1 : Int) : (laws_heldIntSS.f k a0 a1 : Option (denR (outTys laws_heldIntSS.g.rts laws_heldIntSS.g.pms))) = evC (laws_heldIntSS.E k) (fun κ s => lhOf k κ s laws_heldIntSS.pts) b91 (OM.start laws_heldIntSS.g.pms 0 (a0, a1, ())) (OM.fin laws_heldIntSS.g Try.f91.results.toList) := by kernel_rfl
theorem laws_heldIntSS.ok (k : Nat) : SmOk Try.prog (laws_heldIntSS.sm k) :=
  sm_ok mixed (E := laws_heldIntSS.E) (pts := laws_heldIntSS.pts) (fun k => ⟨⟨tysOk, by kernel_rfl⟩, forall_cons ⟨laws_heldIntS.ok k, e89⟩ (forall_nil)⟩) (fun _ => rfl) (fun _ => rfl)
    ⟨Try.func91, by kernel_rfl, by kernel_rfl, by kernel_rfl, by kernel_rfl, by kernel_rfl, by kernel_rfl⟩ (forall_cons (fun x => ⟨rfl, fun k => laws_heldIntSS.h5 k x.1 x.2.1 x.2.2.1⟩) (forall_nil)) (fun k x => laws_heldIntSS.hf k x.1 x.2.1) k
noncomputable def b38 : Code := Try.f38.body.getD .skip
theorem e38 : OM.Entry Try.prog 38 := ⟨_, Try.func38, by kernel_rfl, by kernel_rfl⟩
@[reducible] noncomputable def laws_heldMend.g : Sig := ⟨[.fz tMend, .fz (.int .i64)], [.v (.int .i64) .z], []⟩
@[reducible] noncomputable def laws_heldMend.fk : Nat → denI laws_heldMend.g.pms → Option (denR (outTys laws_heldMend.g.rts laws_heldMend.g.pms)) := fun k x => laws_heldMend.f k x.1 x.2.1
@[reducible] noncomputable def laws_heldMend.sm (k : Nat) : Sm := ⟨38, laws_heldMend.g.pms, laws_heldMend.g.rts, laws_heldMend.fk k⟩
noncomputable def laws_heldMend.E (k : Nat) : Env := ⟨tys, [laws_heldIntS.sm k, laws_heldEntryS.sm k, laws_heldIntSS.sm k], [], [], []⟩
noncomputable def laws_heldMend.pts : List (Pt (denR (outTys laws_heldMend.g.rts laws_heldMend.g.pms))) := []
theorem laws_heldMend.hf (k : Nat) (a0 : Mend) (a1 : Int) : (laws_heldMend.f k a0 a1 : Option (denR (outTys laws_heldMend.g.rts laws_heldMend.g.pms))) = evC (laws_heldMend.E k) (fun κ s => lhOf k κ s laws_heldMend.pts) b38 (OM.start laws_heldMend.g.pms 0 (a0, a1, ())) (OM.fin laws_heldMend.g Try.f38.results.toList) := by kernel_rfl
theorem laws_heldMend.ok (k : Nat) : SmOk Try.prog (laws_heldMend.sm k) :=
  sm_ok mixed (E := laws_heldMend.E) (pts := laws_heldMend.pts) (fun k => ⟨⟨tysOk, by kernel_rfl⟩, forall_cons ⟨laws_heldIntS.ok k, e89⟩ (forall_cons ⟨laws_heldEntryS.ok k, e90⟩ (forall_cons ⟨laws_heldIntSS.ok k, e91⟩ (forall_nil)))⟩) (fun _ => rfl) (fun _ => rfl)
    ⟨Try.func38, by kernel_rfl, by kernel_rfl, by kernel_rfl, by kernel_rfl, by kernel_rfl, by kernel_rfl⟩ (forall_nil) (fun k x => laws_heldMend.hf k x.1 x.2.1) k
noncomputable def b8 : Code := Try.f8.body.getD .skip
theorem e8 : OM.Entry Try.prog 8 := ⟨_, Try.func8, by kernel_rfl, by kernel_rfl⟩
@[reducible] noncomputable def laws_FnExactMendForget.g : Sig := ⟨[.fz tConfig, .fz tMend, .fz (.int .i64)], [.v .bool .z], []⟩
@[reducible] noncomputable def laws_FnExactMendForget.fk : Nat → denI laws_FnExactMendForget.g.pms → Option (denR (outTys laws_FnExactMendForget.g.rts laws_FnExactMendForget.g.pms)) := fun k x => laws_FnExactMendForget.f k x.1 x.2.1 x.2.2.1
@[reducible] noncomputable def laws_FnExactMendForget.sm (k : Nat) : Sm := ⟨8, laws_FnExactMendForget.g.pms, laws_FnExactMendForget.g.rts, laws_FnExactMendForget.fk k⟩
noncomputable def laws_FnExactMendForget.E (k : Nat) : Env := ⟨tys, [laws_szConfig.sm k, laws_szMend.sm k, laws_toConfig.sm k, laws_toMend.sm k, spec_MendForget.sm k, impl_MendForget.sm k, laws_eqMend.sm k, laws_eqConfig.sm k, laws_markConfig.sm k, laws_markMend.sm k, laws_heldMend.sm k], [], [], [4]⟩
noncomputable def laws_FnExactMendForget.pts : List (Pt (denR (outTys laws_FnExactMendForget.g.rts laws_FnExactMendForget.g.pms))) := []
theorem laws_FnExactMendForget.hf (k : Nat) (a0 : Config) (a1 : Mend) (a2 : Int) : (laws_FnExactMendForget.f k a0 a1 a2 : Option (denR (outTys laws_FnExactMendForget.g.rts laws_FnExactMendForget.g.pms))) = evC (laws_FnExactMendForget.E k) (fun κ s => lhOf k κ s laws_FnExactMendForget.pts) b8 (OM.start laws_FnExactMendForget.g.pms 0 (a0, a1, a2, ())) (OM.fin laws_FnExactMendForget.g Try.f8.results.toList) := by kernel_rfl
theorem laws_FnExactMendForget.ok (k : Nat) : SmOk Try.prog (laws_FnExactMendForget.sm k) :=
  sm_ok mixed (E := laws_FnExactMendForget.E) (pts := laws_FnExactMendForget.pts) (fun k => ⟨⟨tysOk, by kernel_rfl⟩, forall_cons ⟨laws_szConfig.ok k, e9⟩ (forall_cons ⟨laws_szMend.ok k, e29⟩ (forall_cons ⟨laws_toConfig.ok k, e12⟩ (forall_cons ⟨laws_toMend.ok k, e31⟩ (forall_cons ⟨spec_MendForget.ok k, e45⟩ (forall_cons ⟨impl_MendForget.ok k, e46⟩ (forall_cons ⟨laws_eqMend.ok k, e34⟩ (forall_cons ⟨laws_eqConfig.ok k, e16⟩ (forall_cons ⟨laws_markConfig.ok k, e17⟩ (forall_cons ⟨laws_markMend.ok k, e36⟩ (forall_cons ⟨laws_heldMend.ok k, e38⟩ (forall_nil)))))))))))⟩) (fun _ => rfl) (fun _ => rfl)
    ⟨Try.func8, by kernel_rfl, by kernel_rfl, by kernel_rfl, by kernel_rfl, by kernel_rfl, by kernel_rfl⟩ (forall_nil) (fun k x => laws_FnExactMendForget.hf k x.1 x.2.1 x.2.2.1) k
end Go.Proofs.Ytllmifioelbleab.OmFnExactMendForget
