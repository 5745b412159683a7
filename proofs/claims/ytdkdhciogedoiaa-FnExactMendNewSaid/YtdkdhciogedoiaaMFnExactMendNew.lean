import Derived.Test.YtdkdhciogedoiaaFFnExactMendNew
import Derived.Test.YtdkdhciogedoiaaChecked
set_option maxRecDepth 1000000
set_option linter.unusedVariables false
namespace Go.Proofs.Ytdkdhciogedoiaa.OmFnExactMendNew
open Go Go.OM
noncomputable def tys : List (Option Ty) := [none, none, some (.int .i64), some (.int .i64), some .bool, some (.int .u8), some (.int .u8), some (.pair (.int .i64) (.pair (.int .i64) (.pair .bool (.pair (.int .u8) .unit)))), some (.pair (.int .i64) (.pair (.int .i64) (.pair .bool (.pair (.int .u8) .unit)))), some .str, some .str, some .str, some (.int .u64), some (.pair .str (.pair (.int .u64) .unit)), some (.pair .str (.pair (.int .u64) .unit)), none, none, none, none, none, none, some (.int .i32), some (.sl tEra), some tRegister, some tRegister, none, some (.sl (.int .i64)), none, some (.sl tEra), some tRegister, some tRegister, none, none, none, none, none, none, some (.sl tEntry), some (.sl (.sl (.int .i64))), some tMend, some tMend, none, none, none, none, some (.sl (.int .u8)), none, some (.sl tWord), some tWriter, some tWriter, none, none, some tWord, some tWord, some (.sl tEntry), some tMend, some tMend, none, some tEntry, some tEntry, none, none, none, none, none, some tConfig, some tConfig, some (.sl tWord), some tWriter, some tWriter, none, none, none, some tConfig, none, none, none, none, none, none, none, none, none, none, none, none, none, some tEra, some tEra, none, none, none, none, none, none, none, none, none, none, none, none, none, none, none, none, none, none, none, none, none, none, none, none, none, none, none, none, none, none, none, none, none, none, none, none, none, none, none, some tEra, none, none, none, some tl1Cur, some tl1Cur, none, none, none, some tEntry, none, none, some tWord, none, none, none, none, none, none, none, none, none, none, none, none, none, none, none, some (.sl .str), none, none, none, some (.sl .bool), none, none, none, some (.int .u64), none, none, some tStore, some tStore, none, none, none, none, none, none, none, none, none, none, none, none, none, none, none, none, none, none, none, some (.int .u32), some (.int .u8), some (.int .u8), none, none, some (.int .i32), some (.int .i32), none, none, none]
theorem tysOk : okTys Try.prog tys 0 tys = true := by kernel_rfl
theorem mixed : Try.prog.follows .mixedOrders = true := by kernel_rfl
noncomputable def b18 : Code := Try.f18.body.getD .skip
theorem e18 : OM.Entry Try.prog 18 := ⟨_, Try.func18, by kernel_rfl, by kernel_rfl⟩
@[reducible] noncomputable def spec_MendNew.g : Sig := ⟨[.fz (.int .i64), .fz (.int .i64)], [.v tMend (.two .z (.two .z (.two (.own .a) (.two (.own .a) (.two .z (.two (.own .a) .z))))))], []⟩
@[reducible] noncomputable def spec_MendNew.fk : Nat → denI spec_MendNew.g.pms → Option (denR (outTys spec_MendNew.g.rts spec_MendNew.g.pms)) := fun k x => spec_MendNew.f x.1 x.2.1
@[reducible] noncomputable def spec_MendNew.sm (k : Nat) : Sm := ⟨18, spec_MendNew.g.pms, spec_MendNew.g.rts, spec_MendNew.fk k⟩
noncomputable def spec_MendNew.E (k : Nat) : Env := ⟨tys, [], [5, 6], [], []⟩
noncomputable def spec_MendNew.pts : List (Pt (denR (outTys spec_MendNew.g.rts spec_MendNew.g.pms))) := []
theorem spec_MendNew.hf (k : Nat) (x : denI spec_MendNew.g.pms) : spec_MendNew.fk k x = evC (spec_MendNew.E k) (fun κ s => lhOf k κ s spec_MendNew.pts) b18 (OM.start spec_MendNew.g.pms 0 x) (OM.fin spec_MendNew.g Try.f18.results.toList) := by kernel_rfl
theorem spec_MendNew.ok (k : Nat) : SmOk Try.prog (spec_MendNew.sm k) :=
  sm_ok mixed (E := spec_MendNew.E) (pts := spec_MendNew.pts) (fun k => ⟨⟨tysOk, by kernel_rfl⟩, forall_nil⟩) (fun _ => rfl) (fun _ => rfl)
    ⟨Try.func18, by kernel_rfl, by kernel_rfl, by kernel_rfl, by kernel_rfl, by kernel_rfl, by kernel_rfl⟩ (forall_nil) spec_MendNew.hf k
noncomputable def b19 : Code := Try.f19.body.getD .skip
theorem e19 : OM.Entry Try.prog 19 := ⟨_, Try.func19, by kernel_rfl, by kernel_rfl⟩
@[reducible] noncomputable def impl_MendNew.g : Sig := ⟨[.fz (.int .i64), .fz (.int .i64)], [.v tMend (.two .z (.two .z (.two (.own .a) (.two (.own .a) (.two .z (.two (.own .a) .z))))))], []⟩
@[reducible] noncomputable def impl_MendNew.fk : Nat → denI impl_MendNew.g.pms → Option (denR (outTys impl_MendNew.g.rts impl_MendNew.g.pms)) := fun k x => impl_MendNew.f x.1 x.2.1
@[reducible] noncomputable def impl_MendNew.sm (k : Nat) : Sm := ⟨19, impl_MendNew.g.pms, impl_MendNew.g.rts, impl_MendNew.fk k⟩
noncomputable def impl_MendNew.E (k : Nat) : Env := ⟨tys, [], [5, 6], [], []⟩
noncomputable def impl_MendNew.pts : List (Pt (denR (outTys impl_MendNew.g.rts impl_MendNew.g.pms))) := []
theorem impl_MendNew.hf (k : Nat) (x : denI impl_MendNew.g.pms) : impl_MendNew.fk k x = evC (impl_MendNew.E k) (fun κ s => lhOf k κ s impl_MendNew.pts) b19 (OM.start impl_MendNew.g.pms 0 x) (OM.fin impl_MendNew.g Try.f19.results.toList) := by kernel_rfl
theorem impl_MendNew.ok (k : Nat) : SmOk Try.prog (impl_MendNew.sm k) :=
  sm_ok mixed (E := impl_MendNew.E) (pts := impl_MendNew.pts) (fun k => ⟨⟨tysOk, by kernel_rfl⟩, forall_nil⟩) (fun _ => rfl) (fun _ => rfl)
    ⟨Try.func19, by kernel_rfl, by kernel_rfl, by kernel_rfl, by kernel_rfl, by kernel_rfl, by kernel_rfl⟩ (forall_nil) impl_MendNew.hf k
noncomputable def b13 : Code := Try.f13.body.getD .skip
theorem e13 : OM.Entry Try.prog 13 := ⟨_, Try.func13, by kernel_rfl, by kernel_rfl⟩
@[reducible] noncomputable def laws_eqIntS.g : Sig := ⟨[.fz (.sl (.int .i64)), .fz (.sl (.int .i64))], [.v .bool .z], []⟩
@[reducible] noncomputable def laws_eqIntS.fk : Nat → denI laws_eqIntS.g.pms → Option (denR (outTys laws_eqIntS.g.rts laws_eqIntS.g.pms)) := fun k x => laws_eqIntS.f k x.1 x.2.1
@[reducible] noncomputable def laws_eqIntS.sm (k : Nat) : Sm := ⟨13, laws_eqIntS.g.pms, laws_eqIntS.g.rts, laws_eqIntS.fk k⟩
noncomputable def laws_eqIntS.E (k : Nat) : Env := ⟨tys, [], [], [], []⟩
@[reducible] noncomputable def laws_eqIntS.s9 : List Slot := [.v 0 (.sl (.int .i64)) .z [] 0, .v 4 (.sl (.int .i64)) .z [] 0, .v 20 (.int .i64) .z [] 0]
noncomputable def laws_eqIntS.pts : List (Pt (denR (outTys laws_eqIntS.g.rts laws_eqIntS.g.pms))) := [⟨9, laws_eqIntS.s9, fun k x => laws_eqIntS.p9 k x.1 x.2.1 x.2.2.1⟩]
theorem laws_eqIntS.h9 (x : denS laws_eqIntS.s9) (k : Nat) : (laws_eqIntS.p9 (k + 1) x.1 x.2.1 x.2.2.1 : Option (denR (outTys laws_eqIntS.g.rts laws_eqIntS.g.pms))) = evAt (laws_eqIntS.E k) (fun κ s => lhOf k κ s laws_eqIntS.pts) 9 b13 (unproj laws_eqIntS.s9 x) (OM.fin laws_eqIntS.g Try.f13.results.toList) := by kernel_rfl
theorem laws_eqIntS.hf (k : Nat) (x : denI laws_eqIntS.g.pms) : laws_eqIntS.fk k x = evC (laws_eqIntS.E k) (fun κ s => lhOf k κ s laws_eqIntS.pts) b13 (OM.start laws_eqIntS.g.pms 0 x) (OM.fin laws_eqIntS.g Try.f13.results.toList) := by kernel_rfl
theorem laws_eqIntS.ok (k : Nat) : SmOk Try.prog (laws_eqIntS.sm k) :=
  sm_ok mixed (E := laws_eqIntS.E) (pts := laws_eqIntS.pts) (fun k => ⟨⟨tysOk, by kernel_rfl⟩, forall_nil⟩) (fun _ => rfl) (fun _ => rfl)
    ⟨Try.func13, by kernel_rfl, by kernel_rfl, by kernel_rfl, by kernel_rfl, by kernel_rfl, by kernel_rfl⟩ (forall_cons (fun x => ⟨rfl, laws_eqIntS.h9 x⟩) (forall_nil)) laws_eqIntS.hf k
noncomputable def b31 : Code := Try.f31.body.getD .skip
theorem e31 : OM.Entry Try.prog 31 := ⟨_, Try.func31, by kernel_rfl, by kernel_rfl⟩
@[reducible] noncomputable def laws_eqEntry.g : Sig := ⟨[.fz tEntry, .fz tEntry], [.v .bool .z], []⟩
@[reducible] noncomputable def laws_eqEntry.fk : Nat → denI laws_eqEntry.g.pms → Option (denR (outTys laws_eqEntry.g.rts laws_eqEntry.g.pms)) := fun k x => laws_eqEntry.f x.1 x.2.1
@[reducible] noncomputable def laws_eqEntry.sm (k : Nat) : Sm := ⟨31, laws_eqEntry.g.pms, laws_eqEntry.g.rts, laws_eqEntry.fk k⟩
noncomputable def laws_eqEntry.E (k : Nat) : Env := ⟨tys, [], [], [], [4]⟩
noncomputable def laws_eqEntry.pts : List (Pt (denR (outTys laws_eqEntry.g.rts laws_eqEntry.g.pms))) := []
theorem laws_eqEntry.hf (k : Nat) (x : denI laws_eqEntry.g.pms) : laws_eqEntry.fk k x = evC (laws_eqEntry.E k) (fun κ s => lhOf k κ s laws_eqEntry.pts) b31 (OM.start laws_eqEntry.g.pms 0 x) (OM.fin laws_eqEntry.g Try.f31.results.toList) := by kernel_rfl
theorem laws_eqEntry.ok (k : Nat) : SmOk Try.prog (laws_eqEntry.sm k) :=
  sm_ok mixed (E := laws_eqEntry.E) (pts := laws_eqEntry.pts) (fun k => ⟨⟨tysOk, by kernel_rfl⟩, forall_nil⟩) (fun _ => rfl) (fun _ => rfl)
    ⟨Try.func31, by kernel_rfl, by kernel_rfl, by kernel_rfl, by kernel_rfl, by kernel_rfl, by kernel_rfl⟩ (forall_nil) laws_eqEntry.hf k
noncomputable def b53 : Code := Try.f53.body.getD .skip
theorem e53 : OM.Entry Try.prog 53 := ⟨_, Try.func53, by kernel_rfl, by kernel_rfl⟩
@[reducible] noncomputable def laws_eqEntryS.g : Sig := ⟨[.fz (.sl tEntry), .fz (.sl tEntry)], [.v .bool .z], []⟩
@[reducible] noncomputable def laws_eqEntryS.fk : Nat → denI laws_eqEntryS.g.pms → Option (denR (outTys laws_eqEntryS.g.rts laws_eqEntryS.g.pms)) := fun k x => laws_eqEntryS.f k x.1 x.2.1
@[reducible] noncomputable def laws_eqEntryS.sm (k : Nat) : Sm := ⟨53, laws_eqEntryS.g.pms, laws_eqEntryS.g.rts, laws_eqEntryS.fk k⟩
noncomputable def laws_eqEntryS.E (k : Nat) : Env := ⟨tys, [laws_eqEntry.sm k], [], [], []⟩
@[reducible] noncomputable def laws_eqEntryS.s9 : List Slot := [.v 0 (.sl tEntry) .z [] 0, .v 4 (.sl tEntry) .z [] 0, .v 20 (.int .i64) .z [] 0]
noncomputable def laws_eqEntryS.pts : List (Pt (denR (outTys laws_eqEntryS.g.rts laws_eqEntryS.g.pms))) := [⟨9, laws_eqEntryS.s9, fun k x => laws_eqEntryS.p9 k x.1 x.2.1 x.2.2.1⟩]
theorem laws_eqEntryS.h9 (x : denS laws_eqEntryS.s9) (k : Nat) : (laws_eqEntryS.p9 (k + 1) x.1 x.2.1 x.2.2.1 : Option (denR (outTys laws_eqEntryS.g.rts laws_eqEntryS.g.pms))) = evAt (laws_eqEntryS.E k) (fun κ s => lhOf k κ s laws_eqEntryS.pts) 9 b53 (unproj laws_eqEntryS.s9 x) (OM.fin laws_eqEntryS.g Try.f53.results.toList) := by kernel_rfl
theorem laws_eqEntryS.hf (k : Nat) (x : denI laws_eqEntryS.g.pms) : laws_eqEntryS.fk k x = evC (laws_eqEntryS.E k) (fun κ s => lhOf k κ s laws_eqEntryS.pts) b53 (OM.start laws_eqEntryS.g.pms 0 x) (OM.fin laws_eqEntryS.g Try.f53.results.toList) := by kernel_rfl
theorem laws_eqEntryS.ok (k : Nat) : SmOk Try.prog (laws_eqEntryS.sm k) :=
  sm_ok mixed (E := laws_eqEntryS.E) (pts := laws_eqEntryS.pts) (fun k => ⟨⟨tysOk, by kernel_rfl⟩, forall_cons ⟨laws_eqEntry.ok k, e31⟩ (forall_nil)⟩) (fun _ => rfl) (fun _ => rfl)
    ⟨Try.func53, by kernel_rfl, by kernel_rfl, by kernel_rfl, by kernel_rfl, by kernel_rfl, by kernel_rfl⟩ (forall_cons (fun x => ⟨rfl, laws_eqEntryS.h9 x⟩) (forall_nil)) laws_eqEntryS.hf k
noncomputable def b54 : Code := Try.f54.body.getD .skip
theorem e54 : OM.Entry Try.prog 54 := ⟨_, Try.func54, by kernel_rfl, by kernel_rfl⟩
@[reducible] noncomputable def laws_eqIntSS.g : Sig := ⟨[.fz (.sl (.sl (.int .i64))), .fz (.sl (.sl (.int .i64)))], [.v .bool .z], []⟩
@[reducible] noncomputable def laws_eqIntSS.fk : Nat → denI laws_eqIntSS.g.pms → Option (denR (outTys laws_eqIntSS.g.rts laws_eqIntSS.g.pms)) := fun k x => laws_eqIntSS.f k x.1 x.2.1
@[reducible] noncomputable def laws_eqIntSS.sm (k : Nat) : Sm := ⟨54, laws_eqIntSS.g.pms, laws_eqIntSS.g.rts, laws_eqIntSS.fk k⟩
noncomputable def laws_eqIntSS.E (k : Nat) : Env := ⟨tys, [laws_eqIntS.sm k], [], [], []⟩
@[reducible] noncomputable def laws_eqIntSS.s9 : List Slot := [.v 0 (.sl (.sl (.int .i64))) .z [] 0, .v 4 (.sl (.sl (.int .i64))) .z [] 0, .v 20 (.int .i64) .z [] 0]
noncomputable def laws_eqIntSS.pts : List (Pt (denR (outTys laws_eqIntSS.g.rts laws_eqIntSS.g.pms))) := [⟨9, laws_eqIntSS.s9, fun k x => laws_eqIntSS.p9 k x.1 x.2.1 x.2.2.1⟩]
theorem laws_eqIntSS.h9 (x : denS laws_eqIntSS.s9) (k : Nat) : (laws_eqIntSS.p9 (k + 1) x.1 x.2.1 x.2.2.1 : Option (denR (outTys laws_eqIntSS.g.rts laws_eqIntSS.g.pms))) = evAt (laws_eqIntSS.E k) (fun κ s => lhOf k κ s laws_eqIntSS.pts) 9 b54 (unproj laws_eqIntSS.s9 x) (OM.fin laws_eqIntSS.g Try.f54.results.toList) := by kernel_rfl
theorem laws_eqIntSS.hf (k : Nat) (x : denI laws_eqIntSS.g.pms) : laws_eqIntSS.fk k x = evC (laws_eqIntSS.E k) (fun κ s => lhOf k κ s laws_eqIntSS.pts) b54 (OM.start laws_eqIntSS.g.pms 0 x) (OM.fin laws_eqIntSS.g Try.f54.results.toList) := by kernel_rfl
theorem laws_eqIntSS.ok (k : Nat) : SmOk Try.prog (laws_eqIntSS.sm k) :=
  sm_ok mixed (E := laws_eqIntSS.E) (pts := laws_eqIntSS.pts) (fun k => ⟨⟨tysOk, by kernel_rfl⟩, forall_cons ⟨laws_eqIntS.ok k, e13⟩ (forall_nil)⟩) (fun _ => rfl) (fun _ => rfl)
    ⟨Try.func54, by kernel_rfl, by kernel_rfl, by kernel_rfl, by kernel_rfl, by kernel_rfl, by kernel_rfl⟩ (forall_cons (fun x => ⟨rfl, laws_eqIntSS.h9 x⟩) (forall_nil)) laws_eqIntSS.hf k
noncomputable def b20 : Code := Try.f20.body.getD .skip
theorem e20 : OM.Entry Try.prog 20 := ⟨_, Try.func20, by kernel_rfl, by kernel_rfl⟩
@[reducible] noncomputable def laws_eqMend.g : Sig := ⟨[.fz tMend, .fz tMend], [.v .bool .z], []⟩
@[reducible] noncomputable def laws_eqMend.fk : Nat → denI laws_eqMend.g.pms → Option (denR (outTys laws_eqMend.g.rts laws_eqMend.g.pms)) := fun k x => laws_eqMend.f k x.1 x.2.1
@[reducible] noncomputable def laws_eqMend.sm (k : Nat) : Sm := ⟨20, laws_eqMend.g.pms, laws_eqMend.g.rts, laws_eqMend.fk k⟩
noncomputable def laws_eqMend.E (k : Nat) : Env := ⟨tys, [laws_eqIntS.sm k, laws_eqEntryS.sm k, laws_eqIntSS.sm k], [], [], [4]⟩
noncomputable def laws_eqMend.pts : List (Pt (denR (outTys laws_eqMend.g.rts laws_eqMend.g.pms))) := []
theorem laws_eqMend.hf (k : Nat) (x : denI laws_eqMend.g.pms) : laws_eqMend.fk k x = evC (laws_eqMend.E k) (fun κ s => lhOf k κ s laws_eqMend.pts) b20 (OM.start laws_eqMend.g.pms 0 x) (OM.fin laws_eqMend.g Try.f20.results.toList) := by kernel_rfl
theorem laws_eqMend.ok (k : Nat) : SmOk Try.prog (laws_eqMend.sm k) :=
  sm_ok mixed (E := laws_eqMend.E) (pts := laws_eqMend.pts) (fun k => ⟨⟨tysOk, by kernel_rfl⟩, forall_cons ⟨laws_eqIntS.ok k, e13⟩ (forall_cons ⟨laws_eqEntryS.ok k, e53⟩ (forall_cons ⟨laws_eqIntSS.ok k, e54⟩ (forall_nil)))⟩) (fun _ => rfl) (fun _ => rfl)
    ⟨Try.func20, by kernel_rfl, by kernel_rfl, by kernel_rfl, by kernel_rfl, by kernel_rfl, by kernel_rfl⟩ (forall_nil) laws_eqMend.hf k
noncomputable def b16 : Code := Try.f16.body.getD .skip
theorem e16 : OM.Entry Try.prog 16 := ⟨_, Try.func16, by kernel_rfl, by kernel_rfl⟩
@[reducible] noncomputable def laws_markIntS.g : Sig := ⟨[.mut (.sl (.int .i64)) (.own .z), .fz (.int .i64)], [.v (.int .i64) .z], [0]⟩
@[reducible] noncomputable def laws_markIntS.fk : Nat → denI laws_markIntS.g.pms → Option (denR (outTys laws_markIntS.g.rts laws_markIntS.g.pms)) := fun k x => laws_markIntS.f k x.1 x.2.1
@[reducible] noncomputable def laws_markIntS.sm (k : Nat) : Sm := ⟨16, laws_markIntS.g.pms, laws_markIntS.g.rts, laws_markIntS.fk k⟩
noncomputable def laws_markIntS.E (k : Nat) : Env := ⟨tys, [], [], [], []⟩
@[reducible] noncomputable def laws_markIntS.s5 : List Slot := [.v 0 (.sl (.int .i64)) (.own .z) [] 1, .v 4 (.int .i64) .z [] 0, .v 20 (.int .i64) .z [] 0]
noncomputable def laws_markIntS.pts : List (Pt (denR (outTys laws_markIntS.g.rts laws_markIntS.g.pms))) := [⟨5, laws_markIntS.s5, fun k x => laws_markIntS.p5 k x.1 x.2.1 x.2.2.1⟩]
theorem laws_markIntS.h5 (x : denS laws_markIntS.s5) (k : Nat) : (laws_markIntS.p5 (k + 1) x.1 x.2.1 x.2.2.1 : Option (denR (outTys laws_markIntS.g.rts laws_markIntS.g.pms))) = evAt (laws_markIntS.E k) (fun κ s => lhOf k κ s laws_markIntS.pts) 5 b16 (unproj laws_markIntS.s5 x) (OM.fin laws_markIntS.g Try.f16.results.toList) := by kernel_rfl
theorem laws_markIntS.hf (k : Nat) (x : denI laws_markIntS.g.pms) : laws_markIntS.fk k x = evC (laws_markIntS.E k) (fun κ s => lhOf k κ s laws_markIntS.pts) b16 (OM.start laws_markIntS.g.pms 0 x) (OM.fin laws_markIntS.g Try.f16.results.toList) := by kernel_rfl
theorem laws_markIntS.ok (k : Nat) : SmOk Try.prog (laws_markIntS.sm k) :=
  sm_ok mixed (E := laws_markIntS.E) (pts := laws_markIntS.pts) (fun k => ⟨⟨tysOk, by kernel_rfl⟩, forall_nil⟩) (fun _ => rfl) (fun _ => rfl)
    ⟨Try.func16, by kernel_rfl, by kernel_rfl, by kernel_rfl, by kernel_rfl, by kernel_rfl, by kernel_rfl⟩ (forall_cons (fun x => ⟨rfl, laws_markIntS.h5 x⟩) (forall_nil)) laws_markIntS.hf k
noncomputable def b103 : Code := Try.f103.body.getD .skip
theorem e103 : OM.Entry Try.prog 103 := ⟨_, Try.func103, by kernel_rfl, by kernel_rfl⟩
@[reducible] noncomputable def laws_markText.g : Sig := ⟨[.fz (.int .i64)], [.v .str .z], []⟩
@[reducible] noncomputable def laws_markText.fk : Nat → denI laws_markText.g.pms → Option (denR (outTys laws_markText.g.rts laws_markText.g.pms)) := fun k x => laws_markText.f k x.1
@[reducible] noncomputable def laws_markText.sm (k : Nat) : Sm := ⟨103, laws_markText.g.pms, laws_markText.g.rts, laws_markText.fk k⟩
noncomputable def laws_markText.E (k : Nat) : Env := ⟨tys, [], [], [], []⟩
@[reducible] noncomputable def laws_markText.s9 : List Slot := [.v 0 (.int .i64) .z [] 0, .v 12 .str .z [] 0]
noncomputable def laws_markText.pts : List (Pt (denR (outTys laws_markText.g.rts laws_markText.g.pms))) := [⟨9, laws_markText.s9, fun k x => laws_markText.p9 k x.1 x.2.1⟩]
theorem laws_markText.h9 (x : denS laws_markText.s9) (k : Nat) : (laws_markText.p9 (k + 1) x.1 x.2.1 : Option (denR (outTys laws_markText.g.rts laws_markText.g.pms))) = evAt (laws_markText.E k) (fun κ s => lhOf k κ s laws_markText.pts) 9 b103 (unproj laws_markText.s9 x) (OM.fin laws_markText.g Try.f103.results.toList) := by kernel_rfl
theorem laws_markText.hf (k : Nat) (x : denI laws_markText.g.pms) : laws_markText.fk k x = evC (laws_markText.E k) (fun κ s => lhOf k κ s laws_markText.pts) b103 (OM.start laws_markText.g.pms 0 x) (OM.fin laws_markText.g Try.f103.results.toList) := by kernel_rfl
theorem laws_markText.ok (k : Nat) : SmOk Try.prog (laws_markText.sm k) :=
  sm_ok mixed (E := laws_markText.E) (pts := laws_markText.pts) (fun k => ⟨⟨tysOk, by kernel_rfl⟩, forall_nil⟩) (fun _ => rfl) (fun _ => rfl)
    ⟨Try.func103, by kernel_rfl, by kernel_rfl, by kernel_rfl, by kernel_rfl, by kernel_rfl, by kernel_rfl⟩ (forall_cons (fun x => ⟨rfl, laws_markText.h9 x⟩) (forall_nil)) laws_markText.hf k
noncomputable def b55 : Code := Try.f55.body.getD .skip
theorem e55 : OM.Entry Try.prog 55 := ⟨_, Try.func55, by kernel_rfl, by kernel_rfl⟩
@[reducible] noncomputable def laws_markEntryS.g : Sig := ⟨[.mut (.sl tEntry) (.own .z), .fz (.int .i64)], [.v (.int .i64) .z], [0]⟩
@[reducible] noncomputable def laws_markEntryS.fk : Nat → denI laws_markEntryS.g.pms → Option (denR (outTys laws_markEntryS.g.rts laws_markEntryS.g.pms)) := fun k x => laws_markEntryS.f k x.1 x.2.1
@[reducible] noncomputable def laws_markEntryS.sm (k : Nat) : Sm := ⟨55, laws_markEntryS.g.pms, laws_markEntryS.g.rts, laws_markEntryS.fk k⟩
noncomputable def laws_markEntryS.E (k : Nat) : Env := ⟨tys, [laws_markText.sm k], [], [], []⟩
@[reducible] noncomputable def laws_markEntryS.s5 : List Slot := [.v 0 (.sl tEntry) (.own .z) [] 1, .v 4 (.int .i64) .z [] 0, .v 20 (.int .i64) .z [] 0]
noncomputable def laws_markEntryS.pts : List (Pt (denR (outTys laws_markEntryS.g.rts laws_markEntryS.g.pms))) := [⟨5, laws_markEntryS.s5, fun k x => laws_markEntryS.p5 k x.1 x.2.1 x.2.2.1⟩]
theorem laws_markEntryS.h5 (x : denS laws_markEntryS.s5) (k : Nat) : (laws_markEntryS.p5 (k + 1) x.1 x.2.1 x.2.2.1 : Option (denR (outTys laws_markEntryS.g.rts laws_markEntryS.g.pms))) = evAt (laws_markEntryS.E k) (fun κ s => lhOf k κ s laws_markEntryS.pts) 5 b55 (unproj laws_markEntryS.s5 x) (OM.fin laws_markEntryS.g Try.f55.results.toList) := by kernel_rfl
theorem laws_markEntryS.hf (k : Nat) (x : denI laws_markEntryS.g.pms) : laws_markEntryS.fk k x = evC (laws_markEntryS.E k) (fun κ s => lhOf k κ s laws_markEntryS.pts) b55 (OM.start laws_markEntryS.g.pms 0 x) (OM.fin laws_markEntryS.g Try.f55.results.toList) := by kernel_rfl
theorem laws_markEntryS.ok (k : Nat) : SmOk Try.prog (laws_markEntryS.sm k) :=
  sm_ok mixed (E := laws_markEntryS.E) (pts := laws_markEntryS.pts) (fun k => ⟨⟨tysOk, by kernel_rfl⟩, forall_cons ⟨laws_markText.ok k, e103⟩ (forall_nil)⟩) (fun _ => rfl) (fun _ => rfl)
    ⟨Try.func55, by kernel_rfl, by kernel_rfl, by kernel_rfl, by kernel_rfl, by kernel_rfl, by kernel_rfl⟩ (forall_cons (fun x => ⟨rfl, laws_markEntryS.h5 x⟩) (forall_nil)) laws_markEntryS.hf k
noncomputable def b56 : Code := Try.f56.body.getD .skip
theorem e56 : OM.Entry Try.prog 56 := ⟨_, Try.func56, by kernel_rfl, by kernel_rfl⟩
@[reducible] noncomputable def laws_markIntSS.g : Sig := ⟨[.mut (.sl (.sl (.int .i64))) (.own (.own .z)), .fz (.int .i64)], [.v (.int .i64) .z], [0]⟩
@[reducible] noncomputable def laws_markIntSS.fk : Nat → denI laws_markIntSS.g.pms → Option (denR (outTys laws_markIntSS.g.rts laws_markIntSS.g.pms)) := fun k x => laws_markIntSS.f k x.1 x.2.1
@[reducible] noncomputable def laws_markIntSS.sm (k : Nat) : Sm := ⟨56, laws_markIntSS.g.pms, laws_markIntSS.g.rts, laws_markIntSS.fk k⟩
noncomputable def laws_markIntSS.E (k : Nat) : Env := ⟨tys, [laws_markIntS.sm k], [], [], []⟩
@[reducible] noncomputable def laws_markIntSS.s5 : List Slot := [.v 0 (.sl (.sl (.int .i64))) (.own (.own .z)) [] 1, .v 4 (.int .i64) .z [] 0, .v 20 (.int .i64) .z [] 0]
noncomputable def laws_markIntSS.pts : List (Pt (denR (outTys laws_markIntSS.g.rts laws_markIntSS.g.pms))) := [⟨5, laws_markIntSS.s5, fun k x => laws_markIntSS.p5 k x.1 x.2.1 x.2.2.1⟩]
theorem laws_markIntSS.h5 (x : denS laws_markIntSS.s5) (k : Nat) : (laws_markIntSS.p5 (k + 1) x.1 x.2.1 x.2.2.1 : Option (denR (outTys laws_markIntSS.g.rts laws_markIntSS.g.pms))) = evAt (laws_markIntSS.E k) (fun κ s => lhOf k κ s laws_markIntSS.pts) 5 b56 (unproj laws_markIntSS.s5 x) (OM.fin laws_markIntSS.g Try.f56.results.toList) := by kernel_rfl
theorem laws_markIntSS.hf (k : Nat) (x : denI laws_markIntSS.g.pms) : laws_markIntSS.fk k x = evC (laws_markIntSS.E k) (fun κ s => lhOf k κ s laws_markIntSS.pts) b56 (OM.start laws_markIntSS.g.pms 0 x) (OM.fin laws_markIntSS.g Try.f56.results.toList) := by kernel_rfl
theorem laws_markIntSS.ok (k : Nat) : SmOk Try.prog (laws_markIntSS.sm k) :=
  sm_ok mixed (E := laws_markIntSS.E) (pts := laws_markIntSS.pts) (fun k => ⟨⟨tysOk, by kernel_rfl⟩, forall_cons ⟨laws_markIntS.ok k, e16⟩ (forall_nil)⟩) (fun _ => rfl) (fun _ => rfl)
    ⟨Try.func56, by kernel_rfl, by kernel_rfl, by kernel_rfl, by kernel_rfl, by kernel_rfl, by kernel_rfl⟩ (forall_cons (fun x => ⟨rfl, laws_markIntSS.h5 x⟩) (forall_nil)) laws_markIntSS.hf k
noncomputable def b21 : Code := Try.f21.body.getD .skip
theorem e21 : OM.Entry Try.prog 21 := ⟨_, Try.func21, by kernel_rfl, by kernel_rfl⟩
@[reducible] noncomputable def laws_markMend.g : Sig := ⟨[.mut tMend (.two .z (.two .z (.two (.own .z) (.two (.own .z) (.two .z (.two (.own (.own .z)) .z)))))), .fz (.int .i64)], [.v (.int .i64) .z], [9]⟩
@[reducible] noncomputable def laws_markMend.fk : Nat → denI laws_markMend.g.pms → Option (denR (outTys laws_markMend.g.rts laws_markMend.g.pms)) := fun k x => laws_markMend.f k x.1 x.2.1
@[reducible] noncomputable def laws_markMend.sm (k : Nat) : Sm := ⟨21, laws_markMend.g.pms, laws_markMend.g.rts, laws_markMend.fk k⟩
noncomputable def laws_markMend.E (k : Nat) : Env := ⟨tys, [laws_markIntS.sm k, laws_markEntryS.sm k, laws_markIntSS.sm k], [], [], []⟩
noncomputable def laws_markMend.pts : List (Pt (denR (outTys laws_markMend.g.rts laws_markMend.g.pms))) := []
theorem laws_markMend.hf (k : Nat) (x : denI laws_markMend.g.pms) : laws_markMend.fk k x = evC (laws_markMend.E k) (fun κ s => lhOf k κ s laws_markMend.pts) b21 (OM.start laws_markMend.g.pms 0 x) (OM.fin laws_markMend.g Try.f21.results.toList) := by kernel_rfl
theorem laws_markMend.ok (k : Nat) : SmOk Try.prog (laws_markMend.sm k) :=
  sm_ok mixed (E := laws_markMend.E) (pts := laws_markMend.pts) (fun k => ⟨⟨tysOk, by kernel_rfl⟩, forall_cons ⟨laws_markIntS.ok k, e16⟩ (forall_cons ⟨laws_markEntryS.ok k, e55⟩ (forall_cons ⟨laws_markIntSS.ok k, e56⟩ (forall_nil)))⟩) (fun _ => rfl) (fun _ => rfl)
    ⟨Try.func21, by kernel_rfl, by kernel_rfl, by kernel_rfl, by kernel_rfl, by kernel_rfl, by kernel_rfl⟩ (forall_nil) laws_markMend.hf k
noncomputable def b17 : Code := Try.f17.body.getD .skip
theorem e17 : OM.Entry Try.prog 17 := ⟨_, Try.func17, by kernel_rfl, by kernel_rfl⟩
@[reducible] noncomputable def laws_heldIntS.g : Sig := ⟨[.fz (.sl (.int .i64)), .fz (.int .i64)], [.v (.int .i64) .z], []⟩
@[reducible] noncomputable def laws_heldIntS.fk : Nat → denI laws_heldIntS.g.pms → Option (denR (outTys laws_heldIntS.g.rts laws_heldIntS.g.pms)) := fun k x => laws_heldIntS.f k x.1 x.2.1
@[reducible] noncomputable def laws_heldIntS.sm (k : Nat) : Sm := ⟨17, laws_heldIntS.g.pms, laws_heldIntS.g.rts, laws_heldIntS.fk k⟩
noncomputable def laws_heldIntS.E (k : Nat) : Env := ⟨tys, [], [], [], []⟩
@[reducible] noncomputable def laws_heldIntS.s5 : List Slot := [.v 0 (.sl (.int .i64)) .z [] 0, .v 4 (.int .i64) .z [] 0, .v 20 (.int .i64) .z [] 0]
noncomputable def laws_heldIntS.pts : List (Pt (denR (outTys laws_heldIntS.g.rts laws_heldIntS.g.pms))) := [⟨5, laws_heldIntS.s5, fun k x => laws_heldIntS.p5 k x.1 x.2.1 x.2.2.1⟩]
theorem laws_heldIntS.h5 (x : denS laws_heldIntS.s5) (k : Nat) : (laws_heldIntS.p5 (k + 1) x.1 x.2.1 x.2.2.1 : Option (denR (outTys laws_heldIntS.g.rts laws_heldIntS.g.pms))) = evAt (laws_heldIntS.E k) (fun κ s => lhOf k κ s laws_heldIntS.pts) 5 b17 (unproj laws_heldIntS.s5 x) (OM.fin laws_heldIntS.g Try.f17.results.toList) := by kernel_rfl
theorem laws_heldIntS.hf (k : Nat) (x : denI laws_heldIntS.g.pms) : laws_heldIntS.fk k x = evC (laws_heldIntS.E k) (fun κ s => lhOf k κ s laws_heldIntS.pts) b17 (OM.start laws_heldIntS.g.pms 0 x) (OM.fin laws_heldIntS.g Try.f17.results.toList) := by kernel_rfl
theorem laws_heldIntS.ok (k : Nat) : SmOk Try.prog (laws_heldIntS.sm k) :=
  sm_ok mixed (E := laws_heldIntS.E) (pts := laws_heldIntS.pts) (fun k => ⟨⟨tysOk, by kernel_rfl⟩, forall_nil⟩) (fun _ => rfl) (fun _ => rfl)
    ⟨Try.func17, by kernel_rfl, by kernel_rfl, by kernel_rfl, by kernel_rfl, by kernel_rfl, by kernel_rfl⟩ (forall_cons (fun x => ⟨rfl, laws_heldIntS.h5 x⟩) (forall_nil)) laws_heldIntS.hf k
noncomputable def b57 : Code := Try.f57.body.getD .skip
theorem e57 : OM.Entry Try.prog 57 := ⟨_, Try.func57, by kernel_rfl, by kernel_rfl⟩
@[reducible] noncomputable def laws_heldEntryS.g : Sig := ⟨[.fz (.sl tEntry), .fz (.int .i64)], [.v (.int .i64) .z], []⟩
@[reducible] noncomputable def laws_heldEntryS.fk : Nat → denI laws_heldEntryS.g.pms → Option (denR (outTys laws_heldEntryS.g.rts laws_heldEntryS.g.pms)) := fun k x => laws_heldEntryS.f k x.1 x.2.1
@[reducible] noncomputable def laws_heldEntryS.sm (k : Nat) : Sm := ⟨57, laws_heldEntryS.g.pms, laws_heldEntryS.g.rts, laws_heldEntryS.fk k⟩
noncomputable def laws_heldEntryS.E (k : Nat) : Env := ⟨tys, [laws_markText.sm k], [], [], [4]⟩
@[reducible] noncomputable def laws_heldEntryS.s5 : List Slot := [.v 0 (.sl tEntry) .z [] 0, .v 4 (.int .i64) .z [] 0, .v 20 (.int .i64) .z [] 0]
noncomputable def laws_heldEntryS.pts : List (Pt (denR (outTys laws_heldEntryS.g.rts laws_heldEntryS.g.pms))) := [⟨5, laws_heldEntryS.s5, fun k x => laws_heldEntryS.p5 k x.1 x.2.1 x.2.2.1⟩]
theorem laws_heldEntryS.h5 (x : denS laws_heldEntryS.s5) (k : Nat) : (laws_heldEntryS.p5 (k + 1) x.1 x.2.1 x.2.2.1 : Option (denR (outTys laws_heldEntryS.g.rts laws_heldEntryS.g.pms))) = evAt (laws_heldEntryS.E k) (fun κ s => lhOf k κ s laws_heldEntryS.pts) 5 b57 (unproj laws_heldEntryS.s5 x) (OM.fin laws_heldEntryS.g Try.f57.results.toList) := by kernel_rfl
theorem laws_heldEntryS.hf (k : Nat) (x : denI laws_heldEntryS.g.pms) : laws_heldEntryS.fk k x = evC (laws_heldEntryS.E k) (fun κ s => lhOf k κ s laws_heldEntryS.pts) b57 (OM.start laws_heldEntryS.g.pms 0 x) (OM.fin laws_heldEntryS.g Try.f57.results.toList) := by kernel_rfl
theorem laws_heldEntryS.ok (k : Nat) : SmOk Try.prog (laws_heldEntryS.sm k) :=
  sm_ok mixed (E := laws_heldEntryS.E) (pts := laws_heldEntryS.pts) (fun k => ⟨⟨tysOk, by kernel_rfl⟩, forall_cons ⟨laws_markText.ok k, e103⟩ (forall_nil)⟩) (fun _ => rfl) (fun _ => rfl)
    ⟨Try.func57, by kernel_rfl, by kernel_rfl, by kernel_rfl, by kernel_rfl, by kernel_rfl, by kernel_rfl⟩ (forall_cons (fun x => ⟨rfl, laws_heldEntryS.h5 x⟩) (forall_nil)) laws_heldEntryS.hf k
noncomputable def b58 : Code := Try.f58.body.getD .skip
theorem e58 : OM.Entry Try.prog 58 := ⟨_, Try.func58, by kernel_rfl, by kernel_rfl⟩
@[reducible] noncomputable def laws_heldIntSS.g : Sig := ⟨[.fz (.sl (.sl (.int .i64))), .fz (.int .i64)], [.v (.int .i64) .z], []⟩
@[reducible] noncomputable def laws_heldIntSS.fk : Nat → denI laws_heldIntSS.g.pms → Option (denR (outTys laws_heldIntSS.g.rts laws_heldIntSS.g.pms)) := fun k x => laws_heldIntSS.f k x.1 x.2.1
@[reducible] noncomputable def laws_heldIntSS.sm (k : Nat) : Sm := ⟨58, laws_heldIntSS.g.pms, laws_heldIntSS.g.rts, laws_heldIntSS.fk k⟩
noncomputable def laws_heldIntSS.E (k : Nat) : Env := ⟨tys, [laws_heldIntS.sm k], [], [], []⟩
@[reducible] noncomputable def laws_heldIntSS.s5 : List Slot := [.v 0 (.sl (.sl (.int .i64))) .z [] 0, .v 4 (.int .i64) .z [] 0, .v 20 (.int .i64) .z [] 0]
noncomputable def laws_heldIntSS.pts : List (Pt (denR (outTys laws_heldIntSS.g.rts laws_heldIntSS.g.pms))) := [⟨5, laws_heldIntSS.s5, fun k x => laws_heldIntSS.p5 k x.1 x.2.1 x.2.2.1⟩]
theorem laws_heldIntSS.h5 (x : denS laws_heldIntSS.s5) (k : Nat) : (laws_heldIntSS.p5 (k + 1) x.1 x.2.1 x.2.2.1 : Option (denR (outTys laws_heldIntSS.g.rts laws_heldIntSS.g.pms))) = evAt (laws_heldIntSS.E k) (fun κ s => lhOf k κ s laws_heldIntSS.pts) 5 b58 (unproj laws_heldIntSS.s5 x) (OM.fin laws_heldIntSS.g Try.f58.results.toList) := by kernel_rfl
theorem laws_heldIntSS.hf (k : Nat) (x : denI laws_heldIntSS.g.pms) : laws_heldIntSS.fk k x = evC (laws_heldIntSS.E k) (fun κ s => lhOf k κ s laws_heldIntSS.pts) b58 (OM.start laws_heldIntSS.g.pms 0 x) (OM.fin laws_heldIntSS.g Try.f58.results.toList) := by kernel_rfl
theorem laws_heldIntSS.ok (k : Nat) : SmOk Try.prog (laws_heldIntSS.sm k) :=
  sm_ok mixed (E := laws_heldIntSS.E) (pts := laws_heldIntSS.pts) (fun k => ⟨⟨tysOk, by kernel_rfl⟩, forall_cons ⟨laws_heldIntS.ok k, e17⟩ (forall_nil)⟩) (fun _ => rfl) (fun _ => rfl)
    ⟨Try.func58, by kernel_rfl, by kernel_rfl, by kernel_rfl, by kernel_rfl, by kernel_rfl, by kernel_rfl⟩ (forall_cons (fun x => ⟨rfl, laws_heldIntSS.h5 x⟩) (forall_nil)) laws_heldIntSS.hf k
noncomputable def b22 : Code := Try.f22.body.getD .skip
theorem e22 : OM.Entry Try.prog 22 := ⟨_, Try.func22, by kernel_rfl, by kernel_rfl⟩
@[reducible] noncomputable def laws_heldMend.g : Sig := ⟨[.fz tMend, .fz (.int .i64)], [.v (.int .i64) .z], []⟩
@[reducible] noncomputable def laws_heldMend.fk : Nat → denI laws_heldMend.g.pms → Option (denR (outTys laws_heldMend.g.rts laws_heldMend.g.pms)) := fun k x => laws_heldMend.f k x.1 x.2.1
@[reducible] noncomputable def laws_heldMend.sm (k : Nat) : Sm := ⟨22, laws_heldMend.g.pms, laws_heldMend.g.rts, laws_heldMend.fk k⟩
noncomputable def laws_heldMend.E (k : Nat) : Env := ⟨tys, [laws_heldIntS.sm k, laws_heldEntryS.sm k, laws_heldIntSS.sm k], [], [], []⟩
noncomputable def laws_heldMend.pts : List (Pt (denR (outTys laws_heldMend.g.rts laws_heldMend.g.pms))) := []
theorem laws_heldMend.hf (k : Nat) (x : denI laws_heldMend.g.pms) : laws_heldMend.fk k x = evC (laws_heldMend.E k) (fun κ s => lhOf k κ s laws_heldMend.pts) b22 (OM.start laws_heldMend.g.pms 0 x) (OM.fin laws_heldMend.g Try.f22.results.toList) := by kernel_rfl
theorem laws_heldMend.ok (k : Nat) : SmOk Try.prog (laws_heldMend.sm k) :=
  sm_ok mixed (E := laws_heldMend.E) (pts := laws_heldMend.pts) (fun k => ⟨⟨tysOk, by kernel_rfl⟩, forall_cons ⟨laws_heldIntS.ok k, e17⟩ (forall_cons ⟨laws_heldEntryS.ok k, e57⟩ (forall_cons ⟨laws_heldIntSS.ok k, e58⟩ (forall_nil)))⟩) (fun _ => rfl) (fun _ => rfl)
    ⟨Try.func22, by kernel_rfl, by kernel_rfl, by kernel_rfl, by kernel_rfl, by kernel_rfl, by kernel_rfl⟩ (forall_nil) laws_heldMend.hf k
noncomputable def b4 : Code := Try.f4.body.getD .skip
theorem e4 : OM.Entry Try.prog 4 := ⟨_, Try.func4, by kernel_rfl, by kernel_rfl⟩
@[reducible] noncomputable def laws_FnExactMendNew.g : Sig := ⟨[.fz (.int .i64), .fz (.int .i64)], [.v .bool .z], []⟩
@[reducible] noncomputable def laws_FnExactMendNew.fk : Nat → denI laws_FnExactMendNew.g.pms → Option (denR (outTys laws_FnExactMendNew.g.rts laws_FnExactMendNew.g.pms)) := fun k x => laws_FnExactMendNew.f k x.1 x.2.1
@[reducible] noncomputable def laws_FnExactMendNew.sm (k : Nat) : Sm := ⟨4, laws_FnExactMendNew.g.pms, laws_FnExactMendNew.g.rts, laws_FnExactMendNew.fk k⟩
noncomputable def laws_FnExactMendNew.E (k : Nat) : Env := ⟨tys, [spec_MendNew.sm k, impl_MendNew.sm k, laws_eqMend.sm k, laws_markMend.sm k, laws_heldMend.sm k], [], [], []⟩
noncomputable def laws_FnExactMendNew.pts : List (Pt (denR (outTys laws_FnExactMendNew.g.rts laws_FnExactMendNew.g.pms))) := []
theorem laws_FnExactMendNew.hf (k : Nat) (x : denI laws_FnExactMendNew.g.pms) : laws_FnExactMendNew.fk k x = evC (laws_FnExactMendNew.E k) (fun κ s => lhOf k κ s laws_FnExactMendNew.pts) b4 (OM.start laws_FnExactMendNew.g.pms 0 x) (OM.fin laws_FnExactMendNew.g Try.f4.results.toList) := by kernel_rfl
theorem laws_FnExactMendNew.ok (k : Nat) : SmOk Try.prog (laws_FnExactMendNew.sm k) :=
  sm_ok mixed (E := laws_FnExactMendNew.E) (pts := laws_FnExactMendNew.pts) (fun k => ⟨⟨tysOk, by kernel_rfl⟩, forall_cons ⟨spec_MendNew.ok k, e18⟩ (forall_cons ⟨impl_MendNew.ok k, e19⟩ (forall_cons ⟨laws_eqMend.ok k, e20⟩ (forall_cons ⟨laws_markMend.ok k, e21⟩ (forall_cons ⟨laws_heldMend.ok k, e22⟩ (forall_nil)))))⟩) (fun _ => rfl) (fun _ => rfl)
    ⟨Try.func4, by kernel_rfl, by kernel_rfl, by kernel_rfl, by kernel_rfl, by kernel_rfl, by kernel_rfl⟩ (forall_nil) laws_FnExactMendNew.hf k
end Go.Proofs.Ytdkdhciogedoiaa.OmFnExactMendNew
