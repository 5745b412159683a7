import Derived.Test.YtepefeclpdnfmaaFFnExactDeedOk
import Derived.Test.YtepefeclpdnfmaaChecked
set_option maxRecDepth 1000000
set_option linter.unusedVariables false
namespace Go.Proofs.Ytepefeclpdnfmaa.OmFnExactDeedOk
open Go Go.OM
noncomputable def tys : List (Option Ty) := [none, none, some (.int .i64), some (.int .i64), some .bool, some (.int .u8), some (.int .u8), some (.pair (.int .i64) (.pair (.int .i64) (.pair .bool (.pair (.int .u8) .unit)))), some (.pair (.int .i64) (.pair (.int .i64) (.pair .bool (.pair (.int .u8) .unit)))), some .str, some .str, some .str, some (.int .u64), some (.pair .str (.pair (.int .u64) .unit)), some (.pair .str (.pair (.int .u64) .unit)), none, none, none, none, none, none, some (.int .i32), some tDeed, some tDeed, none, none, some tDeed, none, none, some (.sl tEvent), some tReader, some tReader, none, none, none, none, some (.sl tEvent), some tReader, some tReader, none, none, none, none, some (.sl tWord), some tWriter, some tWriter, none, none, some (.sl tWord), some tWriter, some tWriter, none, none, none, some (.sl (.int .i64)), some tConfig, some tConfig, none, none, some tConfig, none, none, none, none, none, some (.sl (.int .u8)), none, some (.sl tEra), some tRegister, some tRegister, some (.sl tAnswer), none, none, none, none, some tEvent, some tEvent, none, some tEntry, some tEntry, some tAnswer, some tAnswer, none, none, none, none, none, none, none, none, none, none, none, none, none, some tWord, some tWord, none, none, none, none, none, none, none, none, none, none, none, none, none, none, none, none, none, none, some tEra, some tEra, none, none, none, none, none, none, none, none, none, some tEvent, none, none, some tWord, none, none, none, none, none, some tl1Cur, some tl1Cur, none, none, none, none, none, none, none, none, none, none, none, some (.sl .bool), none, none, none, none, none, none, some (.int .u64), none, some (.sl .str), none, none, none, none, none, none, none, none, none, none, some (.int .u32), some (.int .u8), some (.int .u8), none, none, some (.int .i32), some (.int .i32), none, none, none]
theorem tysOk : okTys Try.prog tys 0 tys = true := by kernel_rfl
theorem mixed : Try.prog.follows .mixedOrders = true := by kernel_rfl
noncomputable def b9 : Code := Try.f9.body.getD .skip
theorem e9 : OM.Entry Try.prog 9 := ⟨_, Try.func9, by kernel_rfl, by kernel_rfl⟩
@[reducible] noncomputable def laws_szDeed.g : Sig := ⟨[.fz tDeed, .fz (.int .i64)], [.v (.int .i64) .z], []⟩
@[reducible] noncomputable def laws_szDeed.fk : Nat → denI laws_szDeed.g.pms → Option (denR (outTys laws_szDeed.g.rts laws_szDeed.g.pms)) := fun k x => laws_szDeed.f x.1 x.2.1
@[reducible] noncomputable def laws_szDeed.sm (k : Nat) : Sm := ⟨9, laws_szDeed.g.pms, laws_szDeed.g.rts, laws_szDeed.fk k⟩
noncomputable def laws_szDeed.E (k : Nat) : Env := ⟨tys, [], [], [], []⟩
noncomputable def laws_szDeed.pts : List (Pt (denR (outTys laws_szDeed.g.rts laws_szDeed.g.pms))) := []
theorem laws_szDeed.hf (k : Nat) (x : denI laws_szDeed.g.pms) : laws_szDeed.fk k x = evC (laws_szDeed.E k) (fun κ s => lhOf k κ s laws_szDeed.pts) b9 (OM.start laws_szDeed.g.pms 0 x) (OM.fin laws_szDeed.g Try.f9.results.toList) := by kernel_rfl
theorem laws_szDeed.ok (k : Nat) : SmOk Try.prog (laws_szDeed.sm k) :=
  sm_ok mixed (E := laws_szDeed.E) (pts := laws_szDeed.pts) (fun k => ⟨⟨tysOk, by kernel_rfl⟩, forall_nil⟩) (fun _ => rfl) (fun _ => rfl)
    ⟨Try.func9, by kernel_rfl, by kernel_rfl, by kernel_rfl, by kernel_rfl, by kernel_rfl, by kernel_rfl⟩ (forall_nil) laws_szDeed.hf k
noncomputable def b11 : Code := Try.f11.body.getD .skip
theorem e11 : OM.Entry Try.prog 11 := ⟨_, Try.func11, by kernel_rfl, by kernel_rfl⟩
@[reducible] noncomputable def laws_toDeed.g : Sig := ⟨[.fz tDeed], [.v tDeed .z], []⟩
@[reducible] noncomputable def laws_toDeed.fk : Nat → denI laws_toDeed.g.pms → Option (denR (outTys laws_toDeed.g.rts laws_toDeed.g.pms)) := fun k x => laws_toDeed.f x.1
@[reducible] noncomputable def laws_toDeed.sm (k : Nat) : Sm := ⟨11, laws_toDeed.g.pms, laws_toDeed.g.rts, laws_toDeed.fk k⟩
noncomputable def laws_toDeed.E (k : Nat) : Env := ⟨tys, [], [17], [], []⟩
noncomputable def laws_toDeed.pts : List (Pt (denR (outTys laws_toDeed.g.rts laws_toDeed.g.pms))) := []
theorem laws_toDeed.hf (k : Nat) (x : denI laws_toDeed.g.pms) : laws_toDeed.fk k x = evC (laws_toDeed.E k) (fun κ s => lhOf k κ s laws_toDeed.pts) b11 (OM.start laws_toDeed.g.pms 0 x) (OM.fin laws_toDeed.g Try.f11.results.toList) := by kernel_rfl
theorem laws_toDeed.ok (k : Nat) : SmOk Try.prog (laws_toDeed.sm k) :=
  sm_ok mixed (E := laws_toDeed.E) (pts := laws_toDeed.pts) (fun k => ⟨⟨tysOk, by kernel_rfl⟩, forall_nil⟩) (fun _ => rfl) (fun _ => rfl)
    ⟨Try.func11, by kernel_rfl, by kernel_rfl, by kernel_rfl, by kernel_rfl, by kernel_rfl, by kernel_rfl⟩ (forall_nil) laws_toDeed.hf k
noncomputable def b44 : Code := Try.f44.body.getD .skip
theorem e44 : OM.Entry Try.prog 44 := ⟨_, Try.func44, by kernel_rfl, by kernel_rfl⟩
@[reducible] noncomputable def spec_l1In.g : Sig := ⟨[.fz (.int .i64), .fz (.int .i64), .fz (.int .i64)], [.v .bool .z], []⟩
@[reducible] noncomputable def spec_l1In.fk : Nat → denI spec_l1In.g.pms → Option (denR (outTys spec_l1In.g.rts spec_l1In.g.pms)) := fun k x => spec_l1In.f x.1 x.2.1 x.2.2.1
@[reducible] noncomputable def spec_l1In.sm (k : Nat) : Sm := ⟨44, spec_l1In.g.pms, spec_l1In.g.rts, spec_l1In.fk k⟩
noncomputable def spec_l1In.E (k : Nat) : Env := ⟨tys, [], [], [], []⟩
noncomputable def spec_l1In.pts : List (Pt (denR (outTys spec_l1In.g.rts spec_l1In.g.pms))) := []
theorem spec_l1In.hf (k : Nat) (x : denI spec_l1In.g.pms) : spec_l1In.fk k x = evC (spec_l1In.E k) (fun κ s => lhOf k κ s spec_l1In.pts) b44 (OM.start spec_l1In.g.pms 0 x) (OM.fin spec_l1In.g Try.f44.results.toList) := by kernel_rfl
theorem spec_l1In.ok (k : Nat) : SmOk Try.prog (spec_l1In.sm k) :=
  sm_ok mixed (E := spec_l1In.E) (pts := spec_l1In.pts) (fun k => ⟨⟨tysOk, by kernel_rfl⟩, forall_nil⟩) (fun _ => rfl) (fun _ => rfl)
    ⟨Try.func44, by kernel_rfl, by kernel_rfl, by kernel_rfl, by kernel_rfl, by kernel_rfl, by kernel_rfl⟩ (forall_nil) spec_l1In.hf k
noncomputable def b45 : Code := Try.f45.body.getD .skip
theorem e45 : OM.Entry Try.prog 45 := ⟨_, Try.func45, by kernel_rfl, by kernel_rfl⟩
@[reducible] noncomputable def spec_l13Names.g : Sig := ⟨[.fz tDeed], [.v tDeed .z], []⟩
@[reducible] noncomputable def spec_l13Names.fk : Nat → denI spec_l13Names.g.pms → Option (denR (outTys spec_l13Names.g.rts spec_l13Names.g.pms)) := fun k x => spec_l13Names.f x.1
@[reducible] noncomputable def spec_l13Names.sm (k : Nat) : Sm := ⟨45, spec_l13Names.g.pms, spec_l13Names.g.rts, spec_l13Names.fk k⟩
noncomputable def spec_l13Names.E (k : Nat) : Env := ⟨tys, [], [19, 27, 38, 47, 55], [], []⟩
noncomputable def spec_l13Names.pts : List (Pt (denR (outTys spec_l13Names.g.rts spec_l13Names.g.pms))) := []
theorem spec_l13Names.hf (k : Nat) (x : denI spec_l13Names.g.pms) : spec_l13Names.fk k x = evC (spec_l13Names.E k) (fun κ s => lhOf k κ s spec_l13Names.pts) b45 (OM.start spec_l13Names.g.pms 0 x) (OM.fin spec_l13Names.g Try.f45.results.toList) := by kernel_rfl
theorem spec_l13Names.ok (k : Nat) : SmOk Try.prog (spec_l13Names.sm k) :=
  sm_ok mixed (E := spec_l13Names.E) (pts := spec_l13Names.pts) (fun k => ⟨⟨tysOk, by kernel_rfl⟩, forall_nil⟩) (fun _ => rfl) (fun _ => rfl)
    ⟨Try.func45, by kernel_rfl, by kernel_rfl, by kernel_rfl, by kernel_rfl, by kernel_rfl, by kernel_rfl⟩ (forall_nil) spec_l13Names.hf k
noncomputable def b10 : Code := Try.f10.body.getD .skip
theorem e10 : OM.Entry Try.prog 10 := ⟨_, Try.func10, by kernel_rfl, by kernel_rfl⟩
@[reducible] noncomputable def spec_DeedOk.g : Sig := ⟨[.fz tDeed], [.v .bool .z], []⟩
@[reducible] noncomputable def spec_DeedOk.fk : Nat → denI spec_DeedOk.g.pms → Option (denR (outTys spec_DeedOk.g.rts spec_DeedOk.g.pms)) := fun k x => spec_DeedOk.f x.1
@[reducible] noncomputable def spec_DeedOk.sm (k : Nat) : Sm := ⟨10, spec_DeedOk.g.pms, spec_DeedOk.g.rts, spec_DeedOk.fk k⟩
noncomputable def spec_DeedOk.E (k : Nat) : Env := ⟨tys, [spec_l1In.sm k, spec_l13Names.sm k], [], [], [26]⟩
noncomputable def spec_DeedOk.pts : List (Pt (denR (outTys spec_DeedOk.g.rts spec_DeedOk.g.pms))) := []
theorem spec_DeedOk.hf (k : Nat) (x : denI spec_DeedOk.g.pms) : spec_DeedOk.fk k x = evC (spec_DeedOk.E k) (fun κ s => lhOf k κ s spec_DeedOk.pts) b10 (OM.start spec_DeedOk.g.pms 0 x) (OM.fin spec_DeedOk.g Try.f10.results.toList) := by kernel_rfl
theorem spec_DeedOk.ok (k : Nat) : SmOk Try.prog (spec_DeedOk.sm k) :=
  sm_ok mixed (E := spec_DeedOk.E) (pts := spec_DeedOk.pts) (fun k => ⟨⟨tysOk, by kernel_rfl⟩, forall_cons ⟨spec_l1In.ok k, e44⟩ (forall_cons ⟨spec_l13Names.ok k, e45⟩ (forall_nil))⟩) (fun _ => rfl) (fun _ => rfl)
    ⟨Try.func10, by kernel_rfl, by kernel_rfl, by kernel_rfl, by kernel_rfl, by kernel_rfl, by kernel_rfl⟩ (forall_nil) spec_DeedOk.hf k
noncomputable def b46 : Code := Try.f46.body.getD .skip
theorem e46 : OM.Entry Try.prog 46 := ⟨_, Try.func46, by kernel_rfl, by kernel_rfl⟩
@[reducible] noncomputable def impl_deedHas.g : Sig := ⟨[.fz (.int .i64)], [.v .str .z], []⟩
@[reducible] noncomputable def impl_deedHas.fk : Nat → denI impl_deedHas.g.pms → Option (denR (outTys impl_deedHas.g.rts impl_deedHas.g.pms)) := fun k x => impl_deedHas.f x.1
@[reducible] noncomputable def impl_deedHas.sm (k : Nat) : Sm := ⟨46, impl_deedHas.g.pms, impl_deedHas.g.rts, impl_deedHas.fk k⟩
noncomputable def impl_deedHas.E (k : Nat) : Env := ⟨tys, [], [], [], []⟩
noncomputable def impl_deedHas.pts : List (Pt (denR (outTys impl_deedHas.g.rts impl_deedHas.g.pms))) := []
theorem impl_deedHas.hf (k : Nat) (x : denI impl_deedHas.g.pms) : impl_deedHas.fk k x = evC (impl_deedHas.E k) (fun κ s => lhOf k κ s impl_deedHas.pts) b46 (OM.start impl_deedHas.g.pms 0 x) (OM.fin impl_deedHas.g Try.f46.results.toList) := by kernel_rfl
theorem impl_deedHas.ok (k : Nat) : SmOk Try.prog (impl_deedHas.sm k) :=
  sm_ok mixed (E := impl_deedHas.E) (pts := impl_deedHas.pts) (fun k => ⟨⟨tysOk, by kernel_rfl⟩, forall_nil⟩) (fun _ => rfl) (fun _ => rfl)
    ⟨Try.func46, by kernel_rfl, by kernel_rfl, by kernel_rfl, by kernel_rfl, by kernel_rfl, by kernel_rfl⟩ (forall_nil) impl_deedHas.hf k
noncomputable def b47 : Code := Try.f47.body.getD .skip
theorem e47 : OM.Entry Try.prog 47 := ⟨_, Try.func47, by kernel_rfl, by kernel_rfl⟩
@[reducible] noncomputable def impl_within.g : Sig := ⟨[.fz (.int .i64), .fz (.int .i64), .fz (.int .i64)], [.v .bool .z], []⟩
@[reducible] noncomputable def impl_within.fk : Nat → denI impl_within.g.pms → Option (denR (outTys impl_within.g.rts impl_within.g.pms)) := fun k x => impl_within.f x.1 x.2.1 x.2.2.1
@[reducible] noncomputable def impl_within.sm (k : Nat) : Sm := ⟨47, impl_within.g.pms, impl_within.g.rts, impl_within.fk k⟩
noncomputable def impl_within.E (k : Nat) : Env := ⟨tys, [], [], [], []⟩
noncomputable def impl_within.pts : List (Pt (denR (outTys impl_within.g.rts impl_within.g.pms))) := []
theorem impl_within.hf (k : Nat) (x : denI impl_within.g.pms) : impl_within.fk k x = evC (impl_within.E k) (fun κ s => lhOf k κ s impl_within.pts) b47 (OM.start impl_within.g.pms 0 x) (OM.fin impl_within.g Try.f47.results.toList) := by kernel_rfl
theorem impl_within.ok (k : Nat) : SmOk Try.prog (impl_within.sm k) :=
  sm_ok mixed (E := impl_within.E) (pts := impl_within.pts) (fun k => ⟨⟨tysOk, by kernel_rfl⟩, forall_nil⟩) (fun _ => rfl) (fun _ => rfl)
    ⟨Try.func47, by kernel_rfl, by kernel_rfl, by kernel_rfl, by kernel_rfl, by kernel_rfl, by kernel_rfl⟩ (forall_nil) impl_within.hf k
noncomputable def b48 : Code := Try.f48.body.getD .skip
theorem e48 : OM.Entry Try.prog 48 := ⟨_, Try.func48, by kernel_rfl, by kernel_rfl⟩
@[reducible] noncomputable def impl_dataOk.g : Sig := ⟨[.fz .str], [.v .bool .z], []⟩
@[reducible] noncomputable def impl_dataOk.fk : Nat → denI impl_dataOk.g.pms → Option (denR (outTys impl_dataOk.g.rts impl_dataOk.g.pms)) := fun k x => impl_dataOk.f x.1
@[reducible] noncomputable def impl_dataOk.sm (k : Nat) : Sm := ⟨48, impl_dataOk.g.pms, impl_dataOk.g.rts, impl_dataOk.fk k⟩
noncomputable def impl_dataOk.E (k : Nat) : Env := ⟨tys, [], [], [], []⟩
noncomputable def impl_dataOk.pts : List (Pt (denR (outTys impl_dataOk.g.rts impl_dataOk.g.pms))) := []
theorem impl_dataOk.hf (k : Nat) (x : denI impl_dataOk.g.pms) : impl_dataOk.fk k x = evC (impl_dataOk.E k) (fun κ s => lhOf k κ s impl_dataOk.pts) b48 (OM.start impl_dataOk.g.pms 0 x) (OM.fin impl_dataOk.g Try.f48.results.toList) := by kernel_rfl
theorem impl_dataOk.ok (k : Nat) : SmOk Try.prog (impl_dataOk.sm k) :=
  sm_ok mixed (E := impl_dataOk.E) (pts := impl_dataOk.pts) (fun k => ⟨⟨tysOk, by kernel_rfl⟩, forall_nil⟩) (fun _ => rfl) (fun _ => rfl)
    ⟨Try.func48, by kernel_rfl, by kernel_rfl, by kernel_rfl, by kernel_rfl, by kernel_rfl, by kernel_rfl⟩ (forall_nil) impl_dataOk.hf k
noncomputable def b12 : Code := Try.f12.body.getD .skip
theorem e12 : OM.Entry Try.prog 12 := ⟨_, Try.func12, by kernel_rfl, by kernel_rfl⟩
@[reducible] noncomputable def impl_DeedOk.g : Sig := ⟨[.fz tDeed], [.v .bool .z], []⟩
@[reducible] noncomputable def impl_DeedOk.fk : Nat → denI impl_DeedOk.g.pms → Option (denR (outTys impl_DeedOk.g.rts impl_DeedOk.g.pms)) := fun k x => impl_DeedOk.f k x.1
@[reducible] noncomputable def impl_DeedOk.sm (k : Nat) : Sm := ⟨12, impl_DeedOk.g.pms, impl_DeedOk.g.rts, impl_DeedOk.fk k⟩
noncomputable def impl_DeedOk.E (k : Nat) : Env := ⟨tys, [impl_deedHas.sm k, impl_within.sm k, impl_dataOk.sm k], [16], [], [26]⟩
@[reducible] noncomputable def impl_DeedOk.s9 : List Slot := [.r 4 5 [] tDeed, .r 12 13 [] tDeed, .v 44 (.sl (.int .u8)) (.own .z) [] 0, .v 48 (.int .i64) .z [] 0, .v 52 (.int .i64) .z [] 0, .v 5 tDeed .z [] 0, .v 13 tDeed .z [] 0]
noncomputable def impl_DeedOk.pts : List (Pt (denR (outTys impl_DeedOk.g.rts impl_DeedOk.g.pms))) := [⟨9, impl_DeedOk.s9, fun k x => impl_DeedOk.p9 k x.1 x.2.1 x.2.2.1 x.2.2.2.1 x.2.2.2.2.1⟩]
theorem impl_DeedOk.h9 (x : denS impl_DeedOk.s9) (k : Nat) : (impl_DeedOk.p9 (k + 1) x.1 x.2.1 x.2.2.1 x.2.2.2.1 x.2.2.2.2.1 : Option (denR (outTys impl_DeedOk.g.rts impl_DeedOk.g.pms))) = evAt (impl_DeedOk.E k) (fun κ s => lhOf k κ s impl_DeedOk.pts) 9 b12 (unproj impl_DeedOk.s9 x) (OM.fin impl_DeedOk.g Try.f12.results.toList) := by kernel_rfl
theorem impl_DeedOk.hf (k : Nat) (x : denI impl_DeedOk.g.pms) : impl_DeedOk.fk k x = evC (impl_DeedOk.E k) (fun κ s => lhOf k κ s impl_DeedOk.pts) b12 (OM.start impl_DeedOk.g.pms 0 x) (OM.fin impl_DeedOk.g Try.f12.results.toList) := by kernel_rfl
theorem impl_DeedOk.ok (k : Nat) : SmOk Try.prog (impl_DeedOk.sm k) :=
  sm_ok mixed (E := impl_DeedOk.E) (pts := impl_DeedOk.pts) (fun k => ⟨⟨tysOk, by kernel_rfl⟩, forall_cons ⟨impl_deedHas.ok k, e46⟩ (forall_cons ⟨impl_within.ok k, e47⟩ (forall_cons ⟨impl_dataOk.ok k, e48⟩ (forall_nil)))⟩) (fun _ => rfl) (fun _ => rfl)
    ⟨Try.func12, by kernel_rfl, by kernel_rfl, by kernel_rfl, by kernel_rfl, by kernel_rfl, by kernel_rfl⟩ (forall_cons (fun x => ⟨rfl, impl_DeedOk.h9 x⟩) (forall_nil)) impl_DeedOk.hf k
noncomputable def b3 : Code := Try.f3.body.getD .skip
theorem e3 : OM.Entry Try.prog 3 := ⟨_, Try.func3, by kernel_rfl, by kernel_rfl⟩
@[reducible] noncomputable def laws_FnExactDeedOk.g : Sig := ⟨[.fz tDeed], [.v .bool .z], []⟩
@[reducible] noncomputable def laws_FnExactDeedOk.fk : Nat → denI laws_FnExactDeedOk.g.pms → Option (denR (outTys laws_FnExactDeedOk.g.rts laws_FnExactDeedOk.g.pms)) := fun k x => laws_FnExactDeedOk.f k x.1
@[reducible] noncomputable def laws_FnExactDeedOk.sm (k : Nat) : Sm := ⟨3, laws_FnExactDeedOk.g.pms, laws_FnExactDeedOk.g.rts, laws_FnExactDeedOk.fk k⟩
noncomputable def laws_FnExactDeedOk.E (k : Nat) : Env := ⟨tys, [laws_szDeed.sm k, laws_toDeed.sm k, spec_DeedOk.sm k, impl_DeedOk.sm k], [], [], [4]⟩
noncomputable def laws_FnExactDeedOk.pts : List (Pt (denR (outTys laws_FnExactDeedOk.g.rts laws_FnExactDeedOk.g.pms))) := []
theorem laws_FnExactDeedOk.hf (k : Nat) (x : denI laws_FnExactDeedOk.g.pms) : laws_FnExactDeedOk.fk k x = evC (laws_FnExactDeedOk.E k) (fun κ s => lhOf k κ s laws_FnExactDeedOk.pts) b3 (OM.start laws_FnExactDeedOk.g.pms 0 x) (OM.fin laws_FnExactDeedOk.g Try.f3.results.toList) := by kernel_rfl
theorem laws_FnExactDeedOk.ok (k : Nat) : SmOk Try.prog (laws_FnExactDeedOk.sm k) :=
  sm_ok mixed (E := laws_FnExactDeedOk.E) (pts := laws_FnExactDeedOk.pts) (fun k => ⟨⟨tysOk, by kernel_rfl⟩, forall_cons ⟨laws_szDeed.ok k, e9⟩ (forall_cons ⟨laws_toDeed.ok k, e11⟩ (forall_cons ⟨spec_DeedOk.ok k, e10⟩ (forall_cons ⟨impl_DeedOk.ok k, e12⟩ (forall_nil))))⟩) (fun _ => rfl) (fun _ => rfl)
    ⟨Try.func3, by kernel_rfl, by kernel_rfl, by kernel_rfl, by kernel_rfl, by kernel_rfl, by kernel_rfl⟩ (forall_nil) laws_FnExactDeedOk.hf k
end Go.Proofs.Ytepefeclpdnfmaa.OmFnExactDeedOk
