import Derived.Test.YtdkdhciogedoiabFFnExactStoreRead
import Derived.Test.YtdkdhciogedoiabChecked
set_option maxRecDepth 1000000
set_option linter.unusedVariables false
namespace Go.Proofs.Ytdkdhciogedoiab.OmFnExactStoreRead
open Go Go.OM
noncomputable def tys : List (Option Ty) := [none, none, some (.int .i64), some (.int .i64), some .bool, some (.int .u8), some (.int .u8), some (.pair (.int .i64) (.pair (.int .i64) (.pair .bool (.pair (.int .u8) .unit)))), some (.pair (.int .i64) (.pair (.int .i64) (.pair .bool (.pair (.int .u8) .unit)))), some .str, some .str, some .str, some (.int .u64), some (.pair .str (.pair (.int .u64) .unit)), some (.pair .str (.pair (.int .u64) .unit)), none, none, none, none, none, none, some (.int .i32), some (.sl (.int .i64)), some tConfig, some tConfig, some (.sl tEra), some tRegister, some tRegister, none, none, none, some tConfig, none, some (.sl tEra), some tRegister, some tRegister, none, none, none, none, some (.sl (.int .u8)), none, some (.sl tWord), some tWriter, some tWriter, none, none, none, none, some tWord, some tWord, none, none, some (.sl tEntry), some (.sl (.sl (.int .i64))), some tMend, some tMend, none, none, some (.sl tEntry), some tMend, some tMend, none, none, none, some tStore, some tStore, none, none, none, none, none, none, none, none, none, none, none, none, none, none, none, some (.sl tWord), some tWriter, some tWriter, none, none, none, none, none, none, none, none, none, some tEra, some tEra, none, none, none, none, none, none, none, none, none, none, some (.sl .str), none, none, none, none, none, none, none, none, none, none, some tEntry, some tEntry, none, none, none, none, none, none, none, none, none, none, none, none, some treader, some treader, none, none, none, none, none, none, none, none, none, none, none, none, some tEra, none, none, none, some tl1Cur, some tl1Cur, none, none, none, none, some tEntry, none, none, none, none, none, none, none, none, none, some tWord, none, none, some (.sl .bool), none, none, none, some (.int .u64), none, none, none, none, none, none, some (.int .u32), some (.int .u8), some (.int .u8), none, none, some (.int .i32), some (.int .i32), none, none, none]
theorem tysOk : okTys Try.prog tys 0 tys = true := by kernel_rfl
theorem mixed : Try.prog.follows .mixedOrders = true := by kernel_rfl
noncomputable def b29 : Code := Try.f29.body.getD .skip
theorem e29 : OM.Entry Try.prog 29 := ⟨_, Try.func29, by kernel_rfl, by kernel_rfl⟩
@[reducible] noncomputable def laws_toByteS.g : Sig := ⟨[.fz (.sl (.int .u8))], [.v (.sl (.int .u8)) (.own .z)], []⟩
@[reducible] noncomputable def laws_toByteS.fk : Nat → denI laws_toByteS.g.pms → Option (denR (outTys laws_toByteS.g.rts laws_toByteS.g.pms)) := fun k x => laws_toByteS.f k x.1
@[reducible] noncomputable def laws_toByteS.sm (k : Nat) : Sm := ⟨29, laws_toByteS.g.pms, laws_toByteS.g.rts, laws_toByteS.fk k⟩
noncomputable def laws_toByteS.E (k : Nat) : Env := ⟨tys, [], [19], [], []⟩
@[reducible] noncomputable def laws_toByteS.s7 : List Slot := [.v 0 (.sl (.int .u8)) .z [] 0, .v 12 (.sl (.int .u8)) (.own .z) [] 0, .v 16 (.int .i64) .z [] 0]
noncomputable def laws_toByteS.pts : List (Pt (denR (outTys laws_toByteS.g.rts laws_toByteS.g.pms))) := [⟨7, laws_toByteS.s7, fun k x => laws_toByteS.p7 k x.1 x.2.1 x.2.2.1⟩]
theorem laws_toByteS.h7 (k : Nat) (x0 : (List Int)) (x1 : (List Int)) (x2 : Int) : (laws_toByteS.p7 (k + 1) x0 x1 x2 : Option (denR (outTys laws_toByteS.g.rts laws_toByteS.g.pms))) = evAt (laws_toByteS.E k) (fun κ s => lhOf k κ s laws_toByteS.pts) 7 b29 (unproj laws_toByteS.s7 (x0, x1, x2, ())) (OM.fin laws_toByteS.g Try.f29.results.toList) := by kernel_rfl
theorem laws_toByteS.hf (k : Nat) (a0 : (List Int)) : (laws_toByteS.f k a0 : Option (denR (outTys laws_toByteS.g.rts laws_toByteS.g.pms))) = evC (laws_toByteS.E k) (fun κ s => lhOf k κ s laws_toByteS.pts) b29 (OM.start laws_toByteS.g.pms 0 (a0, ())) (OM.fin laws_toByteS.g Try.f29.results.toList) := by kernel_rfl
theorem laws_toByteS.ok (k : Nat) : SmOk Try.prog (laws_toByteS.sm k) :=
  sm_ok mixed (E := laws_toByteS.E) (pts := laws_toByteS.pts) (fun k => ⟨⟨tysOk, by kernel_rfl⟩, forall_nil⟩) (fun _ => rfl) (fun _ => rfl)
    ⟨Try.func29, by kernel_rfl, by kernel_rfl, by kernel_rfl, by kernel_rfl, by kernel_rfl, by kernel_rfl⟩ (forall_cons (fun x => ⟨rfl, fun k => laws_toByteS.h7 k x.1 x.2.1 x.2.2.1⟩) (forall_nil)) (fun k x => laws_toByteS.hf k x.1) k
noncomputable def b89 : Code := Try.f89.body.getD .skip
theorem e89 : OM.Entry Try.prog 89 := ⟨_, Try.func89, by kernel_rfl, by kernel_rfl⟩
@[reducible] noncomputable def spec_GetNum.g : Sig := ⟨[.fz (.sl (.int .u8)), .fz (.int .i64)], [.v (.int .i64) .z, .v (.int .i64) .z, .v .bool .z], []⟩
@[reducible] noncomputable def spec_GetNum.fk : Nat → denI spec_GetNum.g.pms → Option (denR (outTys spec_GetNum.g.rts spec_GetNum.g.pms)) := fun k x => spec_GetNum.f k x.1 x.2.1
@[reducible] noncomputable def spec_GetNum.sm (k : Nat) : Sm := ⟨89, spec_GetNum.g.pms, spec_GetNum.g.rts, spec_GetNum.fk k⟩
noncomputable def spec_GetNum.E (k : Nat) : Env := ⟨tys, [], [], [], []⟩
@[reducible] noncomputable def spec_GetNum.s13 : List Slot := [.v 0 (.sl (.int .u8)) .z [] 0, .v 4 (.int .i64) .z [] 0, .v 28 (.int .i64) .z [] 0, .v 32 (.int .i64) .z [] 0, .v 36 (.int .i64) .z [] 0]
noncomputable def spec_GetNum.pts : List (Pt (denR (outTys spec_GetNum.g.rts spec_GetNum.g.pms))) := [⟨13, spec_GetNum.s13, fun k x => spec_GetNum.p13 k x.1 x.2.1 x.2.2.1 x.2.2.2.1 x.2.2.2.2.1⟩]
theorem spec_GetNum.h13 (k : Nat) (x0 : (List Int)) (x1 : Int) (x2 : Int) (x3 : Int) (x4 : Int) : (spec_GetNum.p13 (k + 1) x0 x1 x2 x3 x4 : Option (denR (outTys spec_GetNum.g.rts spec_GetNum.g.pms))) = evAt (spec_GetNum.E k) (fun κ s => lhOf k κ s spec_GetNum.pts) 13 b89 (unproj spec_GetNum.s13 (x0, x1, x2, x3, x4, ())) (OM.fin spec_GetNum.g Try.f89.results.toList) := by kernel_rfl
theorem spec_GetNum.hf (k : Nat) (a0 : (List Int)) (a1 : Int) : (spec_GetNum.f k a0 a1 : Option (denR (outTys spec_GetNum.g.rts spec_GetNum.g.pms))) = evC (spec_GetNum.E k) (fun κ s => lhOf k κ s spec_GetNum.pts) b89 (OM.start spec_GetNum.g.pms 0 (a0, a1, ())) (OM.fin spec_GetNum.g Try.f89.results.toList) := by kernel_rfl
theorem spec_GetNum.ok (k : Nat) : SmOk Try.prog (spec_GetNum.sm k) :=
  sm_ok mixed (E := spec_GetNum.E) (pts := spec_GetNum.pts) (fun k => ⟨⟨tysOk, by kernel_rfl⟩, forall_nil⟩) (fun _ => rfl) (fun _ => rfl)
    ⟨Try.func89, by kernel_rfl, by kernel_rfl, by kernel_rfl, by kernel_rfl, by kernel_rfl, by kernel_rfl⟩ (forall_cons (fun x => ⟨rfl, fun k => spec_GetNum.h13 k x.1 x.2.1 x.2.2.1 x.2.2.2.1 x.2.2.2.2.1⟩) (forall_nil)) (fun k x => spec_GetNum.hf k x.1 x.2.1) k
noncomputable def b129 : Code := Try.f129.body.getD .skip
theorem e129 : OM.Entry Try.prog 129 := ⟨_, Try.func129, by kernel_rfl, by kernel_rfl⟩
@[reducible] noncomputable def spec_GetText.g : Sig := ⟨[.fz (.sl (.int .u8)), .fz (.int .i64)], [.v .str .z, .v (.int .i64) .z, .v .bool .z], []⟩
@[reducible] noncomputable def spec_GetText.fk : Nat → denI spec_GetText.g.pms → Option (denR (outTys spec_GetText.g.rts spec_GetText.g.pms)) := fun k x => spec_GetText.f k x.1 x.2.1
@[reducible] noncomputable def spec_GetText.sm (k : Nat) : Sm := ⟨129, spec_GetText.g.pms, spec_GetText.g.rts, spec_GetText.fk k⟩
noncomputable def spec_GetText.E (k : Nat) : Env := ⟨tys, [spec_GetNum.sm k], [27, 32], [], []⟩
noncomputable def spec_GetText.pts : List (Pt (denR (outTys spec_GetText.g.rts spec_GetText.g.pms))) := []
theorem spec_GetText.hf (k : Nat) (a0 : (List Int)) (a1 : Int) : (spec_GetText.f k a0 a1 : Option (denR (outTys spec_GetText.g.rts spec_GetText.g.pms))) = evC (spec_GetText.E k) (fun κ s => lhOf k κ s spec_GetText.pts) b129 (OM.start spec_GetText.g.pms 0 (a0, a1, ())) (OM.fin spec_GetText.g Try.f129.results.toList) := by kernel_rfl
theorem spec_GetText.ok (k : Nat) : SmOk Try.prog (spec_GetText.sm k) :=
  sm_ok mixed (E := spec_GetText.E) (pts := spec_GetText.pts) (fun k => ⟨⟨tysOk, by kernel_rfl⟩, forall_cons ⟨spec_GetNum.ok k, e89⟩ (forall_nil)⟩) (fun _ => rfl) (fun _ => rfl)
    ⟨Try.func129, by kernel_rfl, by kernel_rfl, by kernel_rfl, by kernel_rfl, by kernel_rfl, by kernel_rfl⟩ (forall_nil) (fun k x => spec_GetText.hf k x.1 x.2.1) k
noncomputable def b55 : Code := Try.f55.body.getD .skip
theorem e55 : OM.Entry Try.prog 55 := ⟨_, Try.func55, by kernel_rfl, by kernel_rfl⟩
@[reducible] noncomputable def spec_l1In.g : Sig := ⟨[.fz (.int .i64), .fz (.int .i64), .fz (.int .i64)], [.v .bool .z], []⟩
@[reducible] noncomputable def spec_l1In.fk : Nat → denI spec_l1In.g.pms → Option (denR (outTys spec_l1In.g.rts spec_l1In.g.pms)) := fun k x => spec_l1In.f x.1 x.2.1 x.2.2.1
@[reducible] noncomputable def spec_l1In.sm (k : Nat) : Sm := ⟨55, spec_l1In.g.pms, spec_l1In.g.rts, spec_l1In.fk k⟩
noncomputable def spec_l1In.E (k : Nat) : Env := ⟨tys, [], [], [], []⟩
noncomputable def spec_l1In.pts : List (Pt (denR (outTys spec_l1In.g.rts spec_l1In.g.pms))) := []
theorem spec_l1In.hf (k : Nat) (a0 : Int) (a1 : Int) (a2 : Int) : (spec_l1In.f a0 a1 a2 : Option (denR (outTys spec_l1In.g.rts spec_l1In.g.pms))) = evC (spec_l1In.E k) (fun κ s => lhOf k κ s spec_l1In.pts) b55 (OM.start spec_l1In.g.pms 0 (a0, a1, a2, ())) (OM.fin spec_l1In.g Try.f55.results.toList) := by kernel_rfl
theorem spec_l1In.ok (k : Nat) : SmOk Try.prog (spec_l1In.sm k) :=
  sm_ok mixed (E := spec_l1In.E) (pts := spec_l1In.pts) (fun k => ⟨⟨tysOk, by kernel_rfl⟩, forall_nil⟩) (fun _ => rfl) (fun _ => rfl)
    ⟨Try.func55, by kernel_rfl, by kernel_rfl, by kernel_rfl, by kernel_rfl, by kernel_rfl, by kernel_rfl⟩ (forall_nil) (fun k x => spec_l1In.hf k x.1 x.2.1 x.2.2.1) k
noncomputable def b52 : Code := Try.f52.body.getD .skip
theorem e52 : OM.Entry Try.prog 52 := ⟨_, Try.func52, by kernel_rfl, by kernel_rfl⟩
@[reducible] noncomputable def spec_PlaceOk.g : Sig := ⟨[.fz (.int .i64)], [.v .bool .z], []⟩
@[reducible] noncomputable def spec_PlaceOk.fk : Nat → denI spec_PlaceOk.g.pms → Option (denR (outTys spec_PlaceOk.g.rts spec_PlaceOk.g.pms)) := fun k x => spec_PlaceOk.f x.1
@[reducible] noncomputable def spec_PlaceOk.sm (k : Nat) : Sm := ⟨52, spec_PlaceOk.g.pms, spec_PlaceOk.g.rts, spec_PlaceOk.fk k⟩
noncomputable def spec_PlaceOk.E (k : Nat) : Env := ⟨tys, [spec_l1In.sm k], [], [], []⟩
noncomputable def spec_PlaceOk.pts : List (Pt (denR (outTys spec_PlaceOk.g.rts spec_PlaceOk.g.pms))) := []
theorem spec_PlaceOk.hf (k : Nat) (a0 : Int) : (spec_PlaceOk.f a0 : Option (denR (outTys spec_PlaceOk.g.rts spec_PlaceOk.g.pms))) = evC (spec_PlaceOk.E k) (fun κ s => lhOf k κ s spec_PlaceOk.pts) b52 (OM.start spec_PlaceOk.g.pms 0 (a0, ())) (OM.fin spec_PlaceOk.g Try.f52.results.toList) := by kernel_rfl
theorem spec_PlaceOk.ok (k : Nat) : SmOk Try.prog (spec_PlaceOk.sm k) :=
  sm_ok mixed (E := spec_PlaceOk.E) (pts := spec_PlaceOk.pts) (fun k => ⟨⟨tysOk, by kernel_rfl⟩, forall_cons ⟨spec_l1In.ok k, e55⟩ (forall_nil)⟩) (fun _ => rfl) (fun _ => rfl)
    ⟨Try.func52, by kernel_rfl, by kernel_rfl, by kernel_rfl, by kernel_rfl, by kernel_rfl, by kernel_rfl⟩ (forall_nil) (fun k x => spec_PlaceOk.hf k x.1) k
noncomputable def b53 : Code := Try.f53.body.getD .skip
theorem e53 : OM.Entry Try.prog 53 := ⟨_, Try.func53, by kernel_rfl, by kernel_rfl⟩
@[reducible] noncomputable def spec_EpochOf.g : Sig := ⟨[.fz (.int .i64)], [.v (.int .i64) .z], []⟩
@[reducible] noncomputable def spec_EpochOf.fk : Nat → denI spec_EpochOf.g.pms → Option (denR (outTys spec_EpochOf.g.rts spec_EpochOf.g.pms)) := fun k x => spec_EpochOf.f x.1
@[reducible] noncomputable def spec_EpochOf.sm (k : Nat) : Sm := ⟨53, spec_EpochOf.g.pms, spec_EpochOf.g.rts, spec_EpochOf.fk k⟩
noncomputable def spec_EpochOf.E (k : Nat) : Env := ⟨tys, [spec_PlaceOk.sm k], [], [], []⟩
noncomputable def spec_EpochOf.pts : List (Pt (denR (outTys spec_EpochOf.g.rts spec_EpochOf.g.pms))) := []
theorem spec_EpochOf.hf (k : Nat) (a0 : Int) : (spec_EpochOf.f a0 : Option (denR (outTys spec_EpochOf.g.rts spec_EpochOf.g.pms))) = evC (spec_EpochOf.E k) (fun κ s => lhOf k κ s spec_EpochOf.pts) b53 (OM.start spec_EpochOf.g.pms 0 (a0, ())) (OM.fin spec_EpochOf.g Try.f53.results.toList) := by kernel_rfl
theorem spec_EpochOf.ok (k : Nat) : SmOk Try.prog (spec_EpochOf.sm k) :=
  sm_ok mixed (E := spec_EpochOf.E) (pts := spec_EpochOf.pts) (fun k => ⟨⟨tysOk, by kernel_rfl⟩, forall_cons ⟨spec_PlaceOk.ok k, e52⟩ (forall_nil)⟩) (fun _ => rfl) (fun _ => rfl)
    ⟨Try.func53, by kernel_rfl, by kernel_rfl, by kernel_rfl, by kernel_rfl, by kernel_rfl, by kernel_rfl⟩ (forall_nil) (fun k x => spec_EpochOf.hf k x.1) k
noncomputable def b81 : Code := Try.f81.body.getD .skip
theorem e81 : OM.Entry Try.prog 81 := ⟨_, Try.func81, by kernel_rfl, by kernel_rfl⟩
@[reducible] noncomputable def spec_EntryOk.g : Sig := ⟨[.fz tEntry], [.v .bool .z], []⟩
@[reducible] noncomputable def spec_EntryOk.fk : Nat → denI spec_EntryOk.g.pms → Option (denR (outTys spec_EntryOk.g.rts spec_EntryOk.g.pms)) := fun k x => spec_EntryOk.f k x.1
@[reducible] noncomputable def spec_EntryOk.sm (k : Nat) : Sm := ⟨81, spec_EntryOk.g.pms, spec_EntryOk.g.rts, spec_EntryOk.fk k⟩
noncomputable def spec_EntryOk.E (k : Nat) : Env := ⟨tys, [spec_l1In.sm k, spec_PlaceOk.sm k, spec_EpochOf.sm k], [], [3], []⟩
@[reducible] noncomputable def spec_EntryOk.s6 : List Slot := [.r 4 5 [] tEntry, .v 5 tEntry .z [] 0]
noncomputable def spec_EntryOk.pts : List (Pt (denR (outTys spec_EntryOk.g.rts spec_EntryOk.g.pms))) := [⟨6, spec_EntryOk.s6, fun k x => spec_EntryOk.p6 k x.1⟩]
theorem spec_EntryOk.h6 (k : Nat) (x0 : Entry) : (spec_EntryOk.p6 (k + 1) x0 : Option (denR (outTys spec_EntryOk.g.rts spec_EntryOk.g.pms))) = evAt (spec_EntryOk.E k) (fun κ s => lhOf k κ s spec_EntryOk.pts) 6 b81 (unproj spec_EntryOk.s6 (x0, ())) (OM.fin spec_EntryOk.g Try.f81.results.toList) := by kernel_rfl
theorem spec_EntryOk.hf (k : Nat) (a0 : Entry) : (spec_EntryOk.f k a0 : Option (denR (outTys spec_EntryOk.g.rts spec_EntryOk.g.pms))) = evC (spec_EntryOk.E k) (fun κ s => lhOf k κ s spec_EntryOk.pts) b81 (OM.start spec_EntryOk.g.pms 0 (a0, ())) (OM.fin spec_EntryOk.g Try.f81.results.toList) := by kernel_rfl
theorem spec_EntryOk.ok (k : Nat) : SmOk Try.prog (spec_EntryOk.sm k) :=
  sm_ok mixed (E := spec_EntryOk.E) (pts := spec_EntryOk.pts) (fun k => ⟨⟨tysOk, by kernel_rfl⟩, forall_cons ⟨spec_l1In.ok k, e55⟩ (forall_cons ⟨spec_PlaceOk.ok k, e52⟩ (forall_cons ⟨spec_EpochOf.ok k, e53⟩ (forall_nil)))⟩) (fun _ => rfl) (fun _ => rfl)
    ⟨Try.func81, by kernel_rfl, by kernel_rfl, by kernel_rfl, by kernel_rfl, by kernel_rfl, by kernel_rfl⟩ (forall_cons (fun x => ⟨rfl, fun k => spec_EntryOk.h6 k x.1⟩) (forall_nil)) (fun k x => spec_EntryOk.hf k x.1) k
noncomputable def b90 : Code := Try.f90.body.getD .skip
theorem e90 : OM.Entry Try.prog 90 := ⟨_, Try.func90, by kernel_rfl, by kernel_rfl⟩
@[reducible] noncomputable def spec_EntryRead.g : Sig := ⟨[.fz (.sl (.int .u8)), .fz (.int .i64)], [.v tEntry .z, .v (.int .i64) .z, .v .bool .z], []⟩
@[reducible] noncomputable def spec_EntryRead.fk : Nat → denI spec_EntryRead.g.pms → Option (denR (outTys spec_EntryRead.g.rts spec_EntryRead.g.pms)) := fun k x => spec_EntryRead.f k x.1 x.2.1
@[reducible] noncomputable def spec_EntryRead.sm (k : Nat) : Sm := ⟨90, spec_EntryRead.g.pms, spec_EntryRead.g.rts, spec_EntryRead.fk k⟩
noncomputable def spec_EntryRead.E (k : Nat) : Env := ⟨tys, [spec_GetNum.sm k, spec_GetText.sm k, spec_EntryOk.sm k], [56, 57, 60], [], []⟩
noncomputable def spec_EntryRead.pts : List (Pt (denR (outTys spec_EntryRead.g.rts spec_EntryRead.g.pms))) := []
theorem spec_EntryRead.hf (k : Nat) (a0 : (List Int)) (a1 : Int) : (spec_EntryRead.f k a0 a1 : Option (denR (outTys spec_EntryRead.g.rts spec_EntryRead.g.pms))) = evC (spec_EntryRead.E k) (fun κ s => lhOf k κ s spec_EntryRead.pts) b90 (OM.start spec_EntryRead.g.pms 0 (a0, a1, ())) (OM.fin spec_EntryRead.g Try.f90.results.toList) := by kernel_rfl
theorem spec_EntryRead.ok (k : Nat) : SmOk Try.prog (spec_EntryRead.sm k) :=
  sm_ok mixed (E := spec_EntryRead.E) (pts := spec_EntryRead.pts) (fun k => ⟨⟨tysOk, by kernel_rfl⟩, forall_cons ⟨spec_GetNum.ok k, e89⟩ (forall_cons ⟨spec_GetText.ok k, e129⟩ (forall_cons ⟨spec_EntryOk.ok k, e81⟩ (forall_nil)))⟩) (fun _ => rfl) (fun _ => rfl)
    ⟨Try.func90, by kernel_rfl, by kernel_rfl, by kernel_rfl, by kernel_rfl, by kernel_rfl, by kernel_rfl⟩ (forall_nil) (fun k x => spec_EntryRead.hf k x.1 x.2.1) k
noncomputable def b130 : Code := Try.f130.body.getD .skip
theorem e130 : OM.Entry Try.prog 130 := ⟨_, Try.func130, by kernel_rfl, by kernel_rfl⟩
@[reducible] noncomputable def spec_l6List.g : Sig := ⟨[.fz (.sl tEntry), .fz (.int .i64)], [.v .bool .z], []⟩
@[reducible] noncomputable def spec_l6List.fk : Nat → denI spec_l6List.g.pms → Option (denR (outTys spec_l6List.g.rts spec_l6List.g.pms)) := fun k x => spec_l6List.f k x.1 x.2.1
@[reducible] noncomputable def spec_l6List.sm (k : Nat) : Sm := ⟨130, spec_l6List.g.pms, spec_l6List.g.rts, spec_l6List.fk k⟩
noncomputable def spec_l6List.E (k : Nat) : Env := ⟨tys, [spec_EntryOk.sm k], [], [], []⟩
@[reducible] noncomputable def spec_l6List.s9 : List Slot := [.v 0 (.sl tEntry) .z [] 0, .v 20 (.int .i64) .z [] 0]
noncomputable def spec_l6List.pts : List (Pt (denR (outTys spec_l6List.g.rts spec_l6List.g.pms))) := [⟨9, spec_l6List.s9, fun k x => spec_l6List.p9 k x.1 x.2.1⟩]
theorem spec_l6List.h9 (k : Nat) (x0 : (List Entry)) (x1 : Int) : (spec_l6List.p9 (k + 1) x0 x1 : Option (denR (outTys spec_l6List.g.rts spec_l6List.g.pms))) = evAt (spec_l6List.E k) (fun κ s => lhOf k κ s spec_l6List.pts) 9 b130 (unproj spec_l6List.s9 (x0, x1, ())) (OM.fin spec_l6List.g Try.f130.results.toList) := by kernel_rfl
theorem spec_l6List.hf (k : Nat) (a0 : (List Entry)) (a1 : Int) : (spec_l6List.f k a0 a1 : Option (denR (outTys spec_l6List.g.rts spec_l6List.g.pms))) = evC (spec_l6List.E k) (fun κ s => lhOf k κ s spec_l6List.pts) b130 (OM.start spec_l6List.g.pms 0 (a0, a1, ())) (OM.fin spec_l6List.g Try.f130.results.toList) := by kernel_rfl
theorem spec_l6List.ok (k : Nat) : SmOk Try.prog (spec_l6List.sm k) :=
  sm_ok mixed (E := spec_l6List.E) (pts := spec_l6List.pts) (fun k => ⟨⟨tysOk, by kernel_rfl⟩, forall_cons ⟨spec_EntryOk.ok k, e81⟩ (forall_nil)⟩) (fun _ => rfl) (fun _ => rfl)
    ⟨Try.func130, by kernel_rfl, by kernel_rfl, by kernel_rfl, by kernel_rfl, by kernel_rfl, by kernel_rfl⟩ (forall_cons (fun x => ⟨rfl, fun k => spec_l6List.h9 k x.1 x.2.1⟩) (forall_nil)) (fun k x => spec_l6List.hf k x.1 x.2.1) k
noncomputable def b80 : Code := Try.f80.body.getD .skip
theorem e80 : OM.Entry Try.prog 80 := ⟨_, Try.func80, by kernel_rfl, by kernel_rfl⟩
@[reducible] noncomputable def spec_l6Asc.g : Sig := ⟨[.fz (.sl tEntry)], [.v .bool .z], []⟩
@[reducible] noncomputable def spec_l6Asc.fk : Nat → denI spec_l6Asc.g.pms → Option (denR (outTys spec_l6Asc.g.rts spec_l6Asc.g.pms)) := fun k x => spec_l6Asc.f k x.1
@[reducible] noncomputable def spec_l6Asc.sm (k : Nat) : Sm := ⟨80, spec_l6Asc.g.pms, spec_l6Asc.g.rts, spec_l6Asc.fk k⟩
noncomputable def spec_l6Asc.E (k : Nat) : Env := ⟨tys, [], [], [], []⟩
@[reducible] noncomputable def spec_l6Asc.s5 : List Slot := [.v 0 (.sl tEntry) .z [] 0, .v 12 (.int .i64) .z [] 0]
noncomputable def spec_l6Asc.pts : List (Pt (denR (outTys spec_l6Asc.g.rts spec_l6Asc.g.pms))) := [⟨5, spec_l6Asc.s5, fun k x => spec_l6Asc.p5 k x.1 x.2.1⟩]
theorem spec_l6Asc.h5 (k : Nat) (x0 : (List Entry)) (x1 : Int) : (spec_l6Asc.p5 (k + 1) x0 x1 : Option (denR (outTys spec_l6Asc.g.rts spec_l6Asc.g.pms))) = evAt (spec_l6Asc.E k) (fun κ s => lhOf k κ s spec_l6Asc.pts) 5 b80 (unproj spec_l6Asc.s5 (x0, x1, ())) (OM.fin spec_l6Asc.g Try.f80.results.toList) := by kernel_rfl
theorem spec_l6Asc.hf (k : Nat) (a0 : (List Entry)) : (spec_l6Asc.f k a0 : Option (denR (outTys spec_l6Asc.g.rts spec_l6Asc.g.pms))) = evC (spec_l6Asc.E k) (fun κ s => lhOf k κ s spec_l6Asc.pts) b80 (OM.start spec_l6Asc.g.pms 0 (a0, ())) (OM.fin spec_l6Asc.g Try.f80.results.toList) := by kernel_rfl
theorem spec_l6Asc.ok (k : Nat) : SmOk Try.prog (spec_l6Asc.sm k) :=
  sm_ok mixed (E := spec_l6Asc.E) (pts := spec_l6Asc.pts) (fun k => ⟨⟨tysOk, by kernel_rfl⟩, forall_nil⟩) (fun _ => rfl) (fun _ => rfl)
    ⟨Try.func80, by kernel_rfl, by kernel_rfl, by kernel_rfl, by kernel_rfl, by kernel_rfl, by kernel_rfl⟩ (forall_cons (fun x => ⟨rfl, fun k => spec_l6Asc.h5 k x.1 x.2.1⟩) (forall_nil)) (fun k x => spec_l6Asc.hf k x.1) k
noncomputable def b91 : Code := Try.f91.body.getD .skip
theorem e91 : OM.Entry Try.prog 91 := ⟨_, Try.func91, by kernel_rfl, by kernel_rfl⟩
@[reducible] noncomputable def spec_StoreOk.g : Sig := ⟨[.fz tStore], [.v .bool .z], []⟩
@[reducible] noncomputable def spec_StoreOk.fk : Nat → denI spec_StoreOk.g.pms → Option (denR (outTys spec_StoreOk.g.rts spec_StoreOk.g.pms)) := fun k x => spec_StoreOk.f k x.1
@[reducible] noncomputable def spec_StoreOk.sm (k : Nat) : Sm := ⟨91, spec_StoreOk.g.pms, spec_StoreOk.g.rts, spec_StoreOk.fk k⟩
noncomputable def spec_StoreOk.E (k : Nat) : Env := ⟨tys, [spec_l1In.sm k, spec_l6List.sm k, spec_l6Asc.sm k], [], [], []⟩
noncomputable def spec_StoreOk.pts : List (Pt (denR (outTys spec_StoreOk.g.rts spec_StoreOk.g.pms))) := []
theorem spec_StoreOk.hf (k : Nat) (a0 : Store) : (spec_StoreOk.f k a0 : Option (denR (outTys spec_StoreOk.g.rts spec_StoreOk.g.pms))) = evC (spec_StoreOk.E k) (fun κ s => lhOf k κ s spec_StoreOk.pts) b91 (OM.start spec_StoreOk.g.pms 0 (a0, ())) (OM.fin spec_StoreOk.g Try.f91.results.toList) := by kernel_rfl
theorem spec_StoreOk.ok (k : Nat) : SmOk Try.prog (spec_StoreOk.sm k) :=
  sm_ok mixed (E := spec_StoreOk.E) (pts := spec_StoreOk.pts) (fun k => ⟨⟨tysOk, by kernel_rfl⟩, forall_cons ⟨spec_l1In.ok k, e55⟩ (forall_cons ⟨spec_l6List.ok k, e130⟩ (forall_cons ⟨spec_l6Asc.ok k, e80⟩ (forall_nil)))⟩) (fun _ => rfl) (fun _ => rfl)
    ⟨Try.func91, by kernel_rfl, by kernel_rfl, by kernel_rfl, by kernel_rfl, by kernel_rfl, by kernel_rfl⟩ (forall_nil) (fun k x => spec_StoreOk.hf k x.1) k
noncomputable def b28 : Code := Try.f28.body.getD .skip
theorem e28 : OM.Entry Try.prog 28 := ⟨_, Try.func28, by kernel_rfl, by kernel_rfl⟩
@[reducible] noncomputable def spec_StoreRead.g : Sig := ⟨[.fz (.sl (.int .u8))], [.v tStore (.two (.own .z) (.two (.own .a) .z)), .v .bool .z], []⟩
@[reducible] noncomputable def spec_StoreRead.fk : Nat → denI spec_StoreRead.g.pms → Option (denR (outTys spec_StoreRead.g.rts spec_StoreRead.g.pms)) := fun k x => spec_StoreRead.f k x.1
@[reducible] noncomputable def spec_StoreRead.sm (k : Nat) : Sm := ⟨28, spec_StoreRead.g.pms, spec_StoreRead.g.rts, spec_StoreRead.fk k⟩
noncomputable def spec_StoreRead.E (k : Nat) : Env := ⟨tys, [spec_GetNum.sm k, spec_EntryRead.sm k, spec_StoreOk.sm k], [29, 48, 52, 53], [13], []⟩
@[reducible] noncomputable def spec_StoreRead.s15 : List Slot := [.v 0 (.sl (.int .u8)) .z [] 0, .r 8 9 [] tStore, .v 20 (.int .i64) .z [] 0, .v 24 .bool .z [] 0, .v 28 (.int .i64) .z [] 0, .r 32 33 [] tStore, .v 36 (.int .i64) .z [] 0, .v 9 tStore (.two (.own .a) (.two (.own .a) .z)) [] 0, .v 33 tStore (.two (.own .z) (.two (.own .a) .z)) [] 0]
@[reducible] noncomputable def spec_StoreRead.s26 : List Slot := [.v 0 (.sl (.int .u8)) .z [] 0, .r 8 9 [] tStore, .v 20 (.int .i64) .z [] 0, .v 24 .bool .z [] 0, .r 32 33 [] tStore, .v 9 tStore (.two (.own .a) (.two (.own .a) .z)) [] 0, .v 33 tStore (.two (.own .z) (.two (.own .a) .z)) [] 0]
noncomputable def spec_StoreRead.pts : List (Pt (denR (outTys spec_StoreRead.g.rts spec_StoreRead.g.pms))) := [⟨15, spec_StoreRead.s15, fun k x => spec_StoreRead.p15 k x.1 x.2.1 x.2.2.1 x.2.2.2.1 x.2.2.2.2.1 x.2.2.2.2.2.1 x.2.2.2.2.2.2.1⟩, ⟨26, spec_StoreRead.s26, fun k x => spec_StoreRead.p26 k x.1 x.2.1 x.2.2.1 x.2.2.2.1 x.2.2.2.2.1⟩]
theorem spec_StoreRead.h15 (k : Nat) (x0 : (List Int)) (x1 : Int) (x2 : Bool) (x3 : Int) (x4 : Int) (x5 : Store) (x6 : Store) : (spec_StoreRead.p15 (k + 1) x0 x1 x2 x3 x4 x5 x6 : Option (denR (outTys spec_StoreRead.g.rts spec_StoreRead.g.pms))) = evAt (spec_StoreRead.E k) (fun κ s => lhOf k κ s spec_StoreRead.pts) 15 b28 (unproj spec_StoreRead.s15 (x0, x1, x2, x3, x4, x5, x6, ())) (OM.fin spec_StoreRead.g Try.f28.results.toList) := by kernel_rfl
theorem spec_StoreRead.h26 (k : Nat) (x0 : (List Int)) (x1 : Int) (x2 : Bool) (x3 : Store) (x4 : Store) : (spec_StoreRead.p26 (k + 1) x0 x1 x2 x3 x4 : Option (denR (outTys spec_StoreRead.g.rts spec_StoreRead.g.pms))) = evAt (spec_StoreRead.E k) (fun κ s => lhOf k κ s spec_StoreRead.pts) 26 b28 (unproj spec_StoreRead.s26 (x0, x1, x2, x3, x4, ())) (OM.fin spec_StoreRead.g Try.f28.results.toList) := by kernel_rfl
theorem spec_StoreRead.hf (k : Nat) (a0 : (List Int)) : (spec_StoreRead.f k a0 : Option (denR (outTys spec_StoreRead.g.rts spec_StoreRead.g.pms))) = evC (spec_StoreRead.E k) (fun κ s => lhOf k κ s spec_StoreRead.pts) b28 (OM.start spec_StoreRead.g.pms 0 (a0, ())) (OM.fin spec_StoreRead.g Try.f28.results.toList) := by kernel_rfl
theorem spec_StoreRead.ok (k : Nat) : SmOk Try.prog (spec_StoreRead.sm k) :=
  sm_ok mixed (E := spec_StoreRead.E) (pts := spec_StoreRead.pts) (fun k => ⟨⟨tysOk, by kernel_rfl⟩, forall_cons ⟨spec_GetNum.ok k, e89⟩ (forall_cons ⟨spec_EntryRead.ok k, e90⟩ (forall_cons ⟨spec_StoreOk.ok k, e91⟩ (forall_nil)))⟩) (fun _ => rfl) (fun _ => rfl)
    ⟨Try.func28, by kernel_rfl, by kernel_rfl, by kernel_rfl, by kernel_rfl, by kernel_rfl, by kernel_rfl⟩ (forall_cons (fun x => ⟨rfl, fun k => spec_StoreRead.h15 k x.1 x.2.1 x.2.2.1 x.2.2.2.1 x.2.2.2.2.1 x.2.2.2.2.2.1 x.2.2.2.2.2.2.1⟩) (forall_cons (fun x => ⟨rfl, fun k => spec_StoreRead.h26 k x.1 x.2.1 x.2.2.1 x.2.2.2.1 x.2.2.2.2.1⟩) (forall_nil))) (fun k x => spec_StoreRead.hf k x.1) k
noncomputable def b131 : Code := Try.f131.body.getD .skip
theorem e131 : OM.Entry Try.prog 131 := ⟨_, Try.func131, by kernel_rfl, by kernel_rfl⟩
@[reducible] noncomputable def impl_GetNum.g : Sig := ⟨[.fz (.sl (.int .u8)), .fz (.int .i64)], [.v (.int .i64) .z, .v (.int .i64) .z, .v .bool .z], []⟩
@[reducible] noncomputable def impl_GetNum.fk : Nat → denI impl_GetNum.g.pms → Option (denR (outTys impl_GetNum.g.rts impl_GetNum.g.pms)) := fun k x => impl_GetNum.f k x.1 x.2.1
@[reducible] noncomputable def impl_GetNum.sm (k : Nat) : Sm := ⟨131, impl_GetNum.g.pms, impl_GetNum.g.rts, impl_GetNum.fk k⟩
noncomputable def impl_GetNum.E (k : Nat) : Env := ⟨tys, [], [], [], []⟩
@[reducible] noncomputable def impl_GetNum.s11 : List Slot := [.v 0 (.sl (.int .u8)) .z [] 0, .v 4 (.int .i64) .z [] 0, .v 28 (.int .i64) .z [] 0, .v 32 (.int .i64) .z [] 0]
noncomputable def impl_GetNum.pts : List (Pt (denR (outTys impl_GetNum.g.rts impl_GetNum.g.pms))) := [⟨11, impl_GetNum.s11, fun k x => impl_GetNum.p11 k x.1 x.2.1 x.2.2.1 x.2.2.2.1⟩]
theorem impl_GetNum.h11 (k : Nat) (x0 : (List Int)) (x1 : Int) (x2 : Int) (x3 : Int) : (impl_GetNum.p11 (k + 1) x0 x1 x2 x3 : Option (denR (outTys impl_GetNum.g.rts impl_GetNum.g.pms))) = evAt (impl_GetNum.E k) (fun κ s => lhOf k κ s impl_GetNum.pts) 11 b131 (unproj impl_GetNum.s11 (x0, x1, x2, x3, ())) (OM.fin impl_GetNum.g Try.f131.results.toList) := by kernel_rfl
theorem impl_GetNum.hf (k : Nat) (a0 : (List Int)) (a1 : Int) : (impl_GetNum.f k a0 a1 : Option (denR (outTys impl_GetNum.g.rts impl_GetNum.g.pms))) = evC (impl_GetNum.E k) (fun κ s => lhOf k κ s impl_GetNum.pts) b131 (OM.start impl_GetNum.g.pms 0 (a0, a1, ())) (OM.fin impl_GetNum.g Try.f131.results.toList) := by kernel_rfl
theorem impl_GetNum.ok (k : Nat) : SmOk Try.prog (impl_GetNum.sm k) :=
  sm_ok mixed (E := impl_GetNum.E) (pts := impl_GetNum.pts) (fun k => ⟨⟨tysOk, by kernel_rfl⟩, forall_nil⟩) (fun _ => rfl) (fun _ => rfl)
    ⟨Try.func131, by kernel_rfl, by kernel_rfl, by kernel_rfl, by kernel_rfl, by kernel_rfl, by kernel_rfl⟩ (forall_cons (fun x => ⟨rfl, fun k => impl_GetNum.h11 k x.1 x.2.1 x.2.2.1 x.2.2.2.1⟩) (forall_nil)) (fun k x => impl_GetNum.hf k x.1 x.2.1) k
noncomputable def b92 : Code := Try.f92.body.getD .skip
theorem e92 : OM.Entry Try.prog 92 := ⟨_, Try.func92, by kernel_rfl, by kernel_rfl⟩
@[reducible] noncomputable def impl_reader_num.g : Sig := ⟨[.ptr treader .z .z], [.v (.int .i64) .z], []⟩
@[reducible] noncomputable def impl_reader_num.fk : Nat → denI impl_reader_num.g.pms → Option (denR (outTys impl_reader_num.g.rts impl_reader_num.g.pms)) := fun k x => impl_reader_num.f k x.1
@[reducible] noncomputable def impl_reader_num.sm (k : Nat) : Sm := ⟨92, impl_reader_num.g.pms, impl_reader_num.g.rts, impl_reader_num.fk k⟩
noncomputable def impl_reader_num.E (k : Nat) : Env := ⟨tys, [impl_GetNum.sm k], [31], [], []⟩
noncomputable def impl_reader_num.pts : List (Pt (denR (outTys impl_reader_num.g.rts impl_reader_num.g.pms))) := []
theorem impl_reader_num.hf (k : Nat) (a0 : reader) : (impl_reader_num.f k a0 : Option (denR (outTys impl_reader_num.g.rts impl_reader_num.g.pms))) = evC (impl_reader_num.E k) (fun κ s => lhOf k κ s impl_reader_num.pts) b92 (OM.start impl_reader_num.g.pms 0 (a0, ())) (OM.fin impl_reader_num.g Try.f92.results.toList) := by kernel_rfl
theorem impl_reader_num.ok (k : Nat) : SmOk Try.prog (impl_reader_num.sm k) :=
  sm_ok mixed (E := impl_reader_num.E) (pts := impl_reader_num.pts) (fun k => ⟨⟨tysOk, by kernel_rfl⟩, forall_cons ⟨impl_GetNum.ok k, e131⟩ (forall_nil)⟩) (fun _ => rfl) (fun _ => rfl)
    ⟨Try.func92, by kernel_rfl, by kernel_rfl, by kernel_rfl, by kernel_rfl, by kernel_rfl, by kernel_rfl⟩ (forall_nil) (fun k x => impl_reader_num.hf k x.1) k
noncomputable def b93 : Code := Try.f93.body.getD .skip
theorem e93 : OM.Entry Try.prog 93 := ⟨_, Try.func93, by kernel_rfl, by kernel_rfl⟩
@[reducible] noncomputable def impl_reader_count.g : Sig := ⟨[.ptr treader .z .z, .fz (.int .i64)], [.v (.int .i64) .z], []⟩
@[reducible] noncomputable def impl_reader_count.fk : Nat → denI impl_reader_count.g.pms → Option (denR (outTys impl_reader_count.g.rts impl_reader_count.g.pms)) := fun k x => impl_reader_count.f k x.1 x.2.1
@[reducible] noncomputable def impl_reader_count.sm (k : Nat) : Sm := ⟨93, impl_reader_count.g.pms, impl_reader_count.g.rts, impl_reader_count.fk k⟩
noncomputable def impl_reader_count.E (k : Nat) : Env := ⟨tys, [impl_reader_num.sm k], [], [], []⟩
noncomputable def impl_reader_count.pts : List (Pt (denR (outTys impl_reader_count.g.rts impl_reader_count.g.pms))) := []
theorem impl_reader_count.hf (k : Nat) (a0 : reader) (a1 : Int) : (impl_reader_count.f k a0 a1 : Option (denR (outTys impl_reader_count.g.rts impl_reader_count.g.pms))) = evC (impl_reader_count.E k) (fun κ s => lhOf k κ s impl_reader_count.pts) b93 (OM.start impl_reader_count.g.pms 0 (a0, a1, ())) (OM.fin impl_reader_count.g Try.f93.results.toList) := by kernel_rfl
theorem impl_reader_count.ok (k : Nat) : SmOk Try.prog (impl_reader_count.sm k) :=
  sm_ok mixed (E := impl_reader_count.E) (pts := impl_reader_count.pts) (fun k => ⟨⟨tysOk, by kernel_rfl⟩, forall_cons ⟨impl_reader_num.ok k, e92⟩ (forall_nil)⟩) (fun _ => rfl) (fun _ => rfl)
    ⟨Try.func93, by kernel_rfl, by kernel_rfl, by kernel_rfl, by kernel_rfl, by kernel_rfl, by kernel_rfl⟩ (forall_nil) (fun k x => impl_reader_count.hf k x.1 x.2.1) k
noncomputable def b95 : Code := Try.f95.body.getD .skip
theorem e95 : OM.Entry Try.prog 95 := ⟨_, Try.func95, by kernel_rfl, by kernel_rfl⟩
@[reducible] noncomputable def impl_reader_done.g : Sig := ⟨[.ptr treader .z .z], [.v .bool .z], []⟩
@[reducible] noncomputable def impl_reader_done.fk : Nat → denI impl_reader_done.g.pms → Option (denR (outTys impl_reader_done.g.rts impl_reader_done.g.pms)) := fun k x => impl_reader_done.f x.1
@[reducible] noncomputable def impl_reader_done.sm (k : Nat) : Sm := ⟨95, impl_reader_done.g.pms, impl_reader_done.g.rts, impl_reader_done.fk k⟩
noncomputable def impl_reader_done.E (k : Nat) : Env := ⟨tys, [], [], [], []⟩
noncomputable def impl_reader_done.pts : List (Pt (denR (outTys impl_reader_done.g.rts impl_reader_done.g.pms))) := []
theorem impl_reader_done.hf (k : Nat) (a0 : reader) : (impl_reader_done.f a0 : Option (denR (outTys impl_reader_done.g.rts impl_reader_done.g.pms))) = evC (impl_reader_done.E k) (fun κ s => lhOf k κ s impl_reader_done.pts) b95 (OM.start impl_reader_done.g.pms 0 (a0, ())) (OM.fin impl_reader_done.g Try.f95.results.toList) := by kernel_rfl
theorem impl_reader_done.ok (k : Nat) : SmOk Try.prog (impl_reader_done.sm k) :=
  sm_ok mixed (E := impl_reader_done.E) (pts := impl_reader_done.pts) (fun k => ⟨⟨tysOk, by kernel_rfl⟩, forall_nil⟩) (fun _ => rfl) (fun _ => rfl)
    ⟨Try.func95, by kernel_rfl, by kernel_rfl, by kernel_rfl, by kernel_rfl, by kernel_rfl, by kernel_rfl⟩ (forall_nil) (fun k x => impl_reader_done.hf k x.1) k
noncomputable def b58 : Code := Try.f58.body.getD .skip
theorem e58 : OM.Entry Try.prog 58 := ⟨_, Try.func58, by kernel_rfl, by kernel_rfl⟩
@[reducible] noncomputable def impl_within.g : Sig := ⟨[.fz (.int .i64), .fz (.int .i64), .fz (.int .i64)], [.v .bool .z], []⟩
@[reducible] noncomputable def impl_within.fk : Nat → denI impl_within.g.pms → Option (denR (outTys impl_within.g.rts impl_within.g.pms)) := fun k x => impl_within.f x.1 x.2.1 x.2.2.1
@[reducible] noncomputable def impl_within.sm (k : Nat) : Sm := ⟨58, impl_within.g.pms, impl_within.g.rts, impl_within.fk k⟩
noncomputable def impl_within.E (k : Nat) : Env := ⟨tys, [], [], [], []⟩
noncomputable def impl_within.pts : List (Pt (denR (outTys impl_within.g.rts impl_within.g.pms))) := []
theorem impl_within.hf (k : Nat) (a0 : Int) (a1 : Int) (a2 : Int) : (impl_within.f a0 a1 a2 : Option (denR (outTys impl_within.g.rts impl_within.g.pms))) = evC (impl_within.E k) (fun κ s => lhOf k κ s impl_within.pts) b58 (OM.start impl_within.g.pms 0 (a0, a1, a2, ())) (OM.fin impl_within.g Try.f58.results.toList) := by kernel_rfl
theorem impl_within.ok (k : Nat) : SmOk Try.prog (impl_within.sm k) :=
  sm_ok mixed (E := impl_within.E) (pts := impl_within.pts) (fun k => ⟨⟨tysOk, by kernel_rfl⟩, forall_nil⟩) (fun _ => rfl) (fun _ => rfl)
    ⟨Try.func58, by kernel_rfl, by kernel_rfl, by kernel_rfl, by kernel_rfl, by kernel_rfl, by kernel_rfl⟩ (forall_nil) (fun k x => impl_within.hf k x.1 x.2.1 x.2.2.1) k
noncomputable def b76 : Code := Try.f76.body.getD .skip
theorem e76 : OM.Entry Try.prog 76 := ⟨_, Try.func76, by kernel_rfl, by kernel_rfl⟩
@[reducible] noncomputable def impl_isEpoch.g : Sig := ⟨[.fz (.int .i64)], [.v .bool .z], []⟩
@[reducible] noncomputable def impl_isEpoch.fk : Nat → denI impl_isEpoch.g.pms → Option (denR (outTys impl_isEpoch.g.rts impl_isEpoch.g.pms)) := fun k x => impl_isEpoch.f x.1
@[reducible] noncomputable def impl_isEpoch.sm (k : Nat) : Sm := ⟨76, impl_isEpoch.g.pms, impl_isEpoch.g.rts, impl_isEpoch.fk k⟩
noncomputable def impl_isEpoch.E (k : Nat) : Env := ⟨tys, [impl_within.sm k], [], [], []⟩
noncomputable def impl_isEpoch.pts : List (Pt (denR (outTys impl_isEpoch.g.rts impl_isEpoch.g.pms))) := []
theorem impl_isEpoch.hf (k : Nat) (a0 : Int) : (impl_isEpoch.f a0 : Option (denR (outTys impl_isEpoch.g.rts impl_isEpoch.g.pms))) = evC (impl_isEpoch.E k) (fun κ s => lhOf k κ s impl_isEpoch.pts) b76 (OM.start impl_isEpoch.g.pms 0 (a0, ())) (OM.fin impl_isEpoch.g Try.f76.results.toList) := by kernel_rfl
theorem impl_isEpoch.ok (k : Nat) : SmOk Try.prog (impl_isEpoch.sm k) :=
  sm_ok mixed (E := impl_isEpoch.E) (pts := impl_isEpoch.pts) (fun k => ⟨⟨tysOk, by kernel_rfl⟩, forall_cons ⟨impl_within.ok k, e58⟩ (forall_nil)⟩) (fun _ => rfl) (fun _ => rfl)
    ⟨Try.func76, by kernel_rfl, by kernel_rfl, by kernel_rfl, by kernel_rfl, by kernel_rfl, by kernel_rfl⟩ (forall_nil) (fun k x => impl_isEpoch.hf k x.1) k
noncomputable def b140 : Code := Try.f140.body.getD .skip
theorem e140 : OM.Entry Try.prog 140 := ⟨_, Try.func140, by kernel_rfl, by kernel_rfl⟩
@[reducible] noncomputable def impl_isOff.g : Sig := ⟨[.fz (.int .i64)], [.v .bool .z], []⟩
@[reducible] noncomputable def impl_isOff.fk : Nat → denI impl_isOff.g.pms → Option (denR (outTys impl_isOff.g.rts impl_isOff.g.pms)) := fun k x => impl_isOff.f x.1
@[reducible] noncomputable def impl_isOff.sm (k : Nat) : Sm := ⟨140, impl_isOff.g.pms, impl_isOff.g.rts, impl_isOff.fk k⟩
noncomputable def impl_isOff.E (k : Nat) : Env := ⟨tys, [impl_within.sm k], [], [], []⟩
noncomputable def impl_isOff.pts : List (Pt (denR (outTys impl_isOff.g.rts impl_isOff.g.pms))) := []
theorem impl_isOff.hf (k : Nat) (a0 : Int) : (impl_isOff.f a0 : Option (denR (outTys impl_isOff.g.rts impl_isOff.g.pms))) = evC (impl_isOff.E k) (fun κ s => lhOf k κ s impl_isOff.pts) b140 (OM.start impl_isOff.g.pms 0 (a0, ())) (OM.fin impl_isOff.g Try.f140.results.toList) := by kernel_rfl
theorem impl_isOff.ok (k : Nat) : SmOk Try.prog (impl_isOff.sm k) :=
  sm_ok mixed (E := impl_isOff.E) (pts := impl_isOff.pts) (fun k => ⟨⟨tysOk, by kernel_rfl⟩, forall_cons ⟨impl_within.ok k, e58⟩ (forall_nil)⟩) (fun _ => rfl) (fun _ => rfl)
    ⟨Try.func140, by kernel_rfl, by kernel_rfl, by kernel_rfl, by kernel_rfl, by kernel_rfl, by kernel_rfl⟩ (forall_nil) (fun k x => impl_isOff.hf k x.1) k
noncomputable def b113 : Code := Try.f113.body.getD .skip
theorem e113 : OM.Entry Try.prog 113 := ⟨_, Try.func113, by kernel_rfl, by kernel_rfl⟩
@[reducible] noncomputable def impl_PlaceOk.g : Sig := ⟨[.fz (.int .i64)], [.v .bool .z], []⟩
@[reducible] noncomputable def impl_PlaceOk.fk : Nat → denI impl_PlaceOk.g.pms → Option (denR (outTys impl_PlaceOk.g.rts impl_PlaceOk.g.pms)) := fun k x => impl_PlaceOk.f x.1
@[reducible] noncomputable def impl_PlaceOk.sm (k : Nat) : Sm := ⟨113, impl_PlaceOk.g.pms, impl_PlaceOk.g.rts, impl_PlaceOk.fk k⟩
noncomputable def impl_PlaceOk.E (k : Nat) : Env := ⟨tys, [impl_isEpoch.sm k, impl_isOff.sm k], [], [], []⟩
noncomputable def impl_PlaceOk.pts : List (Pt (denR (outTys impl_PlaceOk.g.rts impl_PlaceOk.g.pms))) := []
theorem impl_PlaceOk.hf (k : Nat) (a0 : Int) : (impl_PlaceOk.f a0 : Option (denR (outTys impl_PlaceOk.g.rts impl_PlaceOk.g.pms))) = evC (impl_PlaceOk.E k) (fun κ s => lhOf k κ s impl_PlaceOk.pts) b113 (OM.start impl_PlaceOk.g.pms 0 (a0, ())) (OM.fin impl_PlaceOk.g Try.f113.results.toList) := by kernel_rfl
theorem impl_PlaceOk.ok (k : Nat) : SmOk Try.prog (impl_PlaceOk.sm k) :=
  sm_ok mixed (E := impl_PlaceOk.E) (pts := impl_PlaceOk.pts) (fun k => ⟨⟨tysOk, by kernel_rfl⟩, forall_cons ⟨impl_isEpoch.ok k, e76⟩ (forall_cons ⟨impl_isOff.ok k, e140⟩ (forall_nil))⟩) (fun _ => rfl) (fun _ => rfl)
    ⟨Try.func113, by kernel_rfl, by kernel_rfl, by kernel_rfl, by kernel_rfl, by kernel_rfl, by kernel_rfl⟩ (forall_nil) (fun k x => impl_PlaceOk.hf k x.1) k
noncomputable def b72 : Code := Try.f72.body.getD .skip
theorem e72 : OM.Entry Try.prog 72 := ⟨_, Try.func72, by kernel_rfl, by kernel_rfl⟩
@[reducible] noncomputable def impl_dataOk.g : Sig := ⟨[.fz .str], [.v .bool .z], []⟩
@[reducible] noncomputable def impl_dataOk.fk : Nat → denI impl_dataOk.g.pms → Option (denR (outTys impl_dataOk.g.rts impl_dataOk.g.pms)) := fun k x => impl_dataOk.f x.1
@[reducible] noncomputable def impl_dataOk.sm (k : Nat) : Sm := ⟨72, impl_dataOk.g.pms, impl_dataOk.g.rts, impl_dataOk.fk k⟩
noncomputable def impl_dataOk.E (k : Nat) : Env := ⟨tys, [], [], [], []⟩
noncomputable def impl_dataOk.pts : List (Pt (denR (outTys impl_dataOk.g.rts impl_dataOk.g.pms))) := []
theorem impl_dataOk.hf (k : Nat) (a0 : ByteArray) : (impl_dataOk.f a0 : Option (denR (outTys impl_dataOk.g.rts impl_dataOk.g.pms))) = evC (impl_dataOk.E k) (fun κ s => lhOf k κ s impl_dataOk.pts) b72 (OM.start impl_dataOk.g.pms 0 (a0, ())) (OM.fin impl_dataOk.g Try.f72.results.toList) := by kernel_rfl
theorem impl_dataOk.ok (k : Nat) : SmOk Try.prog (impl_dataOk.sm k) :=
  sm_ok mixed (E := impl_dataOk.E) (pts := impl_dataOk.pts) (fun k => ⟨⟨tysOk, by kernel_rfl⟩, forall_nil⟩) (fun _ => rfl) (fun _ => rfl)
    ⟨Try.func72, by kernel_rfl, by kernel_rfl, by kernel_rfl, by kernel_rfl, by kernel_rfl, by kernel_rfl⟩ (forall_nil) (fun k x => impl_dataOk.hf k x.1) k
noncomputable def b59 : Code := Try.f59.body.getD .skip
theorem e59 : OM.Entry Try.prog 59 := ⟨_, Try.func59, by kernel_rfl, by kernel_rfl⟩
@[reducible] noncomputable def impl_EpochOf.g : Sig := ⟨[.fz (.int .i64)], [.v (.int .i64) .z], []⟩
@[reducible] noncomputable def impl_EpochOf.fk : Nat → denI impl_EpochOf.g.pms → Option (denR (outTys impl_EpochOf.g.rts impl_EpochOf.g.pms)) := fun k x => impl_EpochOf.f x.1
@[reducible] noncomputable def impl_EpochOf.sm (k : Nat) : Sm := ⟨59, impl_EpochOf.g.pms, impl_EpochOf.g.rts, impl_EpochOf.fk k⟩
noncomputable def impl_EpochOf.E (k : Nat) : Env := ⟨tys, [impl_PlaceOk.sm k], [], [], []⟩
noncomputable def impl_EpochOf.pts : List (Pt (denR (outTys impl_EpochOf.g.rts impl_EpochOf.g.pms))) := []
theorem impl_EpochOf.hf (k : Nat) (a0 : Int) : (impl_EpochOf.f a0 : Option (denR (outTys impl_EpochOf.g.rts impl_EpochOf.g.pms))) = evC (impl_EpochOf.E k) (fun κ s => lhOf k κ s impl_EpochOf.pts) b59 (OM.start impl_EpochOf.g.pms 0 (a0, ())) (OM.fin impl_EpochOf.g Try.f59.results.toList) := by kernel_rfl
theorem impl_EpochOf.ok (k : Nat) : SmOk Try.prog (impl_EpochOf.sm k) :=
  sm_ok mixed (E := impl_EpochOf.E) (pts := impl_EpochOf.pts) (fun k => ⟨⟨tysOk, by kernel_rfl⟩, forall_cons ⟨impl_PlaceOk.ok k, e113⟩ (forall_nil)⟩) (fun _ => rfl) (fun _ => rfl)
    ⟨Try.func59, by kernel_rfl, by kernel_rfl, by kernel_rfl, by kernel_rfl, by kernel_rfl, by kernel_rfl⟩ (forall_nil) (fun k x => impl_EpochOf.hf k x.1) k
noncomputable def b126 : Code := Try.f126.body.getD .skip
theorem e126 : OM.Entry Try.prog 126 := ⟨_, Try.func126, by kernel_rfl, by kernel_rfl⟩
@[reducible] noncomputable def impl_EntryOk.g : Sig := ⟨[.fz tEntry], [.v .bool .z], []⟩
@[reducible] noncomputable def impl_EntryOk.fk : Nat → denI impl_EntryOk.g.pms → Option (denR (outTys impl_EntryOk.g.rts impl_EntryOk.g.pms)) := fun k x => impl_EntryOk.f k x.1
@[reducible] noncomputable def impl_EntryOk.sm (k : Nat) : Sm := ⟨126, impl_EntryOk.g.pms, impl_EntryOk.g.rts, impl_EntryOk.fk k⟩
noncomputable def impl_EntryOk.E (k : Nat) : Env := ⟨tys, [impl_within.sm k, impl_PlaceOk.sm k, impl_dataOk.sm k, impl_EpochOf.sm k], [], [2, 3], []⟩
@[reducible] noncomputable def impl_EntryOk.s4 : List Slot := [.r 4 5 [] tEntry, .v 12 .bool .z [] 0, .v 5 tEntry .z [] 0]
@[reducible] noncomputable def impl_EntryOk.s6 : List Slot := [.r 4 5 [] tEntry, .v 12 .bool .z [] 0, .v 16 .bool .z [] 0, .v 5 tEntry .z [] 0]
noncomputable def impl_EntryOk.pts : List (Pt (denR (outTys impl_EntryOk.g.rts impl_EntryOk.g.pms))) := [⟨4, impl_EntryOk.s4, fun k x => impl_EntryOk.p4 k x.1 x.2.1⟩, ⟨6, impl_EntryOk.s6, fun k x => impl_EntryOk.p6 k x.1 x.2.1 x.2.2.1⟩]
theorem impl_EntryOk.h4 (k : Nat) (x0 : Bool) (x1 : Entry) : (impl_EntryOk.p4 (k + 1) x0 x1 : Option (denR (outTys impl_EntryOk.g.rts impl_EntryOk.g.pms))) = evAt (impl_EntryOk.E k) (fun κ s => lhOf k κ s impl_EntryOk.pts) 4 b126 (unproj impl_EntryOk.s4 (x0, x1, ())) (OM.fin impl_EntryOk.g Try.f126.results.toList) := by kernel_rfl
theorem impl_EntryOk.h6 (k : Nat) (x0 : Bool) (x1 : Bool) (x2 : Entry) : (impl_EntryOk.p6 (k + 1) x0 x1 x2 : Option (denR (outTys impl_EntryOk.g.rts impl_EntryOk.g.pms))) = evAt (impl_EntryOk.E k) (fun κ s => lhOf k κ s impl_EntryOk.pts) 6 b126 (unproj impl_EntryOk.s6 (x0, x1, x2, ())) (OM.fin impl_EntryOk.g Try.f126.results.toList) := by kernel_rfl
theorem impl_EntryOk.hf (k : Nat) (a0 : Entry) : (impl_EntryOk.f k a0 : Option (denR (outTys impl_EntryOk.g.rts impl_EntryOk.g.pms))) = evC (impl_EntryOk.E k) (fun κ s => lhOf k κ s impl_EntryOk.pts) b126 (OM.start impl_EntryOk.g.pms 0 (a0, ())) (OM.fin impl_EntryOk.g Try.f126.results.toList) := by kernel_rfl
theorem impl_EntryOk.ok (k : Nat) : SmOk Try.prog (impl_EntryOk.sm k) :=
  sm_ok mixed (E := impl_EntryOk.E) (pts := impl_EntryOk.pts) (fun k => ⟨⟨tysOk, by kernel_rfl⟩, forall_cons ⟨impl_within.ok k, e58⟩ (forall_cons ⟨impl_PlaceOk.ok k, e113⟩ (forall_cons ⟨impl_dataOk.ok k, e72⟩ (forall_cons ⟨impl_EpochOf.ok k, e59⟩ (forall_nil))))⟩) (fun _ => rfl) (fun _ => rfl)
    ⟨Try.func126, by kernel_rfl, by kernel_rfl, by kernel_rfl, by kernel_rfl, by kernel_rfl, by kernel_rfl⟩ (forall_cons (fun x => ⟨rfl, fun k => impl_EntryOk.h4 k x.1 x.2.1⟩) (forall_cons (fun x => ⟨rfl, fun k => impl_EntryOk.h6 k x.1 x.2.1 x.2.2.1⟩) (forall_nil))) (fun k x => impl_EntryOk.hf k x.1) k
noncomputable def b134 : Code := Try.f134.body.getD .skip
theorem e134 : OM.Entry Try.prog 134 := ⟨_, Try.func134, by kernel_rfl, by kernel_rfl⟩
@[reducible] noncomputable def impl_entriesOk.g : Sig := ⟨[.fz (.sl tEntry)], [.v .bool .z], []⟩
@[reducible] noncomputable def impl_entriesOk.fk : Nat → denI impl_entriesOk.g.pms → Option (denR (outTys impl_entriesOk.g.rts impl_entriesOk.g.pms)) := fun k x => impl_entriesOk.f k x.1
@[reducible] noncomputable def impl_entriesOk.sm (k : Nat) : Sm := ⟨134, impl_entriesOk.g.pms, impl_entriesOk.g.rts, impl_entriesOk.fk k⟩
noncomputable def impl_entriesOk.E (k : Nat) : Env := ⟨tys, [impl_EntryOk.sm k], [10], [], []⟩
@[reducible] noncomputable def impl_entriesOk.s5 : List Slot := [.v 20 (.sl tEntry) .z [] 0, .v 24 (.int .i64) .z [] 0, .v 28 (.int .i64) .z [] 0]
noncomputable def impl_entriesOk.pts : List (Pt (denR (outTys impl_entriesOk.g.rts impl_entriesOk.g.pms))) := [⟨5, impl_entriesOk.s5, fun k x => impl_entriesOk.p5 k x.1 x.2.1 x.2.2.1⟩]
theorem impl_entriesOk.h5 (k : Nat) (x0 : (List Entry)) (x1 : Int) (x2 : Int) : (impl_entriesOk.p5 (k + 1) x0 x1 x2 : Option (denR (outTys impl_entriesOk.g.rts impl_entriesOk.g.pms))) = evAt (impl_entriesOk.E k) (fun κ s => lhOf k κ s impl_entriesOk.pts) 5 b134 (unproj impl_entriesOk.s5 (x0, x1, x2, ())) (OM.fin impl_entriesOk.g Try.f134.results.toList) := by kernel_rfl
theorem impl_entriesOk.hf (k : Nat) (a0 : (List Entry)) : (impl_entriesOk.f k a0 : Option (denR (outTys impl_entriesOk.g.rts impl_entriesOk.g.pms))) = evC (impl_entriesOk.E k) (fun κ s => lhOf k κ s impl_entriesOk.pts) b134 (OM.start impl_entriesOk.g.pms 0 (a0, ())) (OM.fin impl_entriesOk.g Try.f134.results.toList) := by kernel_rfl
theorem impl_entriesOk.ok (k : Nat) : SmOk Try.prog (impl_entriesOk.sm k) :=
  sm_ok mixed (E := impl_entriesOk.E) (pts := impl_entriesOk.pts) (fun k => ⟨⟨tysOk, by kernel_rfl⟩, forall_cons ⟨impl_EntryOk.ok k, e126⟩ (forall_nil)⟩) (fun _ => rfl) (fun _ => rfl)
    ⟨Try.func134, by kernel_rfl, by kernel_rfl, by kernel_rfl, by kernel_rfl, by kernel_rfl, by kernel_rfl⟩ (forall_cons (fun x => ⟨rfl, fun k => impl_entriesOk.h5 k x.1 x.2.1 x.2.2.1⟩) (forall_nil)) (fun k x => impl_entriesOk.hf k x.1) k
noncomputable def b127 : Code := Try.f127.body.getD .skip
theorem e127 : OM.Entry Try.prog 127 := ⟨_, Try.func127, by kernel_rfl, by kernel_rfl⟩
@[reducible] noncomputable def impl_placesAscend.g : Sig := ⟨[.fz (.sl tEntry)], [.v .bool .z], []⟩
@[reducible] noncomputable def impl_placesAscend.fk : Nat → denI impl_placesAscend.g.pms → Option (denR (outTys impl_placesAscend.g.rts impl_placesAscend.g.pms)) := fun k x => impl_placesAscend.f k x.1
@[reducible] noncomputable def impl_placesAscend.sm (k : Nat) : Sm := ⟨127, impl_placesAscend.g.pms, impl_placesAscend.g.rts, impl_placesAscend.fk k⟩
noncomputable def impl_placesAscend.E (k : Nat) : Env := ⟨tys, [], [11], [], []⟩
@[reducible] noncomputable def impl_placesAscend.s5 : List Slot := [.v 0 (.sl tEntry) .z [] 0, .v 20 (.sl tEntry) .z [] 0, .v 24 (.int .i64) .z [] 0, .v 28 (.int .i64) .z [] 0]
noncomputable def impl_placesAscend.pts : List (Pt (denR (outTys impl_placesAscend.g.rts impl_placesAscend.g.pms))) := [⟨5, impl_placesAscend.s5, fun k x => impl_placesAscend.p5 k x.1 x.2.1 x.2.2.1 x.2.2.2.1⟩]
theorem impl_placesAscend.h5 (k : Nat) (x0 : (List Entry)) (x1 : (List Entry)) (x2 : Int) (x3 : Int) : (impl_placesAscend.p5 (k + 1) x0 x1 x2 x3 : Option (denR (outTys impl_placesAscend.g.rts impl_placesAscend.g.pms))) = evAt (impl_placesAscend.E k) (fun κ s => lhOf k κ s impl_placesAscend.pts) 5 b127 (unproj impl_placesAscend.s5 (x0, x1, x2, x3, ())) (OM.fin impl_placesAscend.g Try.f127.results.toList) := by kernel_rfl
theorem impl_placesAscend.hf (k : Nat) (a0 : (List Entry)) : (impl_placesAscend.f k a0 : Option (denR (outTys impl_placesAscend.g.rts impl_placesAscend.g.pms))) = evC (impl_placesAscend.E k) (fun κ s => lhOf k κ s impl_placesAscend.pts) b127 (OM.start impl_placesAscend.g.pms 0 (a0, ())) (OM.fin impl_placesAscend.g Try.f127.results.toList) := by kernel_rfl
theorem impl_placesAscend.ok (k : Nat) : SmOk Try.prog (impl_placesAscend.sm k) :=
  sm_ok mixed (E := impl_placesAscend.E) (pts := impl_placesAscend.pts) (fun k => ⟨⟨tysOk, by kernel_rfl⟩, forall_nil⟩) (fun _ => rfl) (fun _ => rfl)
    ⟨Try.func127, by kernel_rfl, by kernel_rfl, by kernel_rfl, by kernel_rfl, by kernel_rfl, by kernel_rfl⟩ (forall_cons (fun x => ⟨rfl, fun k => impl_placesAscend.h5 k x.1 x.2.1 x.2.2.1 x.2.2.2.1⟩) (forall_nil)) (fun k x => impl_placesAscend.hf k x.1) k
noncomputable def b96 : Code := Try.f96.body.getD .skip
theorem e96 : OM.Entry Try.prog 96 := ⟨_, Try.func96, by kernel_rfl, by kernel_rfl⟩
@[reducible] noncomputable def impl_StoreOk.g : Sig := ⟨[.fz tStore], [.v .bool .z], []⟩
@[reducible] noncomputable def impl_StoreOk.fk : Nat → denI impl_StoreOk.g.pms → Option (denR (outTys impl_StoreOk.g.rts impl_StoreOk.g.pms)) := fun k x => impl_StoreOk.f k x.1
@[reducible] noncomputable def impl_StoreOk.sm (k : Nat) : Sm := ⟨96, impl_StoreOk.g.pms, impl_StoreOk.g.rts, impl_StoreOk.fk k⟩
noncomputable def impl_StoreOk.E (k : Nat) : Env := ⟨tys, [impl_within.sm k, impl_entriesOk.sm k, impl_placesAscend.sm k], [], [], []⟩
noncomputable def impl_StoreOk.pts : List (Pt (denR (outTys impl_StoreOk.g.rts impl_StoreOk.g.pms))) := []
theorem impl_StoreOk.hf (k : Nat) (a0 : Store) : (impl_StoreOk.f k a0 : Option (denR (outTys impl_StoreOk.g.rts impl_StoreOk.g.pms))) = evC (impl_StoreOk.E k) (fun κ s => lhOf k κ s impl_StoreOk.pts) b96 (OM.start impl_StoreOk.g.pms 0 (a0, ())) (OM.fin impl_StoreOk.g Try.f96.results.toList) := by kernel_rfl
theorem impl_StoreOk.ok (k : Nat) : SmOk Try.prog (impl_StoreOk.sm k) :=
  sm_ok mixed (E := impl_StoreOk.E) (pts := impl_StoreOk.pts) (fun k => ⟨⟨tysOk, by kernel_rfl⟩, forall_cons ⟨impl_within.ok k, e58⟩ (forall_cons ⟨impl_entriesOk.ok k, e134⟩ (forall_cons ⟨impl_placesAscend.ok k, e127⟩ (forall_nil)))⟩) (fun _ => rfl) (fun _ => rfl)
    ⟨Try.func96, by kernel_rfl, by kernel_rfl, by kernel_rfl, by kernel_rfl, by kernel_rfl, by kernel_rfl⟩ (forall_nil) (fun k x => impl_StoreOk.hf k x.1) k
noncomputable def b132 : Code := Try.f132.body.getD .skip
theorem e132 : OM.Entry Try.prog 132 := ⟨_, Try.func132, by kernel_rfl, by kernel_rfl⟩
@[reducible] noncomputable def impl_reader_flag.g : Sig := ⟨[.ptr treader .z .z], [.v .bool .z], []⟩
@[reducible] noncomputable def impl_reader_flag.fk : Nat → denI impl_reader_flag.g.pms → Option (denR (outTys impl_reader_flag.g.rts impl_reader_flag.g.pms)) := fun k x => impl_reader_flag.f k x.1
@[reducible] noncomputable def impl_reader_flag.sm (k : Nat) : Sm := ⟨132, impl_reader_flag.g.pms, impl_reader_flag.g.rts, impl_reader_flag.fk k⟩
noncomputable def impl_reader_flag.E (k : Nat) : Env := ⟨tys, [impl_reader_count.sm k], [], [], []⟩
noncomputable def impl_reader_flag.pts : List (Pt (denR (outTys impl_reader_flag.g.rts impl_reader_flag.g.pms))) := []
theorem impl_reader_flag.hf (k : Nat) (a0 : reader) : (impl_reader_flag.f k a0 : Option (denR (outTys impl_reader_flag.g.rts impl_reader_flag.g.pms))) = evC (impl_reader_flag.E k) (fun κ s => lhOf k κ s impl_reader_flag.pts) b132 (OM.start impl_reader_flag.g.pms 0 (a0, ())) (OM.fin impl_reader_flag.g Try.f132.results.toList) := by kernel_rfl
theorem impl_reader_flag.ok (k : Nat) : SmOk Try.prog (impl_reader_flag.sm k) :=
  sm_ok mixed (E := impl_reader_flag.E) (pts := impl_reader_flag.pts) (fun k => ⟨⟨tysOk, by kernel_rfl⟩, forall_cons ⟨impl_reader_count.ok k, e93⟩ (forall_nil)⟩) (fun _ => rfl) (fun _ => rfl)
    ⟨Try.func132, by kernel_rfl, by kernel_rfl, by kernel_rfl, by kernel_rfl, by kernel_rfl, by kernel_rfl⟩ (forall_nil) (fun k x => impl_reader_flag.hf k x.1) k
noncomputable def b133 : Code := Try.f133.body.getD .skip
theorem e133 : OM.Entry Try.prog 133 := ⟨_, Try.func133, by kernel_rfl, by kernel_rfl⟩
@[reducible] noncomputable def impl_reader_text.g : Sig := ⟨[.ptr treader .z .z], [.v .str .z], []⟩
@[reducible] noncomputable def impl_reader_text.fk : Nat → denI impl_reader_text.g.pms → Option (denR (outTys impl_reader_text.g.rts impl_reader_text.g.pms)) := fun k x => impl_reader_text.f k x.1
@[reducible] noncomputable def impl_reader_text.sm (k : Nat) : Sm := ⟨133, impl_reader_text.g.pms, impl_reader_text.g.rts, impl_reader_text.fk k⟩
noncomputable def impl_reader_text.E (k : Nat) : Env := ⟨tys, [impl_reader_num.sm k], [49], [], []⟩
noncomputable def impl_reader_text.pts : List (Pt (denR (outTys impl_reader_text.g.rts impl_reader_text.g.pms))) := []
theorem impl_reader_text.hf (k : Nat) (a0 : reader) : (impl_reader_text.f k a0 : Option (denR (outTys impl_reader_text.g.rts impl_reader_text.g.pms))) = evC (impl_reader_text.E k) (fun κ s => lhOf k κ s impl_reader_text.pts) b133 (OM.start impl_reader_text.g.pms 0 (a0, ())) (OM.fin impl_reader_text.g Try.f133.results.toList) := by kernel_rfl
theorem impl_reader_text.ok (k : Nat) : SmOk Try.prog (impl_reader_text.sm k) :=
  sm_ok mixed (E := impl_reader_text.E) (pts := impl_reader_text.pts) (fun k => ⟨⟨tysOk, by kernel_rfl⟩, forall_cons ⟨impl_reader_num.ok k, e92⟩ (forall_nil)⟩) (fun _ => rfl) (fun _ => rfl)
    ⟨Try.func133, by kernel_rfl, by kernel_rfl, by kernel_rfl, by kernel_rfl, by kernel_rfl, by kernel_rfl⟩ (forall_nil) (fun k x => impl_reader_text.hf k x.1) k
noncomputable def b94 : Code := Try.f94.body.getD .skip
theorem e94 : OM.Entry Try.prog 94 := ⟨_, Try.func94, by kernel_rfl, by kernel_rfl⟩
@[reducible] noncomputable def impl_reader_entry.g : Sig := ⟨[.ptr treader .z .z], [.v tEntry .z], []⟩
@[reducible] noncomputable def impl_reader_entry.fk : Nat → denI impl_reader_entry.g.pms → Option (denR (outTys impl_reader_entry.g.rts impl_reader_entry.g.pms)) := fun k x => impl_reader_entry.f k x.1
@[reducible] noncomputable def impl_reader_entry.sm (k : Nat) : Sm := ⟨94, impl_reader_entry.g.pms, impl_reader_entry.g.rts, impl_reader_entry.fk k⟩
noncomputable def impl_reader_entry.E (k : Nat) : Env := ⟨tys, [impl_reader_num.sm k, impl_EntryOk.sm k, impl_reader_flag.sm k, impl_reader_text.sm k], [], [], []⟩
noncomputable def impl_reader_entry.pts : List (Pt (denR (outTys impl_reader_entry.g.rts impl_reader_entry.g.pms))) := []
theorem impl_reader_entry.hf (k : Nat) (a0 : reader) : (impl_reader_entry.f k a0 : Option (denR (outTys impl_reader_entry.g.rts impl_reader_entry.g.pms))) = evC (impl_reader_entry.E k) (fun κ s => lhOf k κ s impl_reader_entry.pts) b94 (OM.start impl_reader_entry.g.pms 0 (a0, ())) (OM.fin impl_reader_entry.g Try.f94.results.toList) := by kernel_rfl
theorem impl_reader_entry.ok (k : Nat) : SmOk Try.prog (impl_reader_entry.sm k) :=
  sm_ok mixed (E := impl_reader_entry.E) (pts := impl_reader_entry.pts) (fun k => ⟨⟨tysOk, by kernel_rfl⟩, forall_cons ⟨impl_reader_num.ok k, e92⟩ (forall_cons ⟨impl_EntryOk.ok k, e126⟩ (forall_cons ⟨impl_reader_flag.ok k, e132⟩ (forall_cons ⟨impl_reader_text.ok k, e133⟩ (forall_nil))))⟩) (fun _ => rfl) (fun _ => rfl)
    ⟨Try.func94, by kernel_rfl, by kernel_rfl, by kernel_rfl, by kernel_rfl, by kernel_rfl, by kernel_rfl⟩ (forall_nil) (fun k x => impl_reader_entry.hf k x.1) k
noncomputable def b30 : Code := Try.f30.body.getD .skip
theorem e30 : OM.Entry Try.prog 30 := ⟨_, Try.func30, by kernel_rfl, by kernel_rfl⟩
@[reducible] noncomputable def impl_StoreRead.g : Sig := ⟨[.fz (.sl (.int .u8))], [.v tStore (.two (.own .z) (.two (.own .a) .z)), .v .bool .z], []⟩
@[reducible] noncomputable def impl_StoreRead.fk : Nat → denI impl_StoreRead.g.pms → Option (denR (outTys impl_StoreRead.g.rts impl_StoreRead.g.pms)) := fun k x => impl_StoreRead.f k x.1
@[reducible] noncomputable def impl_StoreRead.sm (k : Nat) : Sm := ⟨30, impl_StoreRead.g.pms, impl_StoreRead.g.rts, impl_StoreRead.fk k⟩
noncomputable def impl_StoreRead.E (k : Nat) : Env := ⟨tys, [impl_reader_num.sm k, impl_reader_count.sm k, impl_reader_done.sm k, impl_StoreOk.sm k, impl_reader_entry.sm k], [9, 34], [10], []⟩
@[reducible] noncomputable def impl_StoreRead.s13 : List Slot := [.r 8 9 [] tStore, .r 16 45 [] treader, .r 20 21 [] tStore, .v 24 (.int .i64) .z [] 0, .v 28 (.int .i64) .z [] 0, .v 9 tStore (.two (.own .a) (.two (.own .a) .z)) [] 0, .v 21 tStore (.two (.own .z) (.two (.own .a) .z)) [] 0, .v 45 treader .z [] 0]
@[reducible] noncomputable def impl_StoreRead.s20 : List Slot := [.r 8 9 [] tStore, .r 16 45 [] treader, .r 20 21 [] tStore, .v 9 tStore (.two (.own .a) (.two (.own .a) .z)) [] 0, .v 21 tStore (.two (.own .z) (.two (.own .a) .z)) [] 0, .v 45 treader .z [] 0]
noncomputable def impl_StoreRead.pts : List (Pt (denR (outTys impl_StoreRead.g.rts impl_StoreRead.g.pms))) := [⟨13, impl_StoreRead.s13, fun k x => impl_StoreRead.p13 k x.1 x.2.1 x.2.2.1 x.2.2.2.1 x.2.2.2.2.1⟩, ⟨20, impl_StoreRead.s20, fun k x => impl_StoreRead.p20 k x.1 x.2.1 x.2.2.1⟩]
theorem impl_StoreRead.h13 (k : Nat) (x0 : Int) (x1 : Int) (x2 : Store) (x3 : Store) (x4 : reader) : (impl_StoreRead.p13 (k + 1) x0 x1 x2 x3 x4 : Option (denR (outTys impl_StoreRead.g.rts impl_StoreRead.g.pms))) = evAt (impl_StoreRead.E k) (fun κ s => lhOf k κ s impl_StoreRead.pts) 13 b30 (unproj impl_StoreRead.s13 (x0, x1, x2, x3, x4, ())) (OM.fin impl_StoreRead.g Try.f30.results.toList) := by kernel_rfl
theorem impl_StoreRead.h20 (k : Nat) (x0 : Store) (x1 : Store) (x2 : reader) : (impl_StoreRead.p20 (k + 1) x0 x1 x2 : Option (denR (outTys impl_StoreRead.g.rts impl_StoreRead.g.pms))) = evAt (impl_StoreRead.E k) (fun κ s => lhOf k κ s impl_StoreRead.pts) 20 b30 (unproj impl_StoreRead.s20 (x0, x1, x2, ())) (OM.fin impl_StoreRead.g Try.f30.results.toList) := by kernel_rfl
theorem impl_StoreRead.hf (k : Nat) (a0 : (List Int)) : (impl_StoreRead.f k a0 : Option (denR (outTys impl_StoreRead.g.rts impl_StoreRead.g.pms))) = evC (impl_StoreRead.E k) (fun κ s => lhOf k κ s impl_StoreRead.pts) b30 (OM.start impl_StoreRead.g.pms 0 (a0, ())) (OM.fin impl_StoreRead.g Try.f30.results.toList) := by kernel_rfl
theorem impl_StoreRead.ok (k : Nat) : SmOk Try.prog (impl_StoreRead.sm k) :=
  sm_ok mixed (E := impl_StoreRead.E) (pts := impl_StoreRead.pts) (fun k => ⟨⟨tysOk, by kernel_rfl⟩, forall_cons ⟨impl_reader_num.ok k, e92⟩ (forall_cons ⟨impl_reader_count.ok k, e93⟩ (forall_cons ⟨impl_reader_done.ok k, e95⟩ (forall_cons ⟨impl_StoreOk.ok k, e96⟩ (forall_cons ⟨impl_reader_entry.ok k, e94⟩ (forall_nil)))))⟩) (fun _ => rfl) (fun _ => rfl)
    ⟨Try.func30, by kernel_rfl, by kernel_rfl, by kernel_rfl, by kernel_rfl, by kernel_rfl, by kernel_rfl⟩ (forall_cons (fun x => ⟨rfl, fun k => impl_StoreRead.h13 k x.1 x.2.1 x.2.2.1 x.2.2.2.1 x.2.2.2.2.1⟩) (forall_cons (fun x => ⟨rfl, fun k => impl_StoreRead.h20 k x.1 x.2.1 x.2.2.1⟩) (forall_nil))) (fun k x => impl_StoreRead.hf k x.1) k
noncomputable def b128 : Code := Try.f128.body.getD .skip
theorem e128 : OM.Entry Try.prog 128 := ⟨_, Try.func128, by kernel_rfl, by kernel_rfl⟩
@[reducible] noncomputable def laws_eqEntry.g : Sig := ⟨[.fz tEntry, .fz tEntry], [.v .bool .z], []⟩
@[reducible] noncomputable def laws_eqEntry.fk : Nat → denI laws_eqEntry.g.pms → Option (denR (outTys laws_eqEntry.g.rts laws_eqEntry.g.pms)) := fun k x => laws_eqEntry.f x.1 x.2.1
@[reducible] noncomputable def laws_eqEntry.sm (k : Nat) : Sm := ⟨128, laws_eqEntry.g.pms, laws_eqEntry.g.rts, laws_eqEntry.fk k⟩
noncomputable def laws_eqEntry.E (k : Nat) : Env := ⟨tys, [], [], [], [4]⟩
noncomputable def laws_eqEntry.pts : List (Pt (denR (outTys laws_eqEntry.g.rts laws_eqEntry.g.pms))) := []
theorem laws_eqEntry.hf (k : Nat) (a0 : Entry) (a1 : Entry) : (laws_eqEntry.f a0 a1 : Option (denR (outTys laws_eqEntry.g.rts laws_eqEntry.g.pms))) = evC (laws_eqEntry.E k) (fun κ s => lhOf k κ s laws_eqEntry.pts) b128 (OM.start laws_eqEntry.g.pms 0 (a0, a1, ())) (OM.fin laws_eqEntry.g Try.f128.results.toList) := by kernel_rfl
theorem laws_eqEntry.ok (k : Nat) : SmOk Try.prog (laws_eqEntry.sm k) :=
  sm_ok mixed (E := laws_eqEntry.E) (pts := laws_eqEntry.pts) (fun k => ⟨⟨tysOk, by kernel_rfl⟩, forall_nil⟩) (fun _ => rfl) (fun _ => rfl)
    ⟨Try.func128, by kernel_rfl, by kernel_rfl, by kernel_rfl, by kernel_rfl, by kernel_rfl, by kernel_rfl⟩ (forall_nil) (fun k x => laws_eqEntry.hf k x.1 x.2.1) k
noncomputable def b87 : Code := Try.f87.body.getD .skip
theorem e87 : OM.Entry Try.prog 87 := ⟨_, Try.func87, by kernel_rfl, by kernel_rfl⟩
@[reducible] noncomputable def laws_eqEntryS.g : Sig := ⟨[.fz (.sl tEntry), .fz (.sl tEntry)], [.v .bool .z], []⟩
@[reducible] noncomputable def laws_eqEntryS.fk : Nat → denI laws_eqEntryS.g.pms → Option (denR (outTys laws_eqEntryS.g.rts laws_eqEntryS.g.pms)) := fun k x => laws_eqEntryS.f k x.1 x.2.1
@[reducible] noncomputable def laws_eqEntryS.sm (k : Nat) : Sm := ⟨87, laws_eqEntryS.g.pms, laws_eqEntryS.g.rts, laws_eqEntryS.fk k⟩
noncomputable def laws_eqEntryS.E (k : Nat) : Env := ⟨tys, [laws_eqEntry.sm k], [], [], []⟩
@[reducible] noncomputable def laws_eqEntryS.s9 : List Slot := [.v 0 (.sl tEntry) .z [] 0, .v 4 (.sl tEntry) .z [] 0, .v 20 (.int .i64) .z [] 0]
noncomputable def laws_eqEntryS.pts : List (Pt (denR (outTys laws_eqEntryS.g.rts laws_eqEntryS.g.pms))) := [⟨9, laws_eqEntryS.s9, fun k x => laws_eqEntryS.p9 k x.1 x.2.1 x.2.2.1⟩]
theorem laws_eqEntryS.h9 (k : Nat) (x0 : (List Entry)) (x1 : (List Entry)) (x2 : Int) : (laws_eqEntryS.p9 (k + 1) x0 x1 x2 : Option (denR (outTys laws_eqEntryS.g.rts laws_eqEntryS.g.pms))) = evAt (laws_eqEntryS.E k) (fun κ s => lhOf k κ s laws_eqEntryS.pts) 9 b87 (unproj laws_eqEntryS.s9 (x0, x1, x2, ())) (OM.fin laws_eqEntryS.g Try.f87.results.toList) := by kernel_rfl
theorem laws_eqEntryS.hf (k : Nat) (a0 : (List Entry)) (a1 : (List Entry)) : (laws_eqEntryS.f k a0 a1 : Option (denR (outTys laws_eqEntryS.g.rts laws_eqEntryS.g.pms))) = evC (laws_eqEntryS.E k) (fun κ s => lhOf k κ s laws_eqEntryS.pts) b87 (OM.start laws_eqEntryS.g.pms 0 (a0, a1, ())) (OM.fin laws_eqEntryS.g Try.f87.results.toList) := by kernel_rfl
theorem laws_eqEntryS.ok (k : Nat) : SmOk Try.prog (laws_eqEntryS.sm k) :=
  sm_ok mixed (E := laws_eqEntryS.E) (pts := laws_eqEntryS.pts) (fun k => ⟨⟨tysOk, by kernel_rfl⟩, forall_cons ⟨laws_eqEntry.ok k, e128⟩ (forall_nil)⟩) (fun _ => rfl) (fun _ => rfl)
    ⟨Try.func87, by kernel_rfl, by kernel_rfl, by kernel_rfl, by kernel_rfl, by kernel_rfl, by kernel_rfl⟩ (forall_cons (fun x => ⟨rfl, fun k => laws_eqEntryS.h9 k x.1 x.2.1 x.2.2.1⟩) (forall_nil)) (fun k x => laws_eqEntryS.hf k x.1 x.2.1) k
noncomputable def b31 : Code := Try.f31.body.getD .skip
theorem e31 : OM.Entry Try.prog 31 := ⟨_, Try.func31, by kernel_rfl, by kernel_rfl⟩
@[reducible] noncomputable def laws_eqStore.g : Sig := ⟨[.fz tStore, .fz tStore], [.v .bool .z], []⟩
@[reducible] noncomputable def laws_eqStore.fk : Nat → denI laws_eqStore.g.pms → Option (denR (outTys laws_eqStore.g.rts laws_eqStore.g.pms)) := fun k x => laws_eqStore.f k x.1 x.2.1
@[reducible] noncomputable def laws_eqStore.sm (k : Nat) : Sm := ⟨31, laws_eqStore.g.pms, laws_eqStore.g.rts, laws_eqStore.fk k⟩
noncomputable def laws_eqStore.E (k : Nat) : Env := ⟨tys, [laws_eqEntryS.sm k], [], [], []⟩
noncomputable def laws_eqStore.pts : List (Pt (denR (outTys laws_eqStore.g.rts laws_eqStore.g.pms))) := []
theorem laws_eqStore.hf (k : Nat) (a0 : Store) (a1 : Store) : (laws_eqStore.f k a0 a1 : Option (denR (outTys laws_eqStore.g.rts laws_eqStore.g.pms))) = evC (laws_eqStore.E k) (fun κ s => lhOf k κ s laws_eqStore.pts) b31 (OM.start laws_eqStore.g.pms 0 (a0, a1, ())) (OM.fin laws_eqStore.g Try.f31.results.toList) := by kernel_rfl
theorem laws_eqStore.ok (k : Nat) : SmOk Try.prog (laws_eqStore.sm k) :=
  sm_ok mixed (E := laws_eqStore.E) (pts := laws_eqStore.pts) (fun k => ⟨⟨tysOk, by kernel_rfl⟩, forall_cons ⟨laws_eqEntryS.ok k, e87⟩ (forall_nil)⟩) (fun _ => rfl) (fun _ => rfl)
    ⟨Try.func31, by kernel_rfl, by kernel_rfl, by kernel_rfl, by kernel_rfl, by kernel_rfl, by kernel_rfl⟩ (forall_nil) (fun k x => laws_eqStore.hf k x.1 x.2.1) k
noncomputable def b32 : Code := Try.f32.body.getD .skip
theorem e32 : OM.Entry Try.prog 32 := ⟨_, Try.func32, by kernel_rfl, by kernel_rfl⟩
@[reducible] noncomputable def laws_eqByteS.g : Sig := ⟨[.fz (.sl (.int .u8)), .fz (.sl (.int .u8))], [.v .bool .z], []⟩
@[reducible] noncomputable def laws_eqByteS.fk : Nat → denI laws_eqByteS.g.pms → Option (denR (outTys laws_eqByteS.g.rts laws_eqByteS.g.pms)) := fun k x => laws_eqByteS.f k x.1 x.2.1
@[reducible] noncomputable def laws_eqByteS.sm (k : Nat) : Sm := ⟨32, laws_eqByteS.g.pms, laws_eqByteS.g.rts, laws_eqByteS.fk k⟩
noncomputable def laws_eqByteS.E (k : Nat) : Env := ⟨tys, [], [], [], []⟩
@[reducible] noncomputable def laws_eqByteS.s9 : List Slot := [.v 0 (.sl (.int .u8)) .z [] 0, .v 4 (.sl (.int .u8)) .z [] 0, .v 20 (.int .i64) .z [] 0]
noncomputable def laws_eqByteS.pts : List (Pt (denR (outTys laws_eqByteS.g.rts laws_eqByteS.g.pms))) := [⟨9, laws_eqByteS.s9, fun k x => laws_eqByteS.p9 k x.1 x.2.1 x.2.2.1⟩]
theorem laws_eqByteS.h9 (k : Nat) (x0 : (List Int)) (x1 : (List Int)) (x2 : Int) : (laws_eqByteS.p9 (k + 1) x0 x1 x2 : Option (denR (outTys laws_eqByteS.g.rts laws_eqByteS.g.pms))) = evAt (laws_eqByteS.E k) (fun κ s => lhOf k κ s laws_eqByteS.pts) 9 b32 (unproj laws_eqByteS.s9 (x0, x1, x2, ())) (OM.fin laws_eqByteS.g Try.f32.results.toList) := by kernel_rfl
theorem laws_eqByteS.hf (k : Nat) (a0 : (List Int)) (a1 : (List Int)) : (laws_eqByteS.f k a0 a1 : Option (denR (outTys laws_eqByteS.g.rts laws_eqByteS.g.pms))) = evC (laws_eqByteS.E k) (fun κ s => lhOf k κ s laws_eqByteS.pts) b32 (OM.start laws_eqByteS.g.pms 0 (a0, a1, ())) (OM.fin laws_eqByteS.g Try.f32.results.toList) := by kernel_rfl
theorem laws_eqByteS.ok (k : Nat) : SmOk Try.prog (laws_eqByteS.sm k) :=
  sm_ok mixed (E := laws_eqByteS.E) (pts := laws_eqByteS.pts) (fun k => ⟨⟨tysOk, by kernel_rfl⟩, forall_nil⟩) (fun _ => rfl) (fun _ => rfl)
    ⟨Try.func32, by kernel_rfl, by kernel_rfl, by kernel_rfl, by kernel_rfl, by kernel_rfl, by kernel_rfl⟩ (forall_cons (fun x => ⟨rfl, fun k => laws_eqByteS.h9 k x.1 x.2.1 x.2.2.1⟩) (forall_nil)) (fun k x => laws_eqByteS.hf k x.1 x.2.1) k
noncomputable def b33 : Code := Try.f33.body.getD .skip
theorem e33 : OM.Entry Try.prog 33 := ⟨_, Try.func33, by kernel_rfl, by kernel_rfl⟩
@[reducible] noncomputable def laws_markByteS.g : Sig := ⟨[.mut (.sl (.int .u8)) (.own .z), .fz (.int .i64)], [.v (.int .i64) .z], [0]⟩
@[reducible] noncomputable def laws_markByteS.fk : Nat → denI laws_markByteS.g.pms → Option (denR (outTys laws_markByteS.g.rts laws_markByteS.g.pms)) := fun k x => laws_markByteS.f k x.1 x.2.1
@[reducible] noncomputable def laws_markByteS.sm (k : Nat) : Sm := ⟨33, laws_markByteS.g.pms, laws_markByteS.g.rts, laws_markByteS.fk k⟩
noncomputable def laws_markByteS.E (k : Nat) : Env := ⟨tys, [], [], [], []⟩
@[reducible] noncomputable def laws_markByteS.s5 : List Slot := [.v 0 (.sl (.int .u8)) (.own .z) [] 1, .v 4 (.int .i64) .z [] 0, .v 20 (.int .i64) .z [] 0]
noncomputable def laws_markByteS.pts : List (Pt (denR (outTys laws_markByteS.g.rts laws_markByteS.g.pms))) := [⟨5, laws_markByteS.s5, fun k x => laws_markByteS.p5 k x.1 x.2.1 x.2.2.1⟩]
theorem laws_markByteS.h5 (k : Nat) (x0 : (List Int)) (x1 : Int) (x2 : Int) : (laws_markByteS.p5 (k + 1) x0 x1 x2 : Option (denR (outTys laws_markByteS.g.rts laws_markByteS.g.pms))) = evAt (laws_markByteS.E k) (fun κ s => lhOf k κ s laws_markByteS.pts) 5 b33 (unproj laws_markByteS.s5 (x0, x1, x2, ())) (OM.fin laws_markByteS.g Try.f33.results.toList) := by kernel_rfl
theorem laws_markByteS.hf (k : Nat) (a0 : (List Int)) (a1 : Int) : (laws_markByteS.f k a0 a1 : Option (denR (outTys laws_markByteS.g.rts laws_markByteS.g.pms))) = evC (laws_markByteS.E k) (fun κ s => lhOf k κ s laws_markByteS.pts) b33 (OM.start laws_markByteS.g.pms 0 (a0, a1, ())) (OM.fin laws_markByteS.g Try.f33.results.toList) := by kernel_rfl
theorem laws_markByteS.ok (k : Nat) : SmOk Try.prog (laws_markByteS.sm k) :=
  sm_ok mixed (E := laws_markByteS.E) (pts := laws_markByteS.pts) (fun k => ⟨⟨tysOk, by kernel_rfl⟩, forall_nil⟩) (fun _ => rfl) (fun _ => rfl)
    ⟨Try.func33, by kernel_rfl, by kernel_rfl, by kernel_rfl, by kernel_rfl, by kernel_rfl, by kernel_rfl⟩ (forall_cons (fun x => ⟨rfl, fun k => laws_markByteS.h5 k x.1 x.2.1 x.2.2.1⟩) (forall_nil)) (fun k x => laws_markByteS.hf k x.1 x.2.1) k
noncomputable def b135 : Code := Try.f135.body.getD .skip
theorem e135 : OM.Entry Try.prog 135 := ⟨_, Try.func135, by kernel_rfl, by kernel_rfl⟩
@[reducible] noncomputable def laws_markText.g : Sig := ⟨[.fz (.int .i64)], [.v .str .z], []⟩
@[reducible] noncomputable def laws_markText.fk : Nat → denI laws_markText.g.pms → Option (denR (outTys laws_markText.g.rts laws_markText.g.pms)) := fun k x => laws_markText.f k x.1
@[reducible] noncomputable def laws_markText.sm (k : Nat) : Sm := ⟨135, laws_markText.g.pms, laws_markText.g.rts, laws_markText.fk k⟩
noncomputable def laws_markText.E (k : Nat) : Env := ⟨tys, [], [], [], []⟩
@[reducible] noncomputable def laws_markText.s9 : List Slot := [.v 0 (.int .i64) .z [] 0, .v 12 .str .z [] 0]
noncomputable def laws_markText.pts : List (Pt (denR (outTys laws_markText.g.rts laws_markText.g.pms))) := [⟨9, laws_markText.s9, fun k x => laws_markText.p9 k x.1 x.2.1⟩]
theorem laws_markText.h9 (k : Nat) (x0 : Int) (x1 : ByteArray) : (laws_markText.p9 (k + 1) x0 x1 : Option (denR (outTys laws_markText.g.rts laws_markText.g.pms))) = evAt (laws_markText.E k) (fun κ s => lhOf k κ s laws_markText.pts) 9 b135 (unproj laws_markText.s9 (x0, x1, ())) (OM.fin laws_markText.g Try.f135.results.toList) := by kernel_rfl
theorem laws_markText.hf (k : Nat) (a0 : Int) : (laws_markText.f k a0 : Option (denR (outTys laws_markText.g.rts laws_markText.g.pms))) = evC (laws_markText.E k) (fun κ s => lhOf k κ s laws_markText.pts) b135 (OM.start laws_markText.g.pms 0 (a0, ())) (OM.fin laws_markText.g Try.f135.results.toList) := by kernel_rfl
theorem laws_markText.ok (k : Nat) : SmOk Try.prog (laws_markText.sm k) :=
  sm_ok mixed (E := laws_markText.E) (pts := laws_markText.pts) (fun k => ⟨⟨tysOk, by kernel_rfl⟩, forall_nil⟩) (fun _ => rfl) (fun _ => rfl)
    ⟨Try.func135, by kernel_rfl, by kernel_rfl, by kernel_rfl, by kernel_rfl, by kernel_rfl, by kernel_rfl⟩ (forall_cons (fun x => ⟨rfl, fun k => laws_markText.h9 k x.1 x.2.1⟩) (forall_nil)) (fun k x => laws_markText.hf k x.1) k
noncomputable def b97 : Code := Try.f97.body.getD .skip
theorem e97 : OM.Entry Try.prog 97 := ⟨_, Try.func97, by kernel_rfl, by kernel_rfl⟩
@[reducible] noncomputable def laws_markEntryS.g : Sig := ⟨[.mut (.sl tEntry) (.own .z), .fz (.int .i64)], [.v (.int .i64) .z], [0]⟩
@[reducible] noncomputable def laws_markEntryS.fk : Nat → denI laws_markEntryS.g.pms → Option (denR (outTys laws_markEntryS.g.rts laws_markEntryS.g.pms)) := fun k x => laws_markEntryS.f k x.1 x.2.1
@[reducible] noncomputable def laws_markEntryS.sm (k : Nat) : Sm := ⟨97, laws_markEntryS.g.pms, laws_markEntryS.g.rts, laws_markEntryS.fk k⟩
noncomputable def laws_markEntryS.E (k : Nat) : Env := ⟨tys, [laws_markText.sm k], [], [], []⟩
@[reducible] noncomputable def laws_markEntryS.s5 : List Slot := [.v 0 (.sl tEntry) (.own .z) [] 1, .v 4 (.int .i64) .z [] 0, .v 20 (.int .i64) .z [] 0]
noncomputable def laws_markEntryS.pts : List (Pt (denR (outTys laws_markEntryS.g.rts laws_markEntryS.g.pms))) := [⟨5, laws_markEntryS.s5, fun k x => laws_markEntryS.p5 k x.1 x.2.1 x.2.2.1⟩]
theorem laws_markEntryS.h5 (k : Nat) (x0 : (List Entry)) (x1 : Int) (x2 : Int) : (laws_markEntryS.p5 (k + 1) x0 x1 x2 : Option (denR (outTys laws_markEntryS.g.rts laws_markEntryS.g.pms))) = evAt (laws_markEntryS.E k) (fun κ s => lhOf k κ s laws_markEntryS.pts) 5 b97 (unproj laws_markEntryS.s5 (x0, x1, x2, ())) (OM.fin laws_markEntryS.g Try.f97.results.toList) := by kernel_rfl
theorem laws_markEntryS.hf (k : Nat) (a0 : (List Entry)) (a1 : Int) : (laws_markEntryS.f k a0 a1 : Option (denR (outTys laws_markEntryS.g.rts laws_markEntryS.g.pms))) = evC (laws_markEntryS.E k) (fun κ s => lhOf k κ s laws_markEntryS.pts) b97 (OM.start laws_markEntryS.g.pms 0 (a0, a1, ())) (OM.fin laws_markEntryS.g Try.f97.results.toList) := by kernel_rfl
theorem laws_markEntryS.ok (k : Nat) : SmOk Try.prog (laws_markEntryS.sm k) :=
  sm_ok mixed (E := laws_markEntryS.E) (pts := laws_markEntryS.pts) (fun k => ⟨⟨tysOk, by kernel_rfl⟩, forall_cons ⟨laws_markText.ok k, e135⟩ (forall_nil)⟩) (fun _ => rfl) (fun _ => rfl)
    ⟨Try.func97, by kernel_rfl, by kernel_rfl, by kernel_rfl, by kernel_rfl, by kernel_rfl, by kernel_rfl⟩ (forall_cons (fun x => ⟨rfl, fun k => laws_markEntryS.h5 k x.1 x.2.1 x.2.2.1⟩) (forall_nil)) (fun k x => laws_markEntryS.hf k x.1 x.2.1) k
noncomputable def b34 : Code := Try.f34.body.getD .skip
theorem e34 : OM.Entry Try.prog 34 := ⟨_, Try.func34, by kernel_rfl, by kernel_rfl⟩
@[reducible] noncomputable def laws_markStore.g : Sig := ⟨[.mut tStore (.two (.own .z) (.two (.own .z) .z)), .fz (.int .i64)], [.v (.int .i64) .z], [9]⟩
@[reducible] noncomputable def laws_markStore.fk : Nat → denI laws_markStore.g.pms → Option (denR (outTys laws_markStore.g.rts laws_markStore.g.pms)) := fun k x => laws_markStore.f k x.1 x.2.1
@[reducible] noncomputable def laws_markStore.sm (k : Nat) : Sm := ⟨34, laws_markStore.g.pms, laws_markStore.g.rts, laws_markStore.fk k⟩
noncomputable def laws_markStore.E (k : Nat) : Env := ⟨tys, [laws_markEntryS.sm k], [], [], []⟩
noncomputable def laws_markStore.pts : List (Pt (denR (outTys laws_markStore.g.rts laws_markStore.g.pms))) := []
theorem laws_markStore.hf (k : Nat) (a0 : Store) (a1 : Int) : (laws_markStore.f k a0 a1 : Option (denR (outTys laws_markStore.g.rts laws_markStore.g.pms))) = evC (laws_markStore.E k) (fun κ s => lhOf k κ s laws_markStore.pts) b34 (OM.start laws_markStore.g.pms 0 (a0, a1, ())) (OM.fin laws_markStore.g Try.f34.results.toList) := by kernel_rfl
theorem laws_markStore.ok (k : Nat) : SmOk Try.prog (laws_markStore.sm k) :=
  sm_ok mixed (E := laws_markStore.E) (pts := laws_markStore.pts) (fun k => ⟨⟨tysOk, by kernel_rfl⟩, forall_cons ⟨laws_markEntryS.ok k, e97⟩ (forall_nil)⟩) (fun _ => rfl) (fun _ => rfl)
    ⟨Try.func34, by kernel_rfl, by kernel_rfl, by kernel_rfl, by kernel_rfl, by kernel_rfl, by kernel_rfl⟩ (forall_nil) (fun k x => laws_markStore.hf k x.1 x.2.1) k
noncomputable def b98 : Code := Try.f98.body.getD .skip
theorem e98 : OM.Entry Try.prog 98 := ⟨_, Try.func98, by kernel_rfl, by kernel_rfl⟩
@[reducible] noncomputable def laws_heldEntryS.g : Sig := ⟨[.fz (.sl tEntry), .fz (.int .i64)], [.v (.int .i64) .z], []⟩
@[reducible] noncomputable def laws_heldEntryS.fk : Nat → denI laws_heldEntryS.g.pms → Option (denR (outTys laws_heldEntryS.g.rts laws_heldEntryS.g.pms)) := fun k x => laws_heldEntryS.f k x.1 x.2.1
@[reducible] noncomputable def laws_heldEntryS.sm (k : Nat) : Sm := ⟨98, laws_heldEntryS.g.pms, laws_heldEntryS.g.rts, laws_heldEntryS.fk k⟩
noncomputable def laws_heldEntryS.E (k : Nat) : Env := ⟨tys, [laws_markText.sm k], [], [], [4]⟩
@[reducible] noncomputable def laws_heldEntryS.s5 : List Slot := [.v 0 (.sl tEntry) .z [] 0, .v 4 (.int .i64) .z [] 0, .v 20 (.int .i64) .z [] 0]
noncomputable def laws_heldEntryS.pts : List (Pt (denR (outTys laws_heldEntryS.g.rts laws_heldEntryS.g.pms))) := [⟨5, laws_heldEntryS.s5, fun k x => laws_heldEntryS.p5 k x.1 x.2.1 x.2.2.1⟩]
theorem laws_heldEntryS.h5 (k : Nat) (x0 : (List Entry)) (x1 : Int) (x2 : Int) : (laws_heldEntryS.p5 (k + 1) x0 x1 x2 : Option (denR (outTys laws_heldEntryS.g.rts laws_heldEntryS.g.pms))) = evAt (laws_heldEntryS.E k) (fun κ s => lhOf k κ s laws_heldEntryS.pts) 5 b98 (unproj laws_heldEntryS.s5 (x0, x1, x2, ())) (OM.fin laws_heldEntryS.g Try.f98.results.toList) := by kernel_rfl
theorem laws_heldEntryS.hf (k : Nat) (a0 : (List Entry)) (a1 : Int) : (laws_heldEntryS.f k a0 a1 : Option (denR (outTys laws_heldEntryS.g.rts laws_heldEntryS.g.pms))) = evC (laws_heldEntryS.E k) (fun κ s => lhOf k κ s laws_heldEntryS.pts) b98 (OM.start laws_heldEntryS.g.pms 0 (a0, a1, ())) (OM.fin laws_heldEntryS.g Try.f98.results.toList) := by kernel_rfl
theorem laws_heldEntryS.ok (k : Nat) : SmOk Try.prog (laws_heldEntryS.sm k) :=
  sm_ok mixed (E := laws_heldEntryS.E) (pts := laws_heldEntryS.pts) (fun k => ⟨⟨tysOk, by kernel_rfl⟩, forall_cons ⟨laws_markText.ok k, e135⟩ (forall_nil)⟩) (fun _ => rfl) (fun _ => rfl)
    ⟨Try.func98, by kernel_rfl, by kernel_rfl, by kernel_rfl, by kernel_rfl, by kernel_rfl, by kernel_rfl⟩ (forall_cons (fun x => ⟨rfl, fun k => laws_heldEntryS.h5 k x.1 x.2.1 x.2.2.1⟩) (forall_nil)) (fun k x => laws_heldEntryS.hf k x.1 x.2.1) k
noncomputable def b35 : Code := Try.f35.body.getD .skip
theorem e35 : OM.Entry Try.prog 35 := ⟨_, Try.func35, by kernel_rfl, by kernel_rfl⟩
@[reducible] noncomputable def laws_heldStore.g : Sig := ⟨[.fz tStore, .fz (.int .i64)], [.v (.int .i64) .z], []⟩
@[reducible] noncomputable def laws_heldStore.fk : Nat → denI laws_heldStore.g.pms → Option (denR (outTys laws_heldStore.g.rts laws_heldStore.g.pms)) := fun k x => laws_heldStore.f k x.1 x.2.1
@[reducible] noncomputable def laws_heldStore.sm (k : Nat) : Sm := ⟨35, laws_heldStore.g.pms, laws_heldStore.g.rts, laws_heldStore.fk k⟩
noncomputable def laws_heldStore.E (k : Nat) : Env := ⟨tys, [laws_heldEntryS.sm k], [], [], []⟩
noncomputable def laws_heldStore.pts : List (Pt (denR (outTys laws_heldStore.g.rts laws_heldStore.g.pms))) := []
theorem laws_heldStore.hf (k : Nat) (a0 : Store) (a1 : Int) : (laws_heldStore.f k a0 a1 : Option (denR (outTys laws_heldStore.g.rts laws_heldStore.g.pms))) = evC (laws_heldStore.E k) (fun κ s => lhOf k κ s laws_heldStore.pts) b35 (OM.start laws_heldStore.g.pms 0 (a0, a1, ())) (OM.fin laws_heldStore.g Try.f35.results.toList) := by kernel_rfl
theorem laws_heldStore.ok (k : Nat) : SmOk Try.prog (laws_heldStore.sm k) :=
  sm_ok mixed (E := laws_heldStore.E) (pts := laws_heldStore.pts) (fun k => ⟨⟨tysOk, by kernel_rfl⟩, forall_cons ⟨laws_heldEntryS.ok k, e98⟩ (forall_nil)⟩) (fun _ => rfl) (fun _ => rfl)
    ⟨Try.func35, by kernel_rfl, by kernel_rfl, by kernel_rfl, by kernel_rfl, by kernel_rfl, by kernel_rfl⟩ (forall_nil) (fun k x => laws_heldStore.hf k x.1 x.2.1) k
noncomputable def b6 : Code := Try.f6.body.getD .skip
theorem e6 : OM.Entry Try.prog 6 := ⟨_, Try.func6, by kernel_rfl, by kernel_rfl⟩
@[reducible] noncomputable def laws_FnExactStoreRead.g : Sig := ⟨[.fz (.sl (.int .u8))], [.v .bool .z], []⟩
@[reducible] noncomputable def laws_FnExactStoreRead.fk : Nat → denI laws_FnExactStoreRead.g.pms → Option (denR (outTys laws_FnExactStoreRead.g.rts laws_FnExactStoreRead.g.pms)) := fun k x => laws_FnExactStoreRead.f k x.1
@[reducible] noncomputable def laws_FnExactStoreRead.sm (k : Nat) : Sm := ⟨6, laws_FnExactStoreRead.g.pms, laws_FnExactStoreRead.g.rts, laws_FnExactStoreRead.fk k⟩
noncomputable def laws_FnExactStoreRead.E (k : Nat) : Env := ⟨tys, [laws_toByteS.sm k, spec_StoreRead.sm k, impl_StoreRead.sm k, laws_eqStore.sm k, laws_eqByteS.sm k, laws_markByteS.sm k, laws_markStore.sm k, laws_heldStore.sm k], [], [], [4]⟩
noncomputable def laws_FnExactStoreRead.pts : List (Pt (denR (outTys laws_FnExactStoreRead.g.rts laws_FnExactStoreRead.g.pms))) := []
theorem laws_FnExactStoreRead.hf (k : Nat) (a0 : (List Int)) : (laws_FnExactStoreRead.f k a0 : Option (denR (outTys laws_FnExactStoreRead.g.rts laws_FnExactStoreRead.g.pms))) = evC (laws_FnExactStoreRead.E k) (fun κ s => lhOf k κ s laws_FnExactStoreRead.pts) b6 (OM.start laws_FnExactStoreRead.g.pms 0 (a0, ())) (OM.fin laws_FnExactStoreRead.g Try.f6.results.toList) := by kernel_rfl
theorem laws_FnExactStoreRead.ok (k : Nat) : SmOk Try.prog (laws_FnExactStoreRead.sm k) :=
  sm_ok mixed (E := laws_FnExactStoreRead.E) (pts := laws_FnExactStoreRead.pts) (fun k => ⟨⟨tysOk, by kernel_rfl⟩, forall_cons ⟨laws_toByteS.ok k, e29⟩ (forall_cons ⟨spec_StoreRead.ok k, e28⟩ (forall_cons ⟨impl_StoreRead.ok k, e30⟩ (forall_cons ⟨laws_eqStore.ok k, e31⟩ (forall_cons ⟨laws_eqByteS.ok k, e32⟩ (forall_cons ⟨laws_markByteS.ok k, e33⟩ (forall_cons ⟨laws_markStore.ok k, e34⟩ (forall_cons ⟨laws_heldStore.ok k, e35⟩ (forall_nil))))))))⟩) (fun _ => rfl) (fun _ => rfl)
    ⟨Try.func6, by kernel_rfl, by kernel_rfl, by kernel_rfl, by kernel_rfl, by kernel_rfl, by kernel_rfl⟩ (forall_nil) (fun k x => laws_FnExactStoreRead.hf k x.1) k
end Go.Proofs.Ytdkdhciogedoiab.OmFnExactStoreRead
