import Derived.Test.YtllmifioelbleaaFFnStoreBytes
import Derived.Test.YtllmifioelbleaaChecked
set_option maxRecDepth 1000000
set_option linter.unusedVariables false
namespace Go.Proofs.Ytllmifioelbleaa.OmFnStoreBytes
open Go Go.OM
noncomputable def tys : List (Option Ty) := [none, none, some (.int .i64), some (.int .i64), some .bool, some (.int .u8), some (.int .u8), some (.pair (.int .i64) (.pair (.int .i64) (.pair .bool (.pair (.int .u8) .unit)))), some (.pair (.int .i64) (.pair (.int .i64) (.pair .bool (.pair (.int .u8) .unit)))), some .str, some .str, some .str, some (.int .u64), some (.pair .str (.pair (.int .u64) .unit)), some (.pair .str (.pair (.int .u64) .unit)), none, none, none, none, none, none, some (.int .i32), some (.sl (.int .u8)), none, some (.sl (.int .i64)), some tConfig, some tConfig, some (.sl tEntry), some (.sl (.sl (.int .i64))), some tMend, some tMend, none, none, none, none, none, none, none, none, none, some tEntry, some tEntry, none, none, none, some tConfig, some (.sl tEra), some tRegister, some tRegister, none, none, some (.sl tEra), some tRegister, some tRegister, none, none, none, none, none, none, none, none, none, none, none, none, none, some tEra, some tEra, some tStore, some tStore, none, none, none, none, none, none, none, some (.sl tWord), some tWriter, some tWriter, none, none, none, none, some tWord, some tWord, none, none, none, none, none, none, none, none, none, none, none, none, none, none, none, none, none, none, none, none, none, none, none, none, none, none, none, none, none, none, none, none, none, none, none, none, none, none, none, none, some treader, some treader, none, none, none, none, none, none, none, none, none, none, none, none, none, none, none, some tl1Cur, some tl1Cur, none, none, some tEra, none, none, none, none, none, none, none, none, none, none, none, none, none, none, some (.sl .bool), some (.int .u64), none, none, none, none, none, none, some (.sl .str), none, none, none, none, none, none, none, none, none, none, none, none, none, none, none, none, none, none, none, some (.int .u32), some (.int .u8), some (.int .u8), none, none, some (.int .i32), some (.int .i32), none, none, none]
theorem tysOk : okTys Try.prog tys 0 tys = true := by kernel_rfl
theorem mixed : Try.prog.follows .mixedOrders = true := by kernel_rfl
noncomputable def b9 : Code := Try.f9.body.getD .skip
theorem e9 : OM.Entry Try.prog 9 := ⟨_, Try.func9, by kernel_rfl, by kernel_rfl⟩
@[reducible] noncomputable def laws_big.g : Sig := ⟨[.fz (.sl (.int .u8))], [.v .bool .z], []⟩
@[reducible] noncomputable def laws_big.fk : Nat → denI laws_big.g.pms → Option (denR (outTys laws_big.g.rts laws_big.g.pms)) := fun k x => laws_big.f x.1
@[reducible] noncomputable def laws_big.sm (k : Nat) : Sm := ⟨9, laws_big.g.pms, laws_big.g.rts, laws_big.fk k⟩
noncomputable def laws_big.E (k : Nat) : Env := ⟨tys, [], [], [], []⟩
noncomputable def laws_big.pts : List (Pt (denR (outTys laws_big.g.rts laws_big.g.pms))) := []
theorem laws_big.hf (k : Nat) (a0 : (List Int)) : (laws_big.f a0 : Option (denR (outTys laws_big.g.rts laws_big.g.pms))) = evC (laws_big.E k) (fun κ s => lhOf k κ s laws_big.pts) b9 (OM.start laws_big.g.pms 0 (a0, ())) (OM.fin laws_big.g Try.f9.results.toList) := by kernel_rfl
theorem laws_big.ok (k : Nat) : SmOk Try.prog (laws_big.sm k) :=
  sm_ok mixed (E := laws_big.E) (pts := laws_big.pts) (fun k => ⟨⟨tysOk, by kernel_rfl⟩, forall_nil⟩) (fun _ => rfl) (fun _ => rfl)
    ⟨Try.func9, by kernel_rfl, by kernel_rfl, by kernel_rfl, by kernel_rfl, by kernel_rfl, by kernel_rfl⟩ (forall_nil) (fun k x => laws_big.hf k x.1) k
noncomputable def b70 : Code := Try.f70.body.getD .skip
theorem e70 : OM.Entry Try.prog 70 := ⟨_, Try.func70, by kernel_rfl, by kernel_rfl⟩
@[reducible] noncomputable def spec_l1New.g : Sig := ⟨[.fz (.sl (.int .u8))], [.p tl1Cur .z], []⟩
@[reducible] noncomputable def spec_l1New.fk : Nat → denI spec_l1New.g.pms → Option (denR (outTys spec_l1New.g.rts spec_l1New.g.pms)) := fun k x => spec_l1New.f k x.1
@[reducible] noncomputable def spec_l1New.sm (k : Nat) : Sm := ⟨70, spec_l1New.g.pms, spec_l1New.g.rts, spec_l1New.fk k⟩
noncomputable def spec_l1New.E (k : Nat) : Env := ⟨tys, [], [28, 29], [], []⟩
@[reducible] noncomputable def spec_l1New.s7 : List Slot := [.v 0 (.sl (.int .u8)) .z [] 0, .v 12 (.int .i64) .z [] 0, .v 16 (.int .i64) .z [] 0]
noncomputable def spec_l1New.pts : List (Pt (denR (outTys spec_l1New.g.rts spec_l1New.g.pms))) := [⟨7, spec_l1New.s7, fun k x => spec_l1New.p7 k x.1 x.2.1 x.2.2.1⟩]
theorem spec_l1New.h7 (k : Nat) (x0 : (List Int)) (x1 : Int) (x2 : Int) : (spec_l1New.p7 (k + 1) x0 x1 x2 : Option (denR (outTys spec_l1New.g.rts spec_l1New.g.pms))) = evAt (spec_l1New.E k) (fun κ s => lhOf k κ s spec_l1New.pts) 7 b70 (unproj spec_l1New.s7 (x0, x1, x2, ())) (OM.fin spec_l1New.g Try.f70.results.toList) := by kernel_rfl
theorem spec_l1New.hf (k : Nat) (a0 : (List Int)) : (spec_l1New.f k a0 : Option (denR (outTys spec_l1New.g.rts spec_l1New.g.pms))) = evC (spec_l1New.E k) (fun κ s => lhOf k κ s spec_l1New.pts) b70 (OM.start spec_l1New.g.pms 0 (a0, ())) (OM.fin spec_l1New.g Try.f70.results.toList) := by kernel_rfl
theorem spec_l1New.ok (k : Nat) : SmOk Try.prog (spec_l1New.sm k) :=
  sm_ok mixed (E := spec_l1New.E) (pts := spec_l1New.pts) (fun k => ⟨⟨tysOk, by kernel_rfl⟩, forall_nil⟩) (fun _ => rfl) (fun _ => rfl)
    ⟨Try.func70, by kernel_rfl, by kernel_rfl, by kernel_rfl, by kernel_rfl, by kernel_rfl, by kernel_rfl⟩ (forall_cons (fun x => ⟨rfl, fun k => spec_l1New.h7 k x.1 x.2.1 x.2.2.1⟩) (forall_nil)) (fun k x => spec_l1New.hf k x.1) k
noncomputable def b125 : Code := Try.f125.body.getD .skip
theorem e125 : OM.Entry Try.prog 125 := ⟨_, Try.func125, by kernel_rfl, by kernel_rfl⟩
@[reducible] noncomputable def spec_l1Byte.g : Sig := ⟨[.ptr tl1Cur .z .z], [.v (.int .i64) .z], []⟩
@[reducible] noncomputable def spec_l1Byte.fk : Nat → denI spec_l1Byte.g.pms → Option (denR (outTys spec_l1Byte.g.rts spec_l1Byte.g.pms)) := fun k x => spec_l1Byte.f x.1
@[reducible] noncomputable def spec_l1Byte.sm (k : Nat) : Sm := ⟨125, spec_l1Byte.g.pms, spec_l1Byte.g.rts, spec_l1Byte.fk k⟩
noncomputable def spec_l1Byte.E (k : Nat) : Env := ⟨tys, [], [], [], []⟩
noncomputable def spec_l1Byte.pts : List (Pt (denR (outTys spec_l1Byte.g.rts spec_l1Byte.g.pms))) := []
theorem spec_l1Byte.hf (k : Nat) (a0 : l1Cur) : (spec_l1Byte.f a0 : Option (denR (outTys spec_l1Byte.g.rts spec_l1Byte.g.pms))) = evC (spec_l1Byte.E k) (fun κ s => lhOf k κ s spec_l1Byte.pts) b125 (OM.start spec_l1Byte.g.pms 0 (a0, ())) (OM.fin spec_l1Byte.g Try.f125.results.toList) := by kernel_rfl
theorem spec_l1Byte.ok (k : Nat) : SmOk Try.prog (spec_l1Byte.sm k) :=
  sm_ok mixed (E := spec_l1Byte.E) (pts := spec_l1Byte.pts) (fun k => ⟨⟨tysOk, by kernel_rfl⟩, forall_nil⟩) (fun _ => rfl) (fun _ => rfl)
    ⟨Try.func125, by kernel_rfl, by kernel_rfl, by kernel_rfl, by kernel_rfl, by kernel_rfl, by kernel_rfl⟩ (forall_nil) (fun k x => spec_l1Byte.hf k x.1) k
noncomputable def b71 : Code := Try.f71.body.getD .skip
theorem e71 : OM.Entry Try.prog 71 := ⟨_, Try.func71, by kernel_rfl, by kernel_rfl⟩
@[reducible] noncomputable def spec_l1Below.g : Sig := ⟨[.ptr tl1Cur .z .z, .fz (.int .i64)], [.v (.int .i64) .z], []⟩
@[reducible] noncomputable def spec_l1Below.fk : Nat → denI spec_l1Below.g.pms → Option (denR (outTys spec_l1Below.g.rts spec_l1Below.g.pms)) := fun k x => spec_l1Below.f x.1 x.2.1
@[reducible] noncomputable def spec_l1Below.sm (k : Nat) : Sm := ⟨71, spec_l1Below.g.pms, spec_l1Below.g.rts, spec_l1Below.fk k⟩
noncomputable def spec_l1Below.E (k : Nat) : Env := ⟨tys, [spec_l1Byte.sm k], [], [], []⟩
noncomputable def spec_l1Below.pts : List (Pt (denR (outTys spec_l1Below.g.rts spec_l1Below.g.pms))) := []
theorem spec_l1Below.hf (k : Nat) (a0 : l1Cur) (a1 : Int) : (spec_l1Below.f a0 a1 : Option (denR (outTys spec_l1Below.g.rts spec_l1Below.g.pms))) = evC (spec_l1Below.E k) (fun κ s => lhOf k κ s spec_l1Below.pts) b71 (OM.start spec_l1Below.g.pms 0 (a0, a1, ())) (OM.fin spec_l1Below.g Try.f71.results.toList) := by kernel_rfl
theorem spec_l1Below.ok (k : Nat) : SmOk Try.prog (spec_l1Below.sm k) :=
  sm_ok mixed (E := spec_l1Below.E) (pts := spec_l1Below.pts) (fun k => ⟨⟨tysOk, by kernel_rfl⟩, forall_cons ⟨spec_l1Byte.ok k, e125⟩ (forall_nil)⟩) (fun _ => rfl) (fun _ => rfl)
    ⟨Try.func71, by kernel_rfl, by kernel_rfl, by kernel_rfl, by kernel_rfl, by kernel_rfl, by kernel_rfl⟩ (forall_nil) (fun k x => spec_l1Below.hf k x.1 x.2.1) k
noncomputable def b137 : Code := Try.f137.body.getD .skip
theorem e137 : OM.Entry Try.prog 137 := ⟨_, Try.func137, by kernel_rfl, by kernel_rfl⟩
@[reducible] noncomputable def spec_l1Place.g : Sig := ⟨[.fz (.int .i64), .fz (.int .i64)], [.v (.int .i64) .z], []⟩
@[reducible] noncomputable def spec_l1Place.fk : Nat → denI spec_l1Place.g.pms → Option (denR (outTys spec_l1Place.g.rts spec_l1Place.g.pms)) := fun k x => spec_l1Place.f x.1 x.2.1
@[reducible] noncomputable def spec_l1Place.sm (k : Nat) : Sm := ⟨137, spec_l1Place.g.pms, spec_l1Place.g.rts, spec_l1Place.fk k⟩
noncomputable def spec_l1Place.E (k : Nat) : Env := ⟨tys, [], [], [], []⟩
noncomputable def spec_l1Place.pts : List (Pt (denR (outTys spec_l1Place.g.rts spec_l1Place.g.pms))) := []
theorem spec_l1Place.hf (k : Nat) (a0 : Int) (a1 : Int) : (spec_l1Place.f a0 a1 : Option (denR (outTys spec_l1Place.g.rts spec_l1Place.g.pms))) = evC (spec_l1Place.E k) (fun κ s => lhOf k κ s spec_l1Place.pts) b137 (OM.start spec_l1Place.g.pms 0 (a0, a1, ())) (OM.fin spec_l1Place.g Try.f137.results.toList) := by kernel_rfl
theorem spec_l1Place.ok (k : Nat) : SmOk Try.prog (spec_l1Place.sm k) :=
  sm_ok mixed (E := spec_l1Place.E) (pts := spec_l1Place.pts) (fun k => ⟨⟨tysOk, by kernel_rfl⟩, forall_nil⟩) (fun _ => rfl) (fun _ => rfl)
    ⟨Try.func137, by kernel_rfl, by kernel_rfl, by kernel_rfl, by kernel_rfl, by kernel_rfl, by kernel_rfl⟩ (forall_nil) (fun k x => spec_l1Place.hf k x.1 x.2.1) k
noncomputable def b164 : Code := Try.f164.body.getD .skip
theorem e164 : OM.Entry Try.prog 164 := ⟨_, Try.func164, by kernel_rfl, by kernel_rfl⟩
@[reducible] noncomputable def spec_l1Pick.g : Sig := ⟨[.ptr tl1Cur .z .z, .fz (.sl .str)], [.v .str .z], []⟩
@[reducible] noncomputable def spec_l1Pick.fk : Nat → denI spec_l1Pick.g.pms → Option (denR (outTys spec_l1Pick.g.rts spec_l1Pick.g.pms)) := fun k x => spec_l1Pick.f x.1 x.2.1
@[reducible] noncomputable def spec_l1Pick.sm (k : Nat) : Sm := ⟨164, spec_l1Pick.g.pms, spec_l1Pick.g.rts, spec_l1Pick.fk k⟩
noncomputable def spec_l1Pick.E (k : Nat) : Env := ⟨tys, [spec_l1Below.sm k], [], [], []⟩
noncomputable def spec_l1Pick.pts : List (Pt (denR (outTys spec_l1Pick.g.rts spec_l1Pick.g.pms))) := []
theorem spec_l1Pick.hf (k : Nat) (a0 : l1Cur) (a1 : (List ByteArray)) : (spec_l1Pick.f a0 a1 : Option (denR (outTys spec_l1Pick.g.rts spec_l1Pick.g.pms))) = evC (spec_l1Pick.E k) (fun κ s => lhOf k κ s spec_l1Pick.pts) b164 (OM.start spec_l1Pick.g.pms 0 (a0, a1, ())) (OM.fin spec_l1Pick.g Try.f164.results.toList) := by kernel_rfl
theorem spec_l1Pick.ok (k : Nat) : SmOk Try.prog (spec_l1Pick.sm k) :=
  sm_ok mixed (E := spec_l1Pick.E) (pts := spec_l1Pick.pts) (fun k => ⟨⟨tysOk, by kernel_rfl⟩, forall_cons ⟨spec_l1Below.ok k, e71⟩ (forall_nil)⟩) (fun _ => rfl) (fun _ => rfl)
    ⟨Try.func164, by kernel_rfl, by kernel_rfl, by kernel_rfl, by kernel_rfl, by kernel_rfl, by kernel_rfl⟩ (forall_nil) (fun k x => spec_l1Pick.hf k x.1 x.2.1) k
noncomputable def b54 : Code := Try.f54.body.getD .skip
theorem e54 : OM.Entry Try.prog 54 := ⟨_, Try.func54, by kernel_rfl, by kernel_rfl⟩
@[reducible] noncomputable def spec_l1Once.g : Sig := ⟨[.ptr tl1Cur .z .z, .fz (.int .i64)], [.v .bool .z], []⟩
@[reducible] noncomputable def spec_l1Once.fk : Nat → denI spec_l1Once.g.pms → Option (denR (outTys spec_l1Once.g.rts spec_l1Once.g.pms)) := fun k x => spec_l1Once.f x.1 x.2.1
@[reducible] noncomputable def spec_l1Once.sm (k : Nat) : Sm := ⟨54, spec_l1Once.g.pms, spec_l1Once.g.rts, spec_l1Once.fk k⟩
noncomputable def spec_l1Once.E (k : Nat) : Env := ⟨tys, [spec_l1Below.sm k], [], [], []⟩
noncomputable def spec_l1Once.pts : List (Pt (denR (outTys spec_l1Once.g.rts spec_l1Once.g.pms))) := []
theorem spec_l1Once.hf (k : Nat) (a0 : l1Cur) (a1 : Int) : (spec_l1Once.f a0 a1 : Option (denR (outTys spec_l1Once.g.rts spec_l1Once.g.pms))) = evC (spec_l1Once.E k) (fun κ s => lhOf k κ s spec_l1Once.pts) b54 (OM.start spec_l1Once.g.pms 0 (a0, a1, ())) (OM.fin spec_l1Once.g Try.f54.results.toList) := by kernel_rfl
theorem spec_l1Once.ok (k : Nat) : SmOk Try.prog (spec_l1Once.sm k) :=
  sm_ok mixed (E := spec_l1Once.E) (pts := spec_l1Once.pts) (fun k => ⟨⟨tysOk, by kernel_rfl⟩, forall_cons ⟨spec_l1Below.ok k, e71⟩ (forall_nil)⟩) (fun _ => rfl) (fun _ => rfl)
    ⟨Try.func54, by kernel_rfl, by kernel_rfl, by kernel_rfl, by kernel_rfl, by kernel_rfl, by kernel_rfl⟩ (forall_nil) (fun k x => spec_l1Once.hf k x.1 x.2.1) k
noncomputable def b63 : Code := Try.f63.body.getD .skip
theorem e63 : OM.Entry Try.prog 63 := ⟨_, Try.func63, by kernel_rfl, by kernel_rfl⟩
@[reducible] noncomputable def spec_l1In.g : Sig := ⟨[.fz (.int .i64), .fz (.int .i64), .fz (.int .i64)], [.v .bool .z], []⟩
@[reducible] noncomputable def spec_l1In.fk : Nat → denI spec_l1In.g.pms → Option (denR (outTys spec_l1In.g.rts spec_l1In.g.pms)) := fun k x => spec_l1In.f x.1 x.2.1 x.2.2.1
@[reducible] noncomputable def spec_l1In.sm (k : Nat) : Sm := ⟨63, spec_l1In.g.pms, spec_l1In.g.rts, spec_l1In.fk k⟩
noncomputable def spec_l1In.E (k : Nat) : Env := ⟨tys, [], [], [], []⟩
noncomputable def spec_l1In.pts : List (Pt (denR (outTys spec_l1In.g.rts spec_l1In.g.pms))) := []
theorem spec_l1In.hf (k : Nat) (a0 : Int) (a1 : Int) (a2 : Int) : (spec_l1In.f a0 a1 a2 : Option (denR (outTys spec_l1In.g.rts spec_l1In.g.pms))) = evC (spec_l1In.E k) (fun κ s => lhOf k κ s spec_l1In.pts) b63 (OM.start spec_l1In.g.pms 0 (a0, a1, a2, ())) (OM.fin spec_l1In.g Try.f63.results.toList) := by kernel_rfl
theorem spec_l1In.ok (k : Nat) : SmOk Try.prog (spec_l1In.sm k) :=
  sm_ok mixed (E := spec_l1In.E) (pts := spec_l1In.pts) (fun k => ⟨⟨tysOk, by kernel_rfl⟩, forall_nil⟩) (fun _ => rfl) (fun _ => rfl)
    ⟨Try.func63, by kernel_rfl, by kernel_rfl, by kernel_rfl, by kernel_rfl, by kernel_rfl, by kernel_rfl⟩ (forall_nil) (fun k x => spec_l1In.hf k x.1 x.2.1 x.2.2.1) k
noncomputable def b93 : Code := Try.f93.body.getD .skip
theorem e93 : OM.Entry Try.prog 93 := ⟨_, Try.func93, by kernel_rfl, by kernel_rfl⟩
@[reducible] noncomputable def spec_PlaceOk.g : Sig := ⟨[.fz (.int .i64)], [.v .bool .z], []⟩
@[reducible] noncomputable def spec_PlaceOk.fk : Nat → denI spec_PlaceOk.g.pms → Option (denR (outTys spec_PlaceOk.g.rts spec_PlaceOk.g.pms)) := fun k x => spec_PlaceOk.f x.1
@[reducible] noncomputable def spec_PlaceOk.sm (k : Nat) : Sm := ⟨93, spec_PlaceOk.g.pms, spec_PlaceOk.g.rts, spec_PlaceOk.fk k⟩
noncomputable def spec_PlaceOk.E (k : Nat) : Env := ⟨tys, [spec_l1In.sm k], [], [], []⟩
noncomputable def spec_PlaceOk.pts : List (Pt (denR (outTys spec_PlaceOk.g.rts spec_PlaceOk.g.pms))) := []
theorem spec_PlaceOk.hf (k : Nat) (a0 : Int) : (spec_PlaceOk.f a0 : Option (denR (outTys spec_PlaceOk.g.rts spec_PlaceOk.g.pms))) = evC (spec_PlaceOk.E k) (fun κ s => lhOf k κ s spec_PlaceOk.pts) b93 (OM.start spec_PlaceOk.g.pms 0 (a0, ())) (OM.fin spec_PlaceOk.g Try.f93.results.toList) := by kernel_rfl
theorem spec_PlaceOk.ok (k : Nat) : SmOk Try.prog (spec_PlaceOk.sm k) :=
  sm_ok mixed (E := spec_PlaceOk.E) (pts := spec_PlaceOk.pts) (fun k => ⟨⟨tysOk, by kernel_rfl⟩, forall_cons ⟨spec_l1In.ok k, e63⟩ (forall_nil)⟩) (fun _ => rfl) (fun _ => rfl)
    ⟨Try.func93, by kernel_rfl, by kernel_rfl, by kernel_rfl, by kernel_rfl, by kernel_rfl, by kernel_rfl⟩ (forall_nil) (fun k x => spec_PlaceOk.hf k x.1) k
noncomputable def b67 : Code := Try.f67.body.getD .skip
theorem e67 : OM.Entry Try.prog 67 := ⟨_, Try.func67, by kernel_rfl, by kernel_rfl⟩
@[reducible] noncomputable def spec_EpochOf.g : Sig := ⟨[.fz (.int .i64)], [.v (.int .i64) .z], []⟩
@[reducible] noncomputable def spec_EpochOf.fk : Nat → denI spec_EpochOf.g.pms → Option (denR (outTys spec_EpochOf.g.rts spec_EpochOf.g.pms)) := fun k x => spec_EpochOf.f x.1
@[reducible] noncomputable def spec_EpochOf.sm (k : Nat) : Sm := ⟨67, spec_EpochOf.g.pms, spec_EpochOf.g.rts, spec_EpochOf.fk k⟩
noncomputable def spec_EpochOf.E (k : Nat) : Env := ⟨tys, [spec_PlaceOk.sm k], [], [], []⟩
noncomputable def spec_EpochOf.pts : List (Pt (denR (outTys spec_EpochOf.g.rts spec_EpochOf.g.pms))) := []
theorem spec_EpochOf.hf (k : Nat) (a0 : Int) : (spec_EpochOf.f a0 : Option (denR (outTys spec_EpochOf.g.rts spec_EpochOf.g.pms))) = evC (spec_EpochOf.E k) (fun κ s => lhOf k κ s spec_EpochOf.pts) b67 (OM.start spec_EpochOf.g.pms 0 (a0, ())) (OM.fin spec_EpochOf.g Try.f67.results.toList) := by kernel_rfl
theorem spec_EpochOf.ok (k : Nat) : SmOk Try.prog (spec_EpochOf.sm k) :=
  sm_ok mixed (E := spec_EpochOf.E) (pts := spec_EpochOf.pts) (fun k => ⟨⟨tysOk, by kernel_rfl⟩, forall_cons ⟨spec_PlaceOk.ok k, e93⟩ (forall_nil)⟩) (fun _ => rfl) (fun _ => rfl)
    ⟨Try.func67, by kernel_rfl, by kernel_rfl, by kernel_rfl, by kernel_rfl, by kernel_rfl, by kernel_rfl⟩ (forall_nil) (fun k x => spec_EpochOf.hf k x.1) k
noncomputable def b148 : Code := Try.f148.body.getD .skip
theorem e148 : OM.Entry Try.prog 148 := ⟨_, Try.func148, by kernel_rfl, by kernel_rfl⟩
@[reducible] noncomputable def spec_l3DrawRight.g : Sig := ⟨[.ptr tl1Cur .z .z], [.v tEntry .z], []⟩
@[reducible] noncomputable def spec_l3DrawRight.fk : Nat → denI spec_l3DrawRight.g.pms → Option (denR (outTys spec_l3DrawRight.g.rts spec_l3DrawRight.g.pms)) := fun k x => spec_l3DrawRight.f x.1
@[reducible] noncomputable def spec_l3DrawRight.sm (k : Nat) : Sm := ⟨148, spec_l3DrawRight.g.pms, spec_l3DrawRight.g.rts, spec_l3DrawRight.fk k⟩
noncomputable def spec_l3DrawRight.E (k : Nat) : Env := ⟨tys, [spec_l1Below.sm k, spec_l1Place.sm k, spec_l1Pick.sm k, spec_l1Once.sm k, spec_EpochOf.sm k], [], [], []⟩
noncomputable def spec_l3DrawRight.pts : List (Pt (denR (outTys spec_l3DrawRight.g.rts spec_l3DrawRight.g.pms))) := []
theorem spec_l3DrawRight.hf (k : Nat) (a0 : l1Cur) : (spec_l3DrawRight.f a0 : Option (denR (outTys spec_l3DrawRight.g.rts spec_l3DrawRight.g.pms))) = evC (spec_l3DrawRight.E k) (fun κ s => lhOf k κ s spec_l3DrawRight.pts) b148 (OM.start spec_l3DrawRight.g.pms 0 (a0, ())) (OM.fin spec_l3DrawRight.g Try.f148.results.toList) := by kernel_rfl
theorem spec_l3DrawRight.ok (k : Nat) : SmOk Try.prog (spec_l3DrawRight.sm k) :=
  sm_ok mixed (E := spec_l3DrawRight.E) (pts := spec_l3DrawRight.pts) (fun k => ⟨⟨tysOk, by kernel_rfl⟩, forall_cons ⟨spec_l1Below.ok k, e71⟩ (forall_cons ⟨spec_l1Place.ok k, e137⟩ (forall_cons ⟨spec_l1Pick.ok k, e164⟩ (forall_cons ⟨spec_l1Once.ok k, e54⟩ (forall_cons ⟨spec_EpochOf.ok k, e67⟩ (forall_nil)))))⟩) (fun _ => rfl) (fun _ => rfl)
    ⟨Try.func148, by kernel_rfl, by kernel_rfl, by kernel_rfl, by kernel_rfl, by kernel_rfl, by kernel_rfl⟩ (forall_nil) (fun k x => spec_l3DrawRight.hf k x.1) k
noncomputable def b66 : Code := Try.f66.body.getD .skip
theorem e66 : OM.Entry Try.prog 66 := ⟨_, Try.func66, by kernel_rfl, by kernel_rfl⟩
@[reducible] noncomputable def spec_EntryOk.g : Sig := ⟨[.fz tEntry], [.v .bool .z], []⟩
@[reducible] noncomputable def spec_EntryOk.fk : Nat → denI spec_EntryOk.g.pms → Option (denR (outTys spec_EntryOk.g.rts spec_EntryOk.g.pms)) := fun k x => spec_EntryOk.f k x.1
@[reducible] noncomputable def spec_EntryOk.sm (k : Nat) : Sm := ⟨66, spec_EntryOk.g.pms, spec_EntryOk.g.rts, spec_EntryOk.fk k⟩
noncomputable def spec_EntryOk.E (k : Nat) : Env := ⟨tys, [spec_l1In.sm k, spec_PlaceOk.sm k, spec_EpochOf.sm k], [], [3], []⟩
@[reducible] noncomputable def spec_EntryOk.s6 : List Slot := [.r 4 5 [] tEntry, .v 5 tEntry .z [] 0]
noncomputable def spec_EntryOk.pts : List (Pt (denR (outTys spec_EntryOk.g.rts spec_EntryOk.g.pms))) := [⟨6, spec_EntryOk.s6, fun k x => spec_EntryOk.p6 k x.1⟩]
theorem spec_EntryOk.h6 (k : Nat) (x0 : Entry) : (spec_EntryOk.p6 (k + 1) x0 : Option (denR (outTys spec_EntryOk.g.rts spec_EntryOk.g.pms))) = evAt (spec_EntryOk.E k) (fun κ s => lhOf k κ s spec_EntryOk.pts) 6 b66 (unproj spec_EntryOk.s6 (x0, ())) (OM.fin spec_EntryOk.g Try.f66.results.toList) := by kernel_rfl
theorem spec_EntryOk.hf (k : Nat) (a0 : Entry) : (spec_EntryOk.f k a0 : Option (denR (outTys spec_EntryOk.g.rts spec_EntryOk.g.pms))) = evC (spec_EntryOk.E k) (fun κ s => lhOf k κ s spec_EntryOk.pts) b66 (OM.start spec_EntryOk.g.pms 0 (a0, ())) (OM.fin spec_EntryOk.g Try.f66.results.toList) := by kernel_rfl
theorem spec_EntryOk.ok (k : Nat) : SmOk Try.prog (spec_EntryOk.sm k) :=
  sm_ok mixed (E := spec_EntryOk.E) (pts := spec_EntryOk.pts) (fun k => ⟨⟨tysOk, by kernel_rfl⟩, forall_cons ⟨spec_l1In.ok k, e63⟩ (forall_cons ⟨spec_PlaceOk.ok k, e93⟩ (forall_cons ⟨spec_EpochOf.ok k, e67⟩ (forall_nil)))⟩) (fun _ => rfl) (fun _ => rfl)
    ⟨Try.func66, by kernel_rfl, by kernel_rfl, by kernel_rfl, by kernel_rfl, by kernel_rfl, by kernel_rfl⟩ (forall_cons (fun x => ⟨rfl, fun k => spec_EntryOk.h6 k x.1⟩) (forall_nil)) (fun k x => spec_EntryOk.hf k x.1) k
noncomputable def b141 : Code := Try.f141.body.getD .skip
theorem e141 : OM.Entry Try.prog 141 := ⟨_, Try.func141, by kernel_rfl, by kernel_rfl⟩
@[reducible] noncomputable def spec_l6List.g : Sig := ⟨[.fz (.sl tEntry), .fz (.int .i64)], [.v .bool .z], []⟩
@[reducible] noncomputable def spec_l6List.fk : Nat → denI spec_l6List.g.pms → Option (denR (outTys spec_l6List.g.rts spec_l6List.g.pms)) := fun k x => spec_l6List.f k x.1 x.2.1
@[reducible] noncomputable def spec_l6List.sm (k : Nat) : Sm := ⟨141, spec_l6List.g.pms, spec_l6List.g.rts, spec_l6List.fk k⟩
noncomputable def spec_l6List.E (k : Nat) : Env := ⟨tys, [spec_EntryOk.sm k], [], [], []⟩
@[reducible] noncomputable def spec_l6List.s9 : List Slot := [.v 0 (.sl tEntry) .z [] 0, .v 20 (.int .i64) .z [] 0]
noncomputable def spec_l6List.pts : List (Pt (denR (outTys spec_l6List.g.rts spec_l6List.g.pms))) := [⟨9, spec_l6List.s9, fun k x => spec_l6List.p9 k x.1 x.2.1⟩]
theorem spec_l6List.h9 (k : Nat) (x0 : (List Entry)) (x1 : Int) : (spec_l6List.p9 (k + 1) x0 x1 : Option (denR (outTys spec_l6List.g.rts spec_l6List.g.pms))) = evAt (spec_l6List.E k) (fun κ s => lhOf k κ s spec_l6List.pts) 9 b141 (unproj spec_l6List.s9 (x0, x1, ())) (OM.fin spec_l6List.g Try.f141.results.toList) := by kernel_rfl
theorem spec_l6List.hf (k : Nat) (a0 : (List Entry)) (a1 : Int) : (spec_l6List.f k a0 a1 : Option (denR (outTys spec_l6List.g.rts spec_l6List.g.pms))) = evC (spec_l6List.E k) (fun κ s => lhOf k κ s spec_l6List.pts) b141 (OM.start spec_l6List.g.pms 0 (a0, a1, ())) (OM.fin spec_l6List.g Try.f141.results.toList) := by kernel_rfl
theorem spec_l6List.ok (k : Nat) : SmOk Try.prog (spec_l6List.sm k) :=
  sm_ok mixed (E := spec_l6List.E) (pts := spec_l6List.pts) (fun k => ⟨⟨tysOk, by kernel_rfl⟩, forall_cons ⟨spec_EntryOk.ok k, e66⟩ (forall_nil)⟩) (fun _ => rfl) (fun _ => rfl)
    ⟨Try.func141, by kernel_rfl, by kernel_rfl, by kernel_rfl, by kernel_rfl, by kernel_rfl, by kernel_rfl⟩ (forall_cons (fun x => ⟨rfl, fun k => spec_l6List.h9 k x.1 x.2.1⟩) (forall_nil)) (fun k x => spec_l6List.hf k x.1 x.2.1) k
noncomputable def b65 : Code := Try.f65.body.getD .skip
theorem e65 : OM.Entry Try.prog 65 := ⟨_, Try.func65, by kernel_rfl, by kernel_rfl⟩
@[reducible] noncomputable def spec_l6Asc.g : Sig := ⟨[.fz (.sl tEntry)], [.v .bool .z], []⟩
@[reducible] noncomputable def spec_l6Asc.fk : Nat → denI spec_l6Asc.g.pms → Option (denR (outTys spec_l6Asc.g.rts spec_l6Asc.g.pms)) := fun k x => spec_l6Asc.f k x.1
@[reducible] noncomputable def spec_l6Asc.sm (k : Nat) : Sm := ⟨65, spec_l6Asc.g.pms, spec_l6Asc.g.rts, spec_l6Asc.fk k⟩
noncomputable def spec_l6Asc.E (k : Nat) : Env := ⟨tys, [], [], [], []⟩
@[reducible] noncomputable def spec_l6Asc.s5 : List Slot := [.v 0 (.sl tEntry) .z [] 0, .v 12 (.int .i64) .z [] 0]
noncomputable def spec_l6Asc.pts : List (Pt (denR (outTys spec_l6Asc.g.rts spec_l6Asc.g.pms))) := [⟨5, spec_l6Asc.s5, fun k x => spec_l6Asc.p5 k x.1 x.2.1⟩]
theorem spec_l6Asc.h5 (k : Nat) (x0 : (List Entry)) (x1 : Int) : (spec_l6Asc.p5 (k + 1) x0 x1 : Option (denR (outTys spec_l6Asc.g.rts spec_l6Asc.g.pms))) = evAt (spec_l6Asc.E k) (fun κ s => lhOf k κ s spec_l6Asc.pts) 5 b65 (unproj spec_l6Asc.s5 (x0, x1, ())) (OM.fin spec_l6Asc.g Try.f65.results.toList) := by kernel_rfl
theorem spec_l6Asc.hf (k : Nat) (a0 : (List Entry)) : (spec_l6Asc.f k a0 : Option (denR (outTys spec_l6Asc.g.rts spec_l6Asc.g.pms))) = evC (spec_l6Asc.E k) (fun κ s => lhOf k κ s spec_l6Asc.pts) b65 (OM.start spec_l6Asc.g.pms 0 (a0, ())) (OM.fin spec_l6Asc.g Try.f65.results.toList) := by kernel_rfl
theorem spec_l6Asc.ok (k : Nat) : SmOk Try.prog (spec_l6Asc.sm k) :=
  sm_ok mixed (E := spec_l6Asc.E) (pts := spec_l6Asc.pts) (fun k => ⟨⟨tysOk, by kernel_rfl⟩, forall_nil⟩) (fun _ => rfl) (fun _ => rfl)
    ⟨Try.func65, by kernel_rfl, by kernel_rfl, by kernel_rfl, by kernel_rfl, by kernel_rfl, by kernel_rfl⟩ (forall_cons (fun x => ⟨rfl, fun k => spec_l6Asc.h5 k x.1 x.2.1⟩) (forall_nil)) (fun k x => spec_l6Asc.hf k x.1) k
noncomputable def b98 : Code := Try.f98.body.getD .skip
theorem e98 : OM.Entry Try.prog 98 := ⟨_, Try.func98, by kernel_rfl, by kernel_rfl⟩
@[reducible] noncomputable def spec_StoreOk.g : Sig := ⟨[.fz tStore], [.v .bool .z], []⟩
@[reducible] noncomputable def spec_StoreOk.fk : Nat → denI spec_StoreOk.g.pms → Option (denR (outTys spec_StoreOk.g.rts spec_StoreOk.g.pms)) := fun k x => spec_StoreOk.f k x.1
@[reducible] noncomputable def spec_StoreOk.sm (k : Nat) : Sm := ⟨98, spec_StoreOk.g.pms, spec_StoreOk.g.rts, spec_StoreOk.fk k⟩
noncomputable def spec_StoreOk.E (k : Nat) : Env := ⟨tys, [spec_l1In.sm k, spec_l6List.sm k, spec_l6Asc.sm k], [], [], []⟩
noncomputable def spec_StoreOk.pts : List (Pt (denR (outTys spec_StoreOk.g.rts spec_StoreOk.g.pms))) := []
theorem spec_StoreOk.hf (k : Nat) (a0 : Store) : (spec_StoreOk.f k a0 : Option (denR (outTys spec_StoreOk.g.rts spec_StoreOk.g.pms))) = evC (spec_StoreOk.E k) (fun κ s => lhOf k κ s spec_StoreOk.pts) b98 (OM.start spec_StoreOk.g.pms 0 (a0, ())) (OM.fin spec_StoreOk.g Try.f98.results.toList) := by kernel_rfl
theorem spec_StoreOk.ok (k : Nat) : SmOk Try.prog (spec_StoreOk.sm k) :=
  sm_ok mixed (E := spec_StoreOk.E) (pts := spec_StoreOk.pts) (fun k => ⟨⟨tysOk, by kernel_rfl⟩, forall_cons ⟨spec_l1In.ok k, e63⟩ (forall_cons ⟨spec_l6List.ok k, e141⟩ (forall_cons ⟨spec_l6Asc.ok k, e65⟩ (forall_nil)))⟩) (fun _ => rfl) (fun _ => rfl)
    ⟨Try.func98, by kernel_rfl, by kernel_rfl, by kernel_rfl, by kernel_rfl, by kernel_rfl, by kernel_rfl⟩ (forall_nil) (fun k x => spec_StoreOk.hf k x.1) k
noncomputable def b162 : Code := Try.f162.body.getD .skip
theorem e162 : OM.Entry Try.prog 162 := ⟨_, Try.func162, by kernel_rfl, by kernel_rfl⟩
@[reducible] noncomputable def spec_l6Copy.g : Sig := ⟨[.fz tStore], [.v tStore (.two (.own .z) (.two (.own .z) .z))], []⟩
@[reducible] noncomputable def spec_l6Copy.fk : Nat → denI spec_l6Copy.g.pms → Option (denR (outTys spec_l6Copy.g.rts spec_l6Copy.g.pms)) := fun k x => spec_l6Copy.f x.1
@[reducible] noncomputable def spec_l6Copy.sm (k : Nat) : Sm := ⟨162, spec_l6Copy.g.pms, spec_l6Copy.g.rts, spec_l6Copy.fk k⟩
noncomputable def spec_l6Copy.E (k : Nat) : Env := ⟨tys, [], [12], [], []⟩
noncomputable def spec_l6Copy.pts : List (Pt (denR (outTys spec_l6Copy.g.rts spec_l6Copy.g.pms))) := []
theorem spec_l6Copy.hf (k : Nat) (a0 : Store) : (spec_l6Copy.f a0 : Option (denR (outTys spec_l6Copy.g.rts spec_l6Copy.g.pms))) = evC (spec_l6Copy.E k) (fun κ s => lhOf k κ s spec_l6Copy.pts) b162 (OM.start spec_l6Copy.g.pms 0 (a0, ())) (OM.fin spec_l6Copy.g Try.f162.results.toList) := by kernel_rfl
theorem spec_l6Copy.ok (k : Nat) : SmOk Try.prog (spec_l6Copy.sm k) :=
  sm_ok mixed (E := spec_l6Copy.E) (pts := spec_l6Copy.pts) (fun k => ⟨⟨tysOk, by kernel_rfl⟩, forall_nil⟩) (fun _ => rfl) (fun _ => rfl)
    ⟨Try.func162, by kernel_rfl, by kernel_rfl, by kernel_rfl, by kernel_rfl, by kernel_rfl, by kernel_rfl⟩ (forall_nil) (fun k x => spec_l6Copy.hf k x.1) k
noncomputable def b163 : Code := Try.f163.body.getD .skip
theorem e163 : OM.Entry Try.prog 163 := ⟨_, Try.func163, by kernel_rfl, by kernel_rfl⟩
@[reducible] noncomputable def spec_l6Takes.g : Sig := ⟨[.fz tStore, .fz tEntry], [.v .bool .z], []⟩
@[reducible] noncomputable def spec_l6Takes.fk : Nat → denI spec_l6Takes.g.pms → Option (denR (outTys spec_l6Takes.g.rts spec_l6Takes.g.pms)) := fun k x => spec_l6Takes.f x.1 x.2.1
@[reducible] noncomputable def spec_l6Takes.sm (k : Nat) : Sm := ⟨163, spec_l6Takes.g.pms, spec_l6Takes.g.rts, spec_l6Takes.fk k⟩
noncomputable def spec_l6Takes.E (k : Nat) : Env := ⟨tys, [spec_EpochOf.sm k], [], [], []⟩
noncomputable def spec_l6Takes.pts : List (Pt (denR (outTys spec_l6Takes.g.rts spec_l6Takes.g.pms))) := []
theorem spec_l6Takes.hf (k : Nat) (a0 : Store) (a1 : Entry) : (spec_l6Takes.f a0 a1 : Option (denR (outTys spec_l6Takes.g.rts spec_l6Takes.g.pms))) = evC (spec_l6Takes.E k) (fun κ s => lhOf k κ s spec_l6Takes.pts) b163 (OM.start spec_l6Takes.g.pms 0 (a0, a1, ())) (OM.fin spec_l6Takes.g Try.f163.results.toList) := by kernel_rfl
theorem spec_l6Takes.ok (k : Nat) : SmOk Try.prog (spec_l6Takes.sm k) :=
  sm_ok mixed (E := spec_l6Takes.E) (pts := spec_l6Takes.pts) (fun k => ⟨⟨tysOk, by kernel_rfl⟩, forall_cons ⟨spec_EpochOf.ok k, e67⟩ (forall_nil)⟩) (fun _ => rfl) (fun _ => rfl)
    ⟨Try.func163, by kernel_rfl, by kernel_rfl, by kernel_rfl, by kernel_rfl, by kernel_rfl, by kernel_rfl⟩ (forall_nil) (fun k x => spec_l6Takes.hf k x.1 x.2.1) k
noncomputable def b147 : Code := Try.f147.body.getD .skip
theorem e147 : OM.Entry Try.prog 147 := ⟨_, Try.func147, by kernel_rfl, by kernel_rfl⟩
@[reducible] noncomputable def spec_StorePut.g : Sig := ⟨[.fz tStore, .fz tEntry], [.v tStore (.two (.own .z) (.two (.own .z) .z)), .v .bool .z], []⟩
@[reducible] noncomputable def spec_StorePut.fk : Nat → denI spec_StorePut.g.pms → Option (denR (outTys spec_StorePut.g.rts spec_StorePut.g.pms)) := fun k x => spec_StorePut.f k x.1 x.2.1
@[reducible] noncomputable def spec_StorePut.sm (k : Nat) : Sm := ⟨147, spec_StorePut.g.pms, spec_StorePut.g.rts, spec_StorePut.fk k⟩
noncomputable def spec_StorePut.E (k : Nat) : Env := ⟨tys, [spec_EntryOk.sm k, spec_StoreOk.sm k, spec_l6Copy.sm k, spec_l6Takes.sm k], [31], [], []⟩
noncomputable def spec_StorePut.pts : List (Pt (denR (outTys spec_StorePut.g.rts spec_StorePut.g.pms))) := []
theorem spec_StorePut.hf (k : Nat) (a0 : Store) (a1 : Entry) : (spec_StorePut.f k a0 a1 : Option (denR (outTys spec_StorePut.g.rts spec_StorePut.g.pms))) = evC (spec_StorePut.E k) (fun κ s => lhOf k κ s spec_StorePut.pts) b147 (OM.start spec_StorePut.g.pms 0 (a0, a1, ())) (OM.fin spec_StorePut.g Try.f147.results.toList) := by kernel_rfl
theorem spec_StorePut.ok (k : Nat) : SmOk Try.prog (spec_StorePut.sm k) :=
  sm_ok mixed (E := spec_StorePut.E) (pts := spec_StorePut.pts) (fun k => ⟨⟨tysOk, by kernel_rfl⟩, forall_cons ⟨spec_EntryOk.ok k, e66⟩ (forall_cons ⟨spec_StoreOk.ok k, e98⟩ (forall_cons ⟨spec_l6Copy.ok k, e162⟩ (forall_cons ⟨spec_l6Takes.ok k, e163⟩ (forall_nil))))⟩) (fun _ => rfl) (fun _ => rfl)
    ⟨Try.func147, by kernel_rfl, by kernel_rfl, by kernel_rfl, by kernel_rfl, by kernel_rfl, by kernel_rfl⟩ (forall_nil) (fun k x => spec_StorePut.hf k x.1 x.2.1) k
noncomputable def b179 : Code := Try.f179.body.getD .skip
theorem e179 : OM.Entry Try.prog 179 := ⟨_, Try.func179, by kernel_rfl, by kernel_rfl⟩
@[reducible] noncomputable def spec_Better.g : Sig := ⟨[.fz tEntry, .fz tEntry], [.v tEntry .z], []⟩
@[reducible] noncomputable def spec_Better.fk : Nat → denI spec_Better.g.pms → Option (denR (outTys spec_Better.g.rts spec_Better.g.pms)) := fun k x => spec_Better.f x.1 x.2.1
@[reducible] noncomputable def spec_Better.sm (k : Nat) : Sm := ⟨179, spec_Better.g.pms, spec_Better.g.rts, spec_Better.fk k⟩
noncomputable def spec_Better.E (k : Nat) : Env := ⟨tys, [], [], [], []⟩
noncomputable def spec_Better.pts : List (Pt (denR (outTys spec_Better.g.rts spec_Better.g.pms))) := []
theorem spec_Better.hf (k : Nat) (a0 : Entry) (a1 : Entry) : (spec_Better.f a0 a1 : Option (denR (outTys spec_Better.g.rts spec_Better.g.pms))) = evC (spec_Better.E k) (fun κ s => lhOf k κ s spec_Better.pts) b179 (OM.start spec_Better.g.pms 0 (a0, a1, ())) (OM.fin spec_Better.g Try.f179.results.toList) := by kernel_rfl
theorem spec_Better.ok (k : Nat) : SmOk Try.prog (spec_Better.sm k) :=
  sm_ok mixed (E := spec_Better.E) (pts := spec_Better.pts) (fun k => ⟨⟨tysOk, by kernel_rfl⟩, forall_nil⟩) (fun _ => rfl) (fun _ => rfl)
    ⟨Try.func179, by kernel_rfl, by kernel_rfl, by kernel_rfl, by kernel_rfl, by kernel_rfl, by kernel_rfl⟩ (forall_nil) (fun k x => spec_Better.hf k x.1 x.2.1) k
noncomputable def b175 : Code := Try.f175.body.getD .skip
theorem e175 : OM.Entry Try.prog 175 := ⟨_, Try.func175, by kernel_rfl, by kernel_rfl⟩
@[reducible] noncomputable def spec_l6Keep.g : Sig := ⟨[.fz (.sl tEntry), .fz tEntry], [.v (.sl tEntry) (.own .z)], []⟩
@[reducible] noncomputable def spec_l6Keep.fk : Nat → denI spec_l6Keep.g.pms → Option (denR (outTys spec_l6Keep.g.rts spec_l6Keep.g.pms)) := fun k x => spec_l6Keep.f k x.1 x.2.1
@[reducible] noncomputable def spec_l6Keep.sm (k : Nat) : Sm := ⟨175, spec_l6Keep.g.pms, spec_l6Keep.g.rts, spec_l6Keep.fk k⟩
noncomputable def spec_l6Keep.E (k : Nat) : Env := ⟨tys, [spec_Better.sm k], [56, 62], [9], []⟩
@[reducible] noncomputable def spec_l6Keep.s9 : List Slot := [.v 0 (.sl tEntry) .z [] 0, .r 12 13 [] tEntry, .v 20 (.sl tEntry) (.own .z) [] 0, .v 24 .bool .z [] 0, .v 28 (.int .i64) .z [] 0, .v 13 tEntry .z [] 0]
@[reducible] noncomputable def spec_l6Keep.s18 : List Slot := [.v 0 (.sl tEntry) .z [] 0, .r 12 13 [] tEntry, .v 20 (.sl tEntry) (.own .z) [] 0, .v 24 .bool .z [] 0, .v 28 (.int .i64) .z [] 0, .v 13 tEntry .z [] 0]
noncomputable def spec_l6Keep.pts : List (Pt (denR (outTys spec_l6Keep.g.rts spec_l6Keep.g.pms))) := [⟨9, spec_l6Keep.s9, fun k x => spec_l6Keep.p9 k x.1 x.2.1 x.2.2.1 x.2.2.2.1 x.2.2.2.2.1⟩, ⟨18, spec_l6Keep.s18, fun k x => spec_l6Keep.p18 k x.1 x.2.1 x.2.2.1 x.2.2.2.1 x.2.2.2.2.1⟩]
theorem spec_l6Keep.h9 (k : Nat) (x0 : (List Entry)) (x1 : (List Entry)) (x2 : Bool) (x3 : Int) (x4 : Entry) : (spec_l6Keep.p9 (k + 1) x0 x1 x2 x3 x4 : Option (denR (outTys spec_l6Keep.g.rts spec_l6Keep.g.pms))) = evAt (spec_l6Keep.E k) (fun κ s => lhOf k κ s spec_l6Keep.pts) 9 b175 (unproj spec_l6Keep.s9 (x0, x1, x2, x3, x4, ())) (OM.fin spec_l6Keep.g Try.f175.results.toList) := by kernel_rfl
theorem spec_l6Keep.h18 (k : Nat) (x0 : (List Entry)) (x1 : (List Entry)) (x2 : Bool) (x3 : Int) (x4 : Entry) : (spec_l6Keep.p18 (k + 1) x0 x1 x2 x3 x4 : Option (denR (outTys spec_l6Keep.g.rts spec_l6Keep.g.pms))) = evAt (spec_l6Keep.E k) (fun κ s => lhOf k κ s spec_l6Keep.pts) 18 b175 (unproj spec_l6Keep.s18 (x0, x1, x2, x3, x4, ())) (OM.fin spec_l6Keep.g Try.f175.results.toList) := by kernel_rfl
theorem spec_l6Keep.hf (k : Nat) (a0 : (List Entry)) (a1 : Entry) : (spec_l6Keep.f k a0 a1 : Option (denR (outTys spec_l6Keep.g.rts spec_l6Keep.g.pms))) = evC (spec_l6Keep.E k) (fun κ s => lhOf k κ s spec_l6Keep.pts) b175 (OM.start spec_l6Keep.g.pms 0 (a0, a1, ())) (OM.fin spec_l6Keep.g Try.f175.results.toList) := by kernel_rfl
theorem spec_l6Keep.ok (k : Nat) : SmOk Try.prog (spec_l6Keep.sm k) :=
  sm_ok mixed (E := spec_l6Keep.E) (pts := spec_l6Keep.pts) (fun k => ⟨⟨tysOk, by kernel_rfl⟩, forall_cons ⟨spec_Better.ok k, e179⟩ (forall_nil)⟩) (fun _ => rfl) (fun _ => rfl)
    ⟨Try.func175, by kernel_rfl, by kernel_rfl, by kernel_rfl, by kernel_rfl, by kernel_rfl, by kernel_rfl⟩ (forall_cons (fun x => ⟨rfl, fun k => spec_l6Keep.h9 k x.1 x.2.1 x.2.2.1 x.2.2.2.1 x.2.2.2.2.1⟩) (forall_cons (fun x => ⟨rfl, fun k => spec_l6Keep.h18 k x.1 x.2.1 x.2.2.1 x.2.2.2.1 x.2.2.2.2.1⟩) (forall_nil))) (fun k x => spec_l6Keep.hf k x.1 x.2.1) k
noncomputable def b165 : Code := Try.f165.body.getD .skip
theorem e165 : OM.Entry Try.prog 165 := ⟨_, Try.func165, by kernel_rfl, by kernel_rfl⟩
@[reducible] noncomputable def spec_StoreCrash.g : Sig := ⟨[.fz tStore, .fz (.int .i64)], [.v tStore (.two (.own .z) (.two (.own .z) .z)), .v .bool .z], []⟩
@[reducible] noncomputable def spec_StoreCrash.fk : Nat → denI spec_StoreCrash.g.pms → Option (denR (outTys spec_StoreCrash.g.rts spec_StoreCrash.g.pms)) := fun k x => spec_StoreCrash.f k x.1 x.2.1
@[reducible] noncomputable def spec_StoreCrash.sm (k : Nat) : Sm := ⟨165, spec_StoreCrash.g.pms, spec_StoreCrash.g.rts, spec_StoreCrash.fk k⟩
noncomputable def spec_StoreCrash.E (k : Nat) : Env := ⟨tys, [spec_l1In.sm k, spec_StoreOk.sm k, spec_l6Copy.sm k, spec_l6Keep.sm k], [], [], []⟩
@[reducible] noncomputable def spec_StoreCrash.s11 : List Slot := [.v 4 (.int .i64) .z [] 0, .r 8 9 [] tStore, .r 16 17 [] tStore, .r 24 25 [] tStore, .v 28 (.int .i64) .z [] 0, .v 9 tStore .z [] 0, .v 17 tStore (.two (.own .a) (.two (.own .a) .z)) [] 0, .v 25 tStore (.two (.own .z) (.two (.own .a) .z)) [] 0]
noncomputable def spec_StoreCrash.pts : List (Pt (denR (outTys spec_StoreCrash.g.rts spec_StoreCrash.g.pms))) := [⟨11, spec_StoreCrash.s11, fun k x => spec_StoreCrash.p11 k x.1 x.2.1 x.2.2.1 x.2.2.2.1 x.2.2.2.2.1⟩]
theorem spec_StoreCrash.h11 (k : Nat) (x0 : Int) (x1 : Int) (x2 : Store) (x3 : Store) (x4 : Store) : (spec_StoreCrash.p11 (k + 1) x0 x1 x2 x3 x4 : Option (denR (outTys spec_StoreCrash.g.rts spec_StoreCrash.g.pms))) = evAt (spec_StoreCrash.E k) (fun κ s => lhOf k κ s spec_StoreCrash.pts) 11 b165 (unproj spec_StoreCrash.s11 (x0, x1, x2, x3, x4, ())) (OM.fin spec_StoreCrash.g Try.f165.results.toList) := by kernel_rfl
theorem spec_StoreCrash.hf (k : Nat) (a0 : Store) (a1 : Int) : (spec_StoreCrash.f k a0 a1 : Option (denR (outTys spec_StoreCrash.g.rts spec_StoreCrash.g.pms))) = evC (spec_StoreCrash.E k) (fun κ s => lhOf k κ s spec_StoreCrash.pts) b165 (OM.start spec_StoreCrash.g.pms 0 (a0, a1, ())) (OM.fin spec_StoreCrash.g Try.f165.results.toList) := by kernel_rfl
theorem spec_StoreCrash.ok (k : Nat) : SmOk Try.prog (spec_StoreCrash.sm k) :=
  sm_ok mixed (E := spec_StoreCrash.E) (pts := spec_StoreCrash.pts) (fun k => ⟨⟨tysOk, by kernel_rfl⟩, forall_cons ⟨spec_l1In.ok k, e63⟩ (forall_cons ⟨spec_StoreOk.ok k, e98⟩ (forall_cons ⟨spec_l6Copy.ok k, e162⟩ (forall_cons ⟨spec_l6Keep.ok k, e175⟩ (forall_nil))))⟩) (fun _ => rfl) (fun _ => rfl)
    ⟨Try.func165, by kernel_rfl, by kernel_rfl, by kernel_rfl, by kernel_rfl, by kernel_rfl, by kernel_rfl⟩ (forall_cons (fun x => ⟨rfl, fun k => spec_StoreCrash.h11 k x.1 x.2.1 x.2.2.1 x.2.2.2.1 x.2.2.2.2.1⟩) (forall_nil)) (fun k x => spec_StoreCrash.hf k x.1 x.2.1) k
noncomputable def b149 : Code := Try.f149.body.getD .skip
theorem e149 : OM.Entry Try.prog 149 := ⟨_, Try.func149, by kernel_rfl, by kernel_rfl⟩
@[reducible] noncomputable def spec_StoreSync.g : Sig := ⟨[.fz tStore], [.v tStore (.two (.own .z) (.two (.own .z) .z)), .v .bool .z], []⟩
@[reducible] noncomputable def spec_StoreSync.fk : Nat → denI spec_StoreSync.g.pms → Option (denR (outTys spec_StoreSync.g.rts spec_StoreSync.g.pms)) := fun k x => spec_StoreSync.f k x.1
@[reducible] noncomputable def spec_StoreSync.sm (k : Nat) : Sm := ⟨149, spec_StoreSync.g.pms, spec_StoreSync.g.rts, spec_StoreSync.fk k⟩
noncomputable def spec_StoreSync.E (k : Nat) : Env := ⟨tys, [spec_StoreCrash.sm k], [], [], []⟩
noncomputable def spec_StoreSync.pts : List (Pt (denR (outTys spec_StoreSync.g.rts spec_StoreSync.g.pms))) := []
theorem spec_StoreSync.hf (k : Nat) (a0 : Store) : (spec_StoreSync.f k a0 : Option (denR (outTys spec_StoreSync.g.rts spec_StoreSync.g.pms))) = evC (spec_StoreSync.E k) (fun κ s => lhOf k κ s spec_StoreSync.pts) b149 (OM.start spec_StoreSync.g.pms 0 (a0, ())) (OM.fin spec_StoreSync.g Try.f149.results.toList) := by kernel_rfl
theorem spec_StoreSync.ok (k : Nat) : SmOk Try.prog (spec_StoreSync.sm k) :=
  sm_ok mixed (E := spec_StoreSync.E) (pts := spec_StoreSync.pts) (fun k => ⟨⟨tysOk, by kernel_rfl⟩, forall_cons ⟨spec_StoreCrash.ok k, e165⟩ (forall_nil)⟩) (fun _ => rfl) (fun _ => rfl)
    ⟨Try.func149, by kernel_rfl, by kernel_rfl, by kernel_rfl, by kernel_rfl, by kernel_rfl, by kernel_rfl⟩ (forall_nil) (fun k x => spec_StoreSync.hf k x.1) k
noncomputable def b161 : Code := Try.f161.body.getD .skip
theorem e161 : OM.Entry Try.prog 161 := ⟨_, Try.func161, by kernel_rfl, by kernel_rfl⟩
@[reducible] noncomputable def spec_l1Max.g : Sig := ⟨[.fz (.int .i64), .fz (.int .i64)], [.v (.int .i64) .z], []⟩
@[reducible] noncomputable def spec_l1Max.fk : Nat → denI spec_l1Max.g.pms → Option (denR (outTys spec_l1Max.g.rts spec_l1Max.g.pms)) := fun k x => spec_l1Max.f x.1 x.2.1
@[reducible] noncomputable def spec_l1Max.sm (k : Nat) : Sm := ⟨161, spec_l1Max.g.pms, spec_l1Max.g.rts, spec_l1Max.fk k⟩
noncomputable def spec_l1Max.E (k : Nat) : Env := ⟨tys, [], [], [], []⟩
noncomputable def spec_l1Max.pts : List (Pt (denR (outTys spec_l1Max.g.rts spec_l1Max.g.pms))) := []
theorem spec_l1Max.hf (k : Nat) (a0 : Int) (a1 : Int) : (spec_l1Max.f a0 a1 : Option (denR (outTys spec_l1Max.g.rts spec_l1Max.g.pms))) = evC (spec_l1Max.E k) (fun κ s => lhOf k κ s spec_l1Max.pts) b161 (OM.start spec_l1Max.g.pms 0 (a0, a1, ())) (OM.fin spec_l1Max.g Try.f161.results.toList) := by kernel_rfl
theorem spec_l1Max.ok (k : Nat) : SmOk Try.prog (spec_l1Max.sm k) :=
  sm_ok mixed (E := spec_l1Max.E) (pts := spec_l1Max.pts) (fun k => ⟨⟨tysOk, by kernel_rfl⟩, forall_nil⟩) (fun _ => rfl) (fun _ => rfl)
    ⟨Try.func161, by kernel_rfl, by kernel_rfl, by kernel_rfl, by kernel_rfl, by kernel_rfl, by kernel_rfl⟩ (forall_nil) (fun k x => spec_l1Max.hf k x.1 x.2.1) k
noncomputable def b150 : Code := Try.f150.body.getD .skip
theorem e150 : OM.Entry Try.prog 150 := ⟨_, Try.func150, by kernel_rfl, by kernel_rfl⟩
@[reducible] noncomputable def spec_StoreSeal.g : Sig := ⟨[.fz tStore, .fz (.int .i64)], [.v tStore (.two (.own .z) (.two (.own .z) .z)), .v .bool .z], []⟩
@[reducible] noncomputable def spec_StoreSeal.fk : Nat → denI spec_StoreSeal.g.pms → Option (denR (outTys spec_StoreSeal.g.rts spec_StoreSeal.g.pms)) := fun k x => spec_StoreSeal.f k x.1 x.2.1
@[reducible] noncomputable def spec_StoreSeal.sm (k : Nat) : Sm := ⟨150, spec_StoreSeal.g.pms, spec_StoreSeal.g.rts, spec_StoreSeal.fk k⟩
noncomputable def spec_StoreSeal.E (k : Nat) : Env := ⟨tys, [spec_l1In.sm k, spec_StoreOk.sm k, spec_l6Copy.sm k, spec_StoreSync.sm k, spec_l1Max.sm k], [], [], []⟩
noncomputable def spec_StoreSeal.pts : List (Pt (denR (outTys spec_StoreSeal.g.rts spec_StoreSeal.g.pms))) := []
theorem spec_StoreSeal.hf (k : Nat) (a0 : Store) (a1 : Int) : (spec_StoreSeal.f k a0 a1 : Option (denR (outTys spec_StoreSeal.g.rts spec_StoreSeal.g.pms))) = evC (spec_StoreSeal.E k) (fun κ s => lhOf k κ s spec_StoreSeal.pts) b150 (OM.start spec_StoreSeal.g.pms 0 (a0, a1, ())) (OM.fin spec_StoreSeal.g Try.f150.results.toList) := by kernel_rfl
theorem spec_StoreSeal.ok (k : Nat) : SmOk Try.prog (spec_StoreSeal.sm k) :=
  sm_ok mixed (E := spec_StoreSeal.E) (pts := spec_StoreSeal.pts) (fun k => ⟨⟨tysOk, by kernel_rfl⟩, forall_cons ⟨spec_l1In.ok k, e63⟩ (forall_cons ⟨spec_StoreOk.ok k, e98⟩ (forall_cons ⟨spec_l6Copy.ok k, e162⟩ (forall_cons ⟨spec_StoreSync.ok k, e149⟩ (forall_cons ⟨spec_l1Max.ok k, e161⟩ (forall_nil)))))⟩) (fun _ => rfl) (fun _ => rfl)
    ⟨Try.func150, by kernel_rfl, by kernel_rfl, by kernel_rfl, by kernel_rfl, by kernel_rfl, by kernel_rfl⟩ (forall_nil) (fun k x => spec_StoreSeal.hf k x.1 x.2.1) k
noncomputable def b105 : Code := Try.f105.body.getD .skip
theorem e105 : OM.Entry Try.prog 105 := ⟨_, Try.func105, by kernel_rfl, by kernel_rfl⟩
@[reducible] noncomputable def spec_l6DrawRight.g : Sig := ⟨[.ptr tl1Cur .z .z], [.v tStore (.two (.own .z) (.two (.own .z) .z))], []⟩
@[reducible] noncomputable def spec_l6DrawRight.fk : Nat → denI spec_l6DrawRight.g.pms → Option (denR (outTys spec_l6DrawRight.g.rts spec_l6DrawRight.g.pms)) := fun k x => spec_l6DrawRight.f k x.1
@[reducible] noncomputable def spec_l6DrawRight.sm (k : Nat) : Sm := ⟨105, spec_l6DrawRight.g.pms, spec_l6DrawRight.g.rts, spec_l6DrawRight.fk k⟩
noncomputable def spec_l6DrawRight.E (k : Nat) : Env := ⟨tys, [spec_l1Below.sm k, spec_l1Place.sm k, spec_l1Once.sm k, spec_l3DrawRight.sm k, spec_StorePut.sm k, spec_StoreSync.sm k, spec_StoreSeal.sm k], [53], [], []⟩
@[reducible] noncomputable def spec_l6DrawRight.s9 : List Slot := [.r 0 36001 [] tl1Cur, .r 8 9 [] tStore, .r 12 13 [] tStore, .v 16 (.int .i64) .z [] 0, .v 20 (.int .i64) .z [] 0, .v 9 tStore (.two (.own .a) (.two (.own .a) .z)) [] 0, .v 13 tStore (.two (.own .z) (.two (.own .z) .z)) [] 0, .v 36001 tl1Cur .z [] 0]
@[reducible] noncomputable def spec_l6DrawRight.s41 : List Slot := [.r 0 36001 [] tl1Cur, .r 8 9 [] tStore, .r 12 13 [] tStore, .v 32 (.int .i64) .z [] 0, .v 9 tStore (.two (.own .a) (.two (.own .a) .z)) [] 0, .v 13 tStore (.two (.own .z) (.two (.own .z) .z)) [] 0, .v 36001 tl1Cur .z [] 0]
@[reducible] noncomputable def spec_l6DrawRight.s47 : List Slot := [.r 0 36001 [] tl1Cur, .r 8 9 [] tStore, .r 12 13 [] tStore, .v 32 (.int .i64) .z [] 0, .v 36 (.int .i64) .z [] 0, .v 9 tStore (.two (.own .a) (.two (.own .a) .z)) [] 0, .v 13 tStore (.two (.own .z) (.two (.own .z) .z)) [] 0, .v 36001 tl1Cur .z [] 0]
noncomputable def spec_l6DrawRight.pts : List (Pt (denR (outTys spec_l6DrawRight.g.rts spec_l6DrawRight.g.pms))) := [⟨9, spec_l6DrawRight.s9, fun k x => spec_l6DrawRight.p9 k x.1 x.2.1 x.2.2.1 x.2.2.2.1 x.2.2.2.2.1⟩, ⟨41, spec_l6DrawRight.s41, fun k x => spec_l6DrawRight.p41 k x.1 x.2.1 x.2.2.1 x.2.2.2.1⟩, ⟨47, spec_l6DrawRight.s47, fun k x => spec_l6DrawRight.p47 k x.1 x.2.1 x.2.2.1 x.2.2.2.1 x.2.2.2.2.1⟩]
theorem spec_l6DrawRight.h9 (k : Nat) (x0 : Int) (x1 : Int) (x2 : Store) (x3 : Store) (x4 : l1Cur) : (spec_l6DrawRight.p9 (k + 1) x0 x1 x2 x3 x4 : Option (denR (outTys spec_l6DrawRight.g.rts spec_l6DrawRight.g.pms))) = evAt (spec_l6DrawRight.E k) (fun κ s => lhOf k κ s spec_l6DrawRight.pts) 9 b105 (unproj spec_l6DrawRight.s9 (x0, x1, x2, x3, x4, ())) (OM.fin spec_l6DrawRight.g Try.f105.results.toList) := by kernel_rfl
theorem spec_l6DrawRight.h41 (k : Nat) (x0 : Int) (x1 : Store) (x2 : Store) (x3 : l1Cur) : (spec_l6DrawRight.p41 (k + 1) x0 x1 x2 x3 : Option (denR (outTys spec_l6DrawRight.g.rts spec_l6DrawRight.g.pms))) = evAt (spec_l6DrawRight.E k) (fun κ s => lhOf k κ s spec_l6DrawRight.pts) 41 b105 (unproj spec_l6DrawRight.s41 (x0, x1, x2, x3, ())) (OM.fin spec_l6DrawRight.g Try.f105.results.toList) := by kernel_rfl
theorem spec_l6DrawRight.h47 (k : Nat) (x0 : Int) (x1 : Int) (x2 : Store) (x3 : Store) (x4 : l1Cur) : (spec_l6DrawRight.p47 (k + 1) x0 x1 x2 x3 x4 : Option (denR (outTys spec_l6DrawRight.g.rts spec_l6DrawRight.g.pms))) = evAt (spec_l6DrawRight.E k) (fun κ s => lhOf k κ s spec_l6DrawRight.pts) 47 b105 (unproj spec_l6DrawRight.s47 (x0, x1, x2, x3, x4, ())) (OM.fin spec_l6DrawRight.g Try.f105.results.toList) := by kernel_rfl
theorem spec_l6DrawRight.hf (k : Nat) (a0 : l1Cur) : (spec_l6DrawRight.f k a0 : Option (denR (outTys spec_l6DrawRight.g.rts spec_l6DrawRight.g.pms))) = evC (spec_l6DrawRight.E k) (fun κ s => lhOf k κ s spec_l6DrawRight.pts) b105 (OM.start spec_l6DrawRight.g.pms 0 (a0, ())) (OM.fin spec_l6DrawRight.g Try.f105.results.toList) := by kernel_rfl
theorem spec_l6DrawRight.ok (k : Nat) : SmOk Try.prog (spec_l6DrawRight.sm k) :=
  sm_ok mixed (E := spec_l6DrawRight.E) (pts := spec_l6DrawRight.pts) (fun k => ⟨⟨tysOk, by kernel_rfl⟩, forall_cons ⟨spec_l1Below.ok k, e71⟩ (forall_cons ⟨spec_l1Place.ok k, e137⟩ (forall_cons ⟨spec_l1Once.ok k, e54⟩ (forall_cons ⟨spec_l3DrawRight.ok k, e148⟩ (forall_cons ⟨spec_StorePut.ok k, e147⟩ (forall_cons ⟨spec_StoreSync.ok k, e149⟩ (forall_cons ⟨spec_StoreSeal.ok k, e150⟩ (forall_nil)))))))⟩) (fun _ => rfl) (fun _ => rfl)
    ⟨Try.func105, by kernel_rfl, by kernel_rfl, by kernel_rfl, by kernel_rfl, by kernel_rfl, by kernel_rfl⟩ (forall_cons (fun x => ⟨rfl, fun k => spec_l6DrawRight.h9 k x.1 x.2.1 x.2.2.1 x.2.2.2.1 x.2.2.2.2.1⟩) (forall_cons (fun x => ⟨rfl, fun k => spec_l6DrawRight.h41 k x.1 x.2.1 x.2.2.1 x.2.2.2.1⟩) (forall_cons (fun x => ⟨rfl, fun k => spec_l6DrawRight.h47 k x.1 x.2.1 x.2.2.1 x.2.2.2.1 x.2.2.2.2.1⟩) (forall_nil)))) (fun k x => spec_l6DrawRight.hf k x.1) k
noncomputable def b91 : Code := Try.f91.body.getD .skip
theorem e91 : OM.Entry Try.prog 91 := ⟨_, Try.func91, by kernel_rfl, by kernel_rfl⟩
@[reducible] noncomputable def spec_l1PickInt.g : Sig := ⟨[.ptr tl1Cur .z .z, .fz (.sl (.int .i64))], [.v (.int .i64) .z], []⟩
@[reducible] noncomputable def spec_l1PickInt.fk : Nat → denI spec_l1PickInt.g.pms → Option (denR (outTys spec_l1PickInt.g.rts spec_l1PickInt.g.pms)) := fun k x => spec_l1PickInt.f x.1 x.2.1
@[reducible] noncomputable def spec_l1PickInt.sm (k : Nat) : Sm := ⟨91, spec_l1PickInt.g.pms, spec_l1PickInt.g.rts, spec_l1PickInt.fk k⟩
noncomputable def spec_l1PickInt.E (k : Nat) : Env := ⟨tys, [spec_l1Below.sm k], [], [], []⟩
noncomputable def spec_l1PickInt.pts : List (Pt (denR (outTys spec_l1PickInt.g.rts spec_l1PickInt.g.pms))) := []
theorem spec_l1PickInt.hf (k : Nat) (a0 : l1Cur) (a1 : (List Int)) : (spec_l1PickInt.f a0 a1 : Option (denR (outTys spec_l1PickInt.g.rts spec_l1PickInt.g.pms))) = evC (spec_l1PickInt.E k) (fun κ s => lhOf k κ s spec_l1PickInt.pts) b91 (OM.start spec_l1PickInt.g.pms 0 (a0, a1, ())) (OM.fin spec_l1PickInt.g Try.f91.results.toList) := by kernel_rfl
theorem spec_l1PickInt.ok (k : Nat) : SmOk Try.prog (spec_l1PickInt.sm k) :=
  sm_ok mixed (E := spec_l1PickInt.E) (pts := spec_l1PickInt.pts) (fun k => ⟨⟨tysOk, by kernel_rfl⟩, forall_cons ⟨spec_l1Below.ok k, e71⟩ (forall_nil)⟩) (fun _ => rfl) (fun _ => rfl)
    ⟨Try.func91, by kernel_rfl, by kernel_rfl, by kernel_rfl, by kernel_rfl, by kernel_rfl, by kernel_rfl⟩ (forall_nil) (fun k x => spec_l1PickInt.hf k x.1 x.2.1) k
noncomputable def b133 : Code := Try.f133.body.getD .skip
theorem e133 : OM.Entry Try.prog 133 := ⟨_, Try.func133, by kernel_rfl, by kernel_rfl⟩
@[reducible] noncomputable def spec_l1DrawPlace.g : Sig := ⟨[.ptr tl1Cur .z .z], [.v (.int .i64) .z], []⟩
@[reducible] noncomputable def spec_l1DrawPlace.fk : Nat → denI spec_l1DrawPlace.g.pms → Option (denR (outTys spec_l1DrawPlace.g.rts spec_l1DrawPlace.g.pms)) := fun k x => spec_l1DrawPlace.f x.1
@[reducible] noncomputable def spec_l1DrawPlace.sm (k : Nat) : Sm := ⟨133, spec_l1DrawPlace.g.pms, spec_l1DrawPlace.g.rts, spec_l1DrawPlace.fk k⟩
noncomputable def spec_l1DrawPlace.E (k : Nat) : Env := ⟨tys, [spec_l1Below.sm k, spec_l1Place.sm k, spec_l1PickInt.sm k], [], [], []⟩
noncomputable def spec_l1DrawPlace.pts : List (Pt (denR (outTys spec_l1DrawPlace.g.rts spec_l1DrawPlace.g.pms))) := []
theorem spec_l1DrawPlace.hf (k : Nat) (a0 : l1Cur) : (spec_l1DrawPlace.f a0 : Option (denR (outTys spec_l1DrawPlace.g.rts spec_l1DrawPlace.g.pms))) = evC (spec_l1DrawPlace.E k) (fun κ s => lhOf k κ s spec_l1DrawPlace.pts) b133 (OM.start spec_l1DrawPlace.g.pms 0 (a0, ())) (OM.fin spec_l1DrawPlace.g Try.f133.results.toList) := by kernel_rfl
theorem spec_l1DrawPlace.ok (k : Nat) : SmOk Try.prog (spec_l1DrawPlace.sm k) :=
  sm_ok mixed (E := spec_l1DrawPlace.E) (pts := spec_l1DrawPlace.pts) (fun k => ⟨⟨tysOk, by kernel_rfl⟩, forall_cons ⟨spec_l1Below.ok k, e71⟩ (forall_cons ⟨spec_l1Place.ok k, e137⟩ (forall_cons ⟨spec_l1PickInt.ok k, e91⟩ (forall_nil)))⟩) (fun _ => rfl) (fun _ => rfl)
    ⟨Try.func133, by kernel_rfl, by kernel_rfl, by kernel_rfl, by kernel_rfl, by kernel_rfl, by kernel_rfl⟩ (forall_nil) (fun k x => spec_l1DrawPlace.hf k x.1) k
noncomputable def b136 : Code := Try.f136.body.getD .skip
theorem e136 : OM.Entry Try.prog 136 := ⟨_, Try.func136, by kernel_rfl, by kernel_rfl⟩
@[reducible] noncomputable def spec_l3Draw.g : Sig := ⟨[.ptr tl1Cur .z .z], [.v tEntry .z], []⟩
@[reducible] noncomputable def spec_l3Draw.fk : Nat → denI spec_l3Draw.g.pms → Option (denR (outTys spec_l3Draw.g.rts spec_l3Draw.g.pms)) := fun k x => spec_l3Draw.f x.1
@[reducible] noncomputable def spec_l3Draw.sm (k : Nat) : Sm := ⟨136, spec_l3Draw.g.pms, spec_l3Draw.g.rts, spec_l3Draw.fk k⟩
noncomputable def spec_l3Draw.E (k : Nat) : Env := ⟨tys, [spec_l1Below.sm k, spec_l3DrawRight.sm k, spec_l1PickInt.sm k, spec_l1DrawPlace.sm k], [], [], []⟩
noncomputable def spec_l3Draw.pts : List (Pt (denR (outTys spec_l3Draw.g.rts spec_l3Draw.g.pms))) := []
theorem spec_l3Draw.hf (k : Nat) (a0 : l1Cur) : (spec_l3Draw.f a0 : Option (denR (outTys spec_l3Draw.g.rts spec_l3Draw.g.pms))) = evC (spec_l3Draw.E k) (fun κ s => lhOf k κ s spec_l3Draw.pts) b136 (OM.start spec_l3Draw.g.pms 0 (a0, ())) (OM.fin spec_l3Draw.g Try.f136.results.toList) := by kernel_rfl
theorem spec_l3Draw.ok (k : Nat) : SmOk Try.prog (spec_l3Draw.sm k) :=
  sm_ok mixed (E := spec_l3Draw.E) (pts := spec_l3Draw.pts) (fun k => ⟨⟨tysOk, by kernel_rfl⟩, forall_cons ⟨spec_l1Below.ok k, e71⟩ (forall_cons ⟨spec_l3DrawRight.ok k, e148⟩ (forall_cons ⟨spec_l1PickInt.ok k, e91⟩ (forall_cons ⟨spec_l1DrawPlace.ok k, e133⟩ (forall_nil))))⟩) (fun _ => rfl) (fun _ => rfl)
    ⟨Try.func136, by kernel_rfl, by kernel_rfl, by kernel_rfl, by kernel_rfl, by kernel_rfl, by kernel_rfl⟩ (forall_nil) (fun k x => spec_l3Draw.hf k x.1) k
noncomputable def b94 : Code := Try.f94.body.getD .skip
theorem e94 : OM.Entry Try.prog 94 := ⟨_, Try.func94, by kernel_rfl, by kernel_rfl⟩
@[reducible] noncomputable def spec_l6Draw.g : Sig := ⟨[.ptr tl1Cur .z .z], [.v tStore (.two (.own .z) (.two (.own .z) .z))], []⟩
@[reducible] noncomputable def spec_l6Draw.fk : Nat → denI spec_l6Draw.g.pms → Option (denR (outTys spec_l6Draw.g.rts spec_l6Draw.g.pms)) := fun k x => spec_l6Draw.f k x.1
@[reducible] noncomputable def spec_l6Draw.sm (k : Nat) : Sm := ⟨94, spec_l6Draw.g.pms, spec_l6Draw.g.rts, spec_l6Draw.fk k⟩
noncomputable def spec_l6Draw.E (k : Nat) : Env := ⟨tys, [spec_l1Below.sm k, spec_l1Place.sm k, spec_l6DrawRight.sm k, spec_l1PickInt.sm k, spec_l3Draw.sm k], [], [], []⟩
@[reducible] noncomputable def spec_l6Draw.s21 : List Slot := [.r 0 36001 [] tl1Cur, .r 8 9 [] tStore, .r 12 13 [] tStore, .v 9 tStore (.two (.own .a) (.two (.own .a) .z)) [] 0, .v 13 tStore (.two (.own .z) (.two (.own .z) .z)) [] 0, .v 36001 tl1Cur .z [] 0]
noncomputable def spec_l6Draw.pts : List (Pt (denR (outTys spec_l6Draw.g.rts spec_l6Draw.g.pms))) := [⟨21, spec_l6Draw.s21, fun k x => spec_l6Draw.p21 k x.1 x.2.1 x.2.2.1⟩]
theorem spec_l6Draw.h21 (k : Nat) (x0 : Store) (x1 : Store) (x2 : l1Cur) : (spec_l6Draw.p21 (k + 1) x0 x1 x2 : Option (denR (outTys spec_l6Draw.g.rts spec_l6Draw.g.pms))) = evAt (spec_l6Draw.E k) (fun κ s => lhOf k κ s spec_l6Draw.pts) 21 b94 (unproj spec_l6Draw.s21 (x0, x1, x2, ())) (OM.fin spec_l6Draw.g Try.f94.results.toList) := by kernel_rfl
theorem spec_l6Draw.hf (k : Nat) (a0 : l1Cur) : (spec_l6Draw.f k a0 : Option (denR (outTys spec_l6Draw.g.rts spec_l6Draw.g.pms))) = evC (spec_l6Draw.E k) (fun κ s => lhOf k κ s spec_l6Draw.pts) b94 (OM.start spec_l6Draw.g.pms 0 (a0, ())) (OM.fin spec_l6Draw.g Try.f94.results.toList) := by kernel_rfl
theorem spec_l6Draw.ok (k : Nat) : SmOk Try.prog (spec_l6Draw.sm k) :=
  sm_ok mixed (E := spec_l6Draw.E) (pts := spec_l6Draw.pts) (fun k => ⟨⟨tysOk, by kernel_rfl⟩, forall_cons ⟨spec_l1Below.ok k, e71⟩ (forall_cons ⟨spec_l1Place.ok k, e137⟩ (forall_cons ⟨spec_l6DrawRight.ok k, e105⟩ (forall_cons ⟨spec_l1PickInt.ok k, e91⟩ (forall_cons ⟨spec_l3Draw.ok k, e136⟩ (forall_nil)))))⟩) (fun _ => rfl) (fun _ => rfl)
    ⟨Try.func94, by kernel_rfl, by kernel_rfl, by kernel_rfl, by kernel_rfl, by kernel_rfl, by kernel_rfl⟩ (forall_cons (fun x => ⟨rfl, fun k => spec_l6Draw.h21 k x.1 x.2.1 x.2.2.1⟩) (forall_nil)) (fun k x => spec_l6Draw.hf k x.1) k
noncomputable def b38 : Code := Try.f38.body.getD .skip
theorem e38 : OM.Entry Try.prog 38 := ⟨_, Try.func38, by kernel_rfl, by kernel_rfl⟩
@[reducible] noncomputable def spec_DrawStorePack.g : Sig := ⟨[.fz (.sl (.int .u8))], [.v tStore (.two (.own .z) (.two (.own .z) .z))], []⟩
@[reducible] noncomputable def spec_DrawStorePack.fk : Nat → denI spec_DrawStorePack.g.pms → Option (denR (outTys spec_DrawStorePack.g.rts spec_DrawStorePack.g.pms)) := fun k x => spec_DrawStorePack.f k x.1
@[reducible] noncomputable def spec_DrawStorePack.sm (k : Nat) : Sm := ⟨38, spec_DrawStorePack.g.pms, spec_DrawStorePack.g.rts, spec_DrawStorePack.fk k⟩
noncomputable def spec_DrawStorePack.E (k : Nat) : Env := ⟨tys, [spec_l1New.sm k, spec_l1Once.sm k, spec_l6Draw.sm k], [], [], []⟩
noncomputable def spec_DrawStorePack.pts : List (Pt (denR (outTys spec_DrawStorePack.g.rts spec_DrawStorePack.g.pms))) := []
theorem spec_DrawStorePack.hf (k : Nat) (a0 : (List Int)) : (spec_DrawStorePack.f k a0 : Option (denR (outTys spec_DrawStorePack.g.rts spec_DrawStorePack.g.pms))) = evC (spec_DrawStorePack.E k) (fun κ s => lhOf k κ s spec_DrawStorePack.pts) b38 (OM.start spec_DrawStorePack.g.pms 0 (a0, ())) (OM.fin spec_DrawStorePack.g Try.f38.results.toList) := by kernel_rfl
theorem spec_DrawStorePack.ok (k : Nat) : SmOk Try.prog (spec_DrawStorePack.sm k) :=
  sm_ok mixed (E := spec_DrawStorePack.E) (pts := spec_DrawStorePack.pts) (fun k => ⟨⟨tysOk, by kernel_rfl⟩, forall_cons ⟨spec_l1New.ok k, e70⟩ (forall_cons ⟨spec_l1Once.ok k, e54⟩ (forall_cons ⟨spec_l6Draw.ok k, e94⟩ (forall_nil)))⟩) (fun _ => rfl) (fun _ => rfl)
    ⟨Try.func38, by kernel_rfl, by kernel_rfl, by kernel_rfl, by kernel_rfl, by kernel_rfl, by kernel_rfl⟩ (forall_nil) (fun k x => spec_DrawStorePack.hf k x.1) k
noncomputable def b59 : Code := Try.f59.body.getD .skip
theorem e59 : OM.Entry Try.prog 59 := ⟨_, Try.func59, by kernel_rfl, by kernel_rfl⟩
@[reducible] noncomputable def impl_within.g : Sig := ⟨[.fz (.int .i64), .fz (.int .i64), .fz (.int .i64)], [.v .bool .z], []⟩
@[reducible] noncomputable def impl_within.fk : Nat → denI impl_within.g.pms → Option (denR (outTys impl_within.g.rts impl_within.g.pms)) := fun k x => impl_within.f x.1 x.2.1 x.2.2.1
@[reducible] noncomputable def impl_within.sm (k : Nat) : Sm := ⟨59, impl_within.g.pms, impl_within.g.rts, impl_within.fk k⟩
noncomputable def impl_within.E (k : Nat) : Env := ⟨tys, [], [], [], []⟩
noncomputable def impl_within.pts : List (Pt (denR (outTys impl_within.g.rts impl_within.g.pms))) := []
theorem impl_within.hf (k : Nat) (a0 : Int) (a1 : Int) (a2 : Int) : (impl_within.f a0 a1 a2 : Option (denR (outTys impl_within.g.rts impl_within.g.pms))) = evC (impl_within.E k) (fun κ s => lhOf k κ s impl_within.pts) b59 (OM.start impl_within.g.pms 0 (a0, a1, a2, ())) (OM.fin impl_within.g Try.f59.results.toList) := by kernel_rfl
theorem impl_within.ok (k : Nat) : SmOk Try.prog (impl_within.sm k) :=
  sm_ok mixed (E := impl_within.E) (pts := impl_within.pts) (fun k => ⟨⟨tysOk, by kernel_rfl⟩, forall_nil⟩) (fun _ => rfl) (fun _ => rfl)
    ⟨Try.func59, by kernel_rfl, by kernel_rfl, by kernel_rfl, by kernel_rfl, by kernel_rfl, by kernel_rfl⟩ (forall_nil) (fun k x => impl_within.hf k x.1 x.2.1 x.2.2.1) k
noncomputable def b58 : Code := Try.f58.body.getD .skip
theorem e58 : OM.Entry Try.prog 58 := ⟨_, Try.func58, by kernel_rfl, by kernel_rfl⟩
@[reducible] noncomputable def impl_isEpoch.g : Sig := ⟨[.fz (.int .i64)], [.v .bool .z], []⟩
@[reducible] noncomputable def impl_isEpoch.fk : Nat → denI impl_isEpoch.g.pms → Option (denR (outTys impl_isEpoch.g.rts impl_isEpoch.g.pms)) := fun k x => impl_isEpoch.f x.1
@[reducible] noncomputable def impl_isEpoch.sm (k : Nat) : Sm := ⟨58, impl_isEpoch.g.pms, impl_isEpoch.g.rts, impl_isEpoch.fk k⟩
noncomputable def impl_isEpoch.E (k : Nat) : Env := ⟨tys, [impl_within.sm k], [], [], []⟩
noncomputable def impl_isEpoch.pts : List (Pt (denR (outTys impl_isEpoch.g.rts impl_isEpoch.g.pms))) := []
theorem impl_isEpoch.hf (k : Nat) (a0 : Int) : (impl_isEpoch.f a0 : Option (denR (outTys impl_isEpoch.g.rts impl_isEpoch.g.pms))) = evC (impl_isEpoch.E k) (fun κ s => lhOf k κ s impl_isEpoch.pts) b58 (OM.start impl_isEpoch.g.pms 0 (a0, ())) (OM.fin impl_isEpoch.g Try.f58.results.toList) := by kernel_rfl
theorem impl_isEpoch.ok (k : Nat) : SmOk Try.prog (impl_isEpoch.sm k) :=
  sm_ok mixed (E := impl_isEpoch.E) (pts := impl_isEpoch.pts) (fun k => ⟨⟨tysOk, by kernel_rfl⟩, forall_cons ⟨impl_within.ok k, e59⟩ (forall_nil)⟩) (fun _ => rfl) (fun _ => rfl)
    ⟨Try.func58, by kernel_rfl, by kernel_rfl, by kernel_rfl, by kernel_rfl, by kernel_rfl, by kernel_rfl⟩ (forall_nil) (fun k x => impl_isEpoch.hf k x.1) k
noncomputable def b126 : Code := Try.f126.body.getD .skip
theorem e126 : OM.Entry Try.prog 126 := ⟨_, Try.func126, by kernel_rfl, by kernel_rfl⟩
@[reducible] noncomputable def impl_isOff.g : Sig := ⟨[.fz (.int .i64)], [.v .bool .z], []⟩
@[reducible] noncomputable def impl_isOff.fk : Nat → denI impl_isOff.g.pms → Option (denR (outTys impl_isOff.g.rts impl_isOff.g.pms)) := fun k x => impl_isOff.f x.1
@[reducible] noncomputable def impl_isOff.sm (k : Nat) : Sm := ⟨126, impl_isOff.g.pms, impl_isOff.g.rts, impl_isOff.fk k⟩
noncomputable def impl_isOff.E (k : Nat) : Env := ⟨tys, [impl_within.sm k], [], [], []⟩
noncomputable def impl_isOff.pts : List (Pt (denR (outTys impl_isOff.g.rts impl_isOff.g.pms))) := []
theorem impl_isOff.hf (k : Nat) (a0 : Int) : (impl_isOff.f a0 : Option (denR (outTys impl_isOff.g.rts impl_isOff.g.pms))) = evC (impl_isOff.E k) (fun κ s => lhOf k κ s impl_isOff.pts) b126 (OM.start impl_isOff.g.pms 0 (a0, ())) (OM.fin impl_isOff.g Try.f126.results.toList) := by kernel_rfl
theorem impl_isOff.ok (k : Nat) : SmOk Try.prog (impl_isOff.sm k) :=
  sm_ok mixed (E := impl_isOff.E) (pts := impl_isOff.pts) (fun k => ⟨⟨tysOk, by kernel_rfl⟩, forall_cons ⟨impl_within.ok k, e59⟩ (forall_nil)⟩) (fun _ => rfl) (fun _ => rfl)
    ⟨Try.func126, by kernel_rfl, by kernel_rfl, by kernel_rfl, by kernel_rfl, by kernel_rfl, by kernel_rfl⟩ (forall_nil) (fun k x => impl_isOff.hf k x.1) k
noncomputable def b75 : Code := Try.f75.body.getD .skip
theorem e75 : OM.Entry Try.prog 75 := ⟨_, Try.func75, by kernel_rfl, by kernel_rfl⟩
@[reducible] noncomputable def impl_PlaceOk.g : Sig := ⟨[.fz (.int .i64)], [.v .bool .z], []⟩
@[reducible] noncomputable def impl_PlaceOk.fk : Nat → denI impl_PlaceOk.g.pms → Option (denR (outTys impl_PlaceOk.g.rts impl_PlaceOk.g.pms)) := fun k x => impl_PlaceOk.f x.1
@[reducible] noncomputable def impl_PlaceOk.sm (k : Nat) : Sm := ⟨75, impl_PlaceOk.g.pms, impl_PlaceOk.g.rts, impl_PlaceOk.fk k⟩
noncomputable def impl_PlaceOk.E (k : Nat) : Env := ⟨tys, [impl_isEpoch.sm k, impl_isOff.sm k], [], [], []⟩
noncomputable def impl_PlaceOk.pts : List (Pt (denR (outTys impl_PlaceOk.g.rts impl_PlaceOk.g.pms))) := []
theorem impl_PlaceOk.hf (k : Nat) (a0 : Int) : (impl_PlaceOk.f a0 : Option (denR (outTys impl_PlaceOk.g.rts impl_PlaceOk.g.pms))) = evC (impl_PlaceOk.E k) (fun κ s => lhOf k κ s impl_PlaceOk.pts) b75 (OM.start impl_PlaceOk.g.pms 0 (a0, ())) (OM.fin impl_PlaceOk.g Try.f75.results.toList) := by kernel_rfl
theorem impl_PlaceOk.ok (k : Nat) : SmOk Try.prog (impl_PlaceOk.sm k) :=
  sm_ok mixed (E := impl_PlaceOk.E) (pts := impl_PlaceOk.pts) (fun k => ⟨⟨tysOk, by kernel_rfl⟩, forall_cons ⟨impl_isEpoch.ok k, e58⟩ (forall_cons ⟨impl_isOff.ok k, e126⟩ (forall_nil))⟩) (fun _ => rfl) (fun _ => rfl)
    ⟨Try.func75, by kernel_rfl, by kernel_rfl, by kernel_rfl, by kernel_rfl, by kernel_rfl, by kernel_rfl⟩ (forall_nil) (fun k x => impl_PlaceOk.hf k x.1) k
noncomputable def b114 : Code := Try.f114.body.getD .skip
theorem e114 : OM.Entry Try.prog 114 := ⟨_, Try.func114, by kernel_rfl, by kernel_rfl⟩
@[reducible] noncomputable def impl_dataOk.g : Sig := ⟨[.fz .str], [.v .bool .z], []⟩
@[reducible] noncomputable def impl_dataOk.fk : Nat → denI impl_dataOk.g.pms → Option (denR (outTys impl_dataOk.g.rts impl_dataOk.g.pms)) := fun k x => impl_dataOk.f x.1
@[reducible] noncomputable def impl_dataOk.sm (k : Nat) : Sm := ⟨114, impl_dataOk.g.pms, impl_dataOk.g.rts, impl_dataOk.fk k⟩
noncomputable def impl_dataOk.E (k : Nat) : Env := ⟨tys, [], [], [], []⟩
noncomputable def impl_dataOk.pts : List (Pt (denR (outTys impl_dataOk.g.rts impl_dataOk.g.pms))) := []
theorem impl_dataOk.hf (k : Nat) (a0 : ByteArray) : (impl_dataOk.f a0 : Option (denR (outTys impl_dataOk.g.rts impl_dataOk.g.pms))) = evC (impl_dataOk.E k) (fun κ s => lhOf k κ s impl_dataOk.pts) b114 (OM.start impl_dataOk.g.pms 0 (a0, ())) (OM.fin impl_dataOk.g Try.f114.results.toList) := by kernel_rfl
theorem impl_dataOk.ok (k : Nat) : SmOk Try.prog (impl_dataOk.sm k) :=
  sm_ok mixed (E := impl_dataOk.E) (pts := impl_dataOk.pts) (fun k => ⟨⟨tysOk, by kernel_rfl⟩, forall_nil⟩) (fun _ => rfl) (fun _ => rfl)
    ⟨Try.func114, by kernel_rfl, by kernel_rfl, by kernel_rfl, by kernel_rfl, by kernel_rfl, by kernel_rfl⟩ (forall_nil) (fun k x => impl_dataOk.hf k x.1) k
noncomputable def b21 : Code := Try.f21.body.getD .skip
theorem e21 : OM.Entry Try.prog 21 := ⟨_, Try.func21, by kernel_rfl, by kernel_rfl⟩
@[reducible] noncomputable def impl_EpochOf.g : Sig := ⟨[.fz (.int .i64)], [.v (.int .i64) .z], []⟩
@[reducible] noncomputable def impl_EpochOf.fk : Nat → denI impl_EpochOf.g.pms → Option (denR (outTys impl_EpochOf.g.rts impl_EpochOf.g.pms)) := fun k x => impl_EpochOf.f x.1
@[reducible] noncomputable def impl_EpochOf.sm (k : Nat) : Sm := ⟨21, impl_EpochOf.g.pms, impl_EpochOf.g.rts, impl_EpochOf.fk k⟩
noncomputable def impl_EpochOf.E (k : Nat) : Env := ⟨tys, [impl_PlaceOk.sm k], [], [], []⟩
noncomputable def impl_EpochOf.pts : List (Pt (denR (outTys impl_EpochOf.g.rts impl_EpochOf.g.pms))) := []
theorem impl_EpochOf.hf (k : Nat) (a0 : Int) : (impl_EpochOf.f a0 : Option (denR (outTys impl_EpochOf.g.rts impl_EpochOf.g.pms))) = evC (impl_EpochOf.E k) (fun κ s => lhOf k κ s impl_EpochOf.pts) b21 (OM.start impl_EpochOf.g.pms 0 (a0, ())) (OM.fin impl_EpochOf.g Try.f21.results.toList) := by kernel_rfl
theorem impl_EpochOf.ok (k : Nat) : SmOk Try.prog (impl_EpochOf.sm k) :=
  sm_ok mixed (E := impl_EpochOf.E) (pts := impl_EpochOf.pts) (fun k => ⟨⟨tysOk, by kernel_rfl⟩, forall_cons ⟨impl_PlaceOk.ok k, e75⟩ (forall_nil)⟩) (fun _ => rfl) (fun _ => rfl)
    ⟨Try.func21, by kernel_rfl, by kernel_rfl, by kernel_rfl, by kernel_rfl, by kernel_rfl, by kernel_rfl⟩ (forall_nil) (fun k x => impl_EpochOf.hf k x.1) k
noncomputable def b120 : Code := Try.f120.body.getD .skip
theorem e120 : OM.Entry Try.prog 120 := ⟨_, Try.func120, by kernel_rfl, by kernel_rfl⟩
@[reducible] noncomputable def impl_EntryOk.g : Sig := ⟨[.fz tEntry], [.v .bool .z], []⟩
@[reducible] noncomputable def impl_EntryOk.fk : Nat → denI impl_EntryOk.g.pms → Option (denR (outTys impl_EntryOk.g.rts impl_EntryOk.g.pms)) := fun k x => impl_EntryOk.f k x.1
@[reducible] noncomputable def impl_EntryOk.sm (k : Nat) : Sm := ⟨120, impl_EntryOk.g.pms, impl_EntryOk.g.rts, impl_EntryOk.fk k⟩
noncomputable def impl_EntryOk.E (k : Nat) : Env := ⟨tys, [impl_within.sm k, impl_PlaceOk.sm k, impl_dataOk.sm k, impl_EpochOf.sm k], [], [2, 3], []⟩
@[reducible] noncomputable def impl_EntryOk.s4 : List Slot := [.r 4 5 [] tEntry, .v 12 .bool .z [] 0, .v 5 tEntry .z [] 0]
@[reducible] noncomputable def impl_EntryOk.s6 : List Slot := [.r 4 5 [] tEntry, .v 12 .bool .z [] 0, .v 16 .bool .z [] 0, .v 5 tEntry .z [] 0]
noncomputable def impl_EntryOk.pts : List (Pt (denR (outTys impl_EntryOk.g.rts impl_EntryOk.g.pms))) := [⟨4, impl_EntryOk.s4, fun k x => impl_EntryOk.p4 k x.1 x.2.1⟩, ⟨6, impl_EntryOk.s6, fun k x => impl_EntryOk.p6 k x.1 x.2.1 x.2.2.1⟩]
theorem impl_EntryOk.h4 (k : Nat) (x0 : Bool) (x1 : Entry) : (impl_EntryOk.p4 (k + 1) x0 x1 : Option (denR (outTys impl_EntryOk.g.rts impl_EntryOk.g.pms))) = evAt (impl_EntryOk.E k) (fun κ s => lhOf k κ s impl_EntryOk.pts) 4 b120 (unproj impl_EntryOk.s4 (x0, x1, ())) (OM.fin impl_EntryOk.g Try.f120.results.toList) := by kernel_rfl
theorem impl_EntryOk.h6 (k : Nat) (x0 : Bool) (x1 : Bool) (x2 : Entry) : (impl_EntryOk.p6 (k + 1) x0 x1 x2 : Option (denR (outTys impl_EntryOk.g.rts impl_EntryOk.g.pms))) = evAt (impl_EntryOk.E k) (fun κ s => lhOf k κ s impl_EntryOk.pts) 6 b120 (unproj impl_EntryOk.s6 (x0, x1, x2, ())) (OM.fin impl_EntryOk.g Try.f120.results.toList) := by kernel_rfl
theorem impl_EntryOk.hf (k : Nat) (a0 : Entry) : (impl_EntryOk.f k a0 : Option (denR (outTys impl_EntryOk.g.rts impl_EntryOk.g.pms))) = evC (impl_EntryOk.E k) (fun κ s => lhOf k κ s impl_EntryOk.pts) b120 (OM.start impl_EntryOk.g.pms 0 (a0, ())) (OM.fin impl_EntryOk.g Try.f120.results.toList) := by kernel_rfl
theorem impl_EntryOk.ok (k : Nat) : SmOk Try.prog (impl_EntryOk.sm k) :=
  sm_ok mixed (E := impl_EntryOk.E) (pts := impl_EntryOk.pts) (fun k => ⟨⟨tysOk, by kernel_rfl⟩, forall_cons ⟨impl_within.ok k, e59⟩ (forall_cons ⟨impl_PlaceOk.ok k, e75⟩ (forall_cons ⟨impl_dataOk.ok k, e114⟩ (forall_cons ⟨impl_EpochOf.ok k, e21⟩ (forall_nil))))⟩) (fun _ => rfl) (fun _ => rfl)
    ⟨Try.func120, by kernel_rfl, by kernel_rfl, by kernel_rfl, by kernel_rfl, by kernel_rfl, by kernel_rfl⟩ (forall_cons (fun x => ⟨rfl, fun k => impl_EntryOk.h4 k x.1 x.2.1⟩) (forall_cons (fun x => ⟨rfl, fun k => impl_EntryOk.h6 k x.1 x.2.1 x.2.2.1⟩) (forall_nil))) (fun k x => impl_EntryOk.hf k x.1) k
noncomputable def b138 : Code := Try.f138.body.getD .skip
theorem e138 : OM.Entry Try.prog 138 := ⟨_, Try.func138, by kernel_rfl, by kernel_rfl⟩
@[reducible] noncomputable def impl_entriesOk.g : Sig := ⟨[.fz (.sl tEntry)], [.v .bool .z], []⟩
@[reducible] noncomputable def impl_entriesOk.fk : Nat → denI impl_entriesOk.g.pms → Option (denR (outTys impl_entriesOk.g.rts impl_entriesOk.g.pms)) := fun k x => impl_entriesOk.f k x.1
@[reducible] noncomputable def impl_entriesOk.sm (k : Nat) : Sm := ⟨138, impl_entriesOk.g.pms, impl_entriesOk.g.rts, impl_entriesOk.fk k⟩
noncomputable def impl_entriesOk.E (k : Nat) : Env := ⟨tys, [impl_EntryOk.sm k], [10], [], []⟩
@[reducible] noncomputable def impl_entriesOk.s5 : List Slot := [.v 20 (.sl tEntry) .z [] 0, .v 24 (.int .i64) .z [] 0, .v 28 (.int .i64) .z [] 0]
noncomputable def impl_entriesOk.pts : List (Pt (denR (outTys impl_entriesOk.g.rts impl_entriesOk.g.pms))) := [⟨5, impl_entriesOk.s5, fun k x => impl_entriesOk.p5 k x.1 x.2.1 x.2.2.1⟩]
theorem impl_entriesOk.h5 (k : Nat) (x0 : (List Entry)) (x1 : Int) (x2 : Int) : (impl_entriesOk.p5 (k + 1) x0 x1 x2 : Option (denR (outTys impl_entriesOk.g.rts impl_entriesOk.g.pms))) = evAt (impl_entriesOk.E k) (fun κ s => lhOf k κ s impl_entriesOk.pts) 5 b138 (unproj impl_entriesOk.s5 (x0, x1, x2, ())) (OM.fin impl_entriesOk.g Try.f138.results.toList) := by kernel_rfl
theorem impl_entriesOk.hf (k : Nat) (a0 : (List Entry)) : (impl_entriesOk.f k a0 : Option (denR (outTys impl_entriesOk.g.rts impl_entriesOk.g.pms))) = evC (impl_entriesOk.E k) (fun κ s => lhOf k κ s impl_entriesOk.pts) b138 (OM.start impl_entriesOk.g.pms 0 (a0, ())) (OM.fin impl_entriesOk.g Try.f138.results.toList) := by kernel_rfl
theorem impl_entriesOk.ok (k : Nat) : SmOk Try.prog (impl_entriesOk.sm k) :=
  sm_ok mixed (E := impl_entriesOk.E) (pts := impl_entriesOk.pts) (fun k => ⟨⟨tysOk, by kernel_rfl⟩, forall_cons ⟨impl_EntryOk.ok k, e120⟩ (forall_nil)⟩) (fun _ => rfl) (fun _ => rfl)
    ⟨Try.func138, by kernel_rfl, by kernel_rfl, by kernel_rfl, by kernel_rfl, by kernel_rfl, by kernel_rfl⟩ (forall_cons (fun x => ⟨rfl, fun k => impl_entriesOk.h5 k x.1 x.2.1 x.2.2.1⟩) (forall_nil)) (fun k x => impl_entriesOk.hf k x.1) k
noncomputable def b121 : Code := Try.f121.body.getD .skip
theorem e121 : OM.Entry Try.prog 121 := ⟨_, Try.func121, by kernel_rfl, by kernel_rfl⟩
@[reducible] noncomputable def impl_placesAscend.g : Sig := ⟨[.fz (.sl tEntry)], [.v .bool .z], []⟩
@[reducible] noncomputable def impl_placesAscend.fk : Nat → denI impl_placesAscend.g.pms → Option (denR (outTys impl_placesAscend.g.rts impl_placesAscend.g.pms)) := fun k x => impl_placesAscend.f k x.1
@[reducible] noncomputable def impl_placesAscend.sm (k : Nat) : Sm := ⟨121, impl_placesAscend.g.pms, impl_placesAscend.g.rts, impl_placesAscend.fk k⟩
noncomputable def impl_placesAscend.E (k : Nat) : Env := ⟨tys, [], [11], [], []⟩
@[reducible] noncomputable def impl_placesAscend.s5 : List Slot := [.v 0 (.sl tEntry) .z [] 0, .v 20 (.sl tEntry) .z [] 0, .v 24 (.int .i64) .z [] 0, .v 28 (.int .i64) .z [] 0]
noncomputable def impl_placesAscend.pts : List (Pt (denR (outTys impl_placesAscend.g.rts impl_placesAscend.g.pms))) := [⟨5, impl_placesAscend.s5, fun k x => impl_placesAscend.p5 k x.1 x.2.1 x.2.2.1 x.2.2.2.1⟩]
theorem impl_placesAscend.h5 (k : Nat) (x0 : (List Entry)) (x1 : (List Entry)) (x2 : Int) (x3 : Int) : (impl_placesAscend.p5 (k + 1) x0 x1 x2 x3 : Option (denR (outTys impl_placesAscend.g.rts impl_placesAscend.g.pms))) = evAt (impl_placesAscend.E k) (fun κ s => lhOf k κ s impl_placesAscend.pts) 5 b121 (unproj impl_placesAscend.s5 (x0, x1, x2, x3, ())) (OM.fin impl_placesAscend.g Try.f121.results.toList) := by kernel_rfl
theorem impl_placesAscend.hf (k : Nat) (a0 : (List Entry)) : (impl_placesAscend.f k a0 : Option (denR (outTys impl_placesAscend.g.rts impl_placesAscend.g.pms))) = evC (impl_placesAscend.E k) (fun κ s => lhOf k κ s impl_placesAscend.pts) b121 (OM.start impl_placesAscend.g.pms 0 (a0, ())) (OM.fin impl_placesAscend.g Try.f121.results.toList) := by kernel_rfl
theorem impl_placesAscend.ok (k : Nat) : SmOk Try.prog (impl_placesAscend.sm k) :=
  sm_ok mixed (E := impl_placesAscend.E) (pts := impl_placesAscend.pts) (fun k => ⟨⟨tysOk, by kernel_rfl⟩, forall_nil⟩) (fun _ => rfl) (fun _ => rfl)
    ⟨Try.func121, by kernel_rfl, by kernel_rfl, by kernel_rfl, by kernel_rfl, by kernel_rfl, by kernel_rfl⟩ (forall_cons (fun x => ⟨rfl, fun k => impl_placesAscend.h5 k x.1 x.2.1 x.2.2.1 x.2.2.2.1⟩) (forall_nil)) (fun k x => impl_placesAscend.hf k x.1) k
noncomputable def b95 : Code := Try.f95.body.getD .skip
theorem e95 : OM.Entry Try.prog 95 := ⟨_, Try.func95, by kernel_rfl, by kernel_rfl⟩
@[reducible] noncomputable def impl_StoreOk.g : Sig := ⟨[.fz tStore], [.v .bool .z], []⟩
@[reducible] noncomputable def impl_StoreOk.fk : Nat → denI impl_StoreOk.g.pms → Option (denR (outTys impl_StoreOk.g.rts impl_StoreOk.g.pms)) := fun k x => impl_StoreOk.f k x.1
@[reducible] noncomputable def impl_StoreOk.sm (k : Nat) : Sm := ⟨95, impl_StoreOk.g.pms, impl_StoreOk.g.rts, impl_StoreOk.fk k⟩
noncomputable def impl_StoreOk.E (k : Nat) : Env := ⟨tys, [impl_within.sm k, impl_entriesOk.sm k, impl_placesAscend.sm k], [], [], []⟩
noncomputable def impl_StoreOk.pts : List (Pt (denR (outTys impl_StoreOk.g.rts impl_StoreOk.g.pms))) := []
theorem impl_StoreOk.hf (k : Nat) (a0 : Store) : (impl_StoreOk.f k a0 : Option (denR (outTys impl_StoreOk.g.rts impl_StoreOk.g.pms))) = evC (impl_StoreOk.E k) (fun κ s => lhOf k κ s impl_StoreOk.pts) b95 (OM.start impl_StoreOk.g.pms 0 (a0, ())) (OM.fin impl_StoreOk.g Try.f95.results.toList) := by kernel_rfl
theorem impl_StoreOk.ok (k : Nat) : SmOk Try.prog (impl_StoreOk.sm k) :=
  sm_ok mixed (E := impl_StoreOk.E) (pts := impl_StoreOk.pts) (fun k => ⟨⟨tysOk, by kernel_rfl⟩, forall_cons ⟨impl_within.ok k, e59⟩ (forall_cons ⟨impl_entriesOk.ok k, e138⟩ (forall_cons ⟨impl_placesAscend.ok k, e121⟩ (forall_nil)))⟩) (fun _ => rfl) (fun _ => rfl)
    ⟨Try.func95, by kernel_rfl, by kernel_rfl, by kernel_rfl, by kernel_rfl, by kernel_rfl, by kernel_rfl⟩ (forall_nil) (fun k x => impl_StoreOk.hf k x.1) k
noncomputable def b139 : Code := Try.f139.body.getD .skip
theorem e139 : OM.Entry Try.prog 139 := ⟨_, Try.func139, by kernel_rfl, by kernel_rfl⟩
@[reducible] noncomputable def impl_PutNum.g : Sig := ⟨[.fz (.int .i64)], [.v (.sl (.int .u8)) (.own .z)], []⟩
@[reducible] noncomputable def impl_PutNum.fk : Nat → denI impl_PutNum.g.pms → Option (denR (outTys impl_PutNum.g.rts impl_PutNum.g.pms)) := fun k x => impl_PutNum.f k x.1
@[reducible] noncomputable def impl_PutNum.sm (k : Nat) : Sm := ⟨139, impl_PutNum.g.pms, impl_PutNum.g.rts, impl_PutNum.fk k⟩
noncomputable def impl_PutNum.E (k : Nat) : Env := ⟨tys, [], [], [], []⟩
@[reducible] noncomputable def impl_PutNum.s9 : List Slot := [.v 0 (.int .i64) .z [] 0, .v 12 (.sl (.int .u8)) (.own .z) [] 0]
noncomputable def impl_PutNum.pts : List (Pt (denR (outTys impl_PutNum.g.rts impl_PutNum.g.pms))) := [⟨9, impl_PutNum.s9, fun k x => impl_PutNum.p9 k x.1 x.2.1⟩]
theorem impl_PutNum.h9 (k : Nat) (x0 : Int) (x1 : (List Int)) : (impl_PutNum.p9 (k + 1) x0 x1 : Option (denR (outTys impl_PutNum.g.rts impl_PutNum.g.pms))) = evAt (impl_PutNum.E k) (fun κ s => lhOf k κ s impl_PutNum.pts) 9 b139 (unproj impl_PutNum.s9 (x0, x1, ())) (OM.fin impl_PutNum.g Try.f139.results.toList) := by kernel_rfl
theorem impl_PutNum.hf (k : Nat) (a0 : Int) : (impl_PutNum.f k a0 : Option (denR (outTys impl_PutNum.g.rts impl_PutNum.g.pms))) = evC (impl_PutNum.E k) (fun κ s => lhOf k κ s impl_PutNum.pts) b139 (OM.start impl_PutNum.g.pms 0 (a0, ())) (OM.fin impl_PutNum.g Try.f139.results.toList) := by kernel_rfl
theorem impl_PutNum.ok (k : Nat) : SmOk Try.prog (impl_PutNum.sm k) :=
  sm_ok mixed (E := impl_PutNum.E) (pts := impl_PutNum.pts) (fun k => ⟨⟨tysOk, by kernel_rfl⟩, forall_nil⟩) (fun _ => rfl) (fun _ => rfl)
    ⟨Try.func139, by kernel_rfl, by kernel_rfl, by kernel_rfl, by kernel_rfl, by kernel_rfl, by kernel_rfl⟩ (forall_cons (fun x => ⟨rfl, fun k => impl_PutNum.h9 k x.1 x.2.1⟩) (forall_nil)) (fun k x => impl_PutNum.hf k x.1) k
noncomputable def b96 : Code := Try.f96.body.getD .skip
theorem e96 : OM.Entry Try.prog 96 := ⟨_, Try.func96, by kernel_rfl, by kernel_rfl⟩
@[reducible] noncomputable def impl_putNums.g : Sig := ⟨[.fz (.sl (.int .i64))], [.v (.sl (.int .u8)) (.own .z)], []⟩
@[reducible] noncomputable def impl_putNums.fk : Nat → denI impl_putNums.g.pms → Option (denR (outTys impl_putNums.g.rts impl_putNums.g.pms)) := fun k x => impl_putNums.f k x.1
@[reducible] noncomputable def impl_putNums.sm (k : Nat) : Sm := ⟨96, impl_putNums.g.pms, impl_putNums.g.rts, impl_putNums.fk k⟩
noncomputable def impl_putNums.E (k : Nat) : Env := ⟨tys, [impl_PutNum.sm k], [12], [], []⟩
@[reducible] noncomputable def impl_putNums.s7 : List Slot := [.v 12 (.sl (.int .u8)) (.own .z) [] 0, .v 28 (.sl (.int .i64)) .z [] 0, .v 32 (.int .i64) .z [] 0, .v 36 (.int .i64) .z [] 0]
noncomputable def impl_putNums.pts : List (Pt (denR (outTys impl_putNums.g.rts impl_putNums.g.pms))) := [⟨7, impl_putNums.s7, fun k x => impl_putNums.p7 k x.1 x.2.1 x.2.2.1 x.2.2.2.1⟩]
theorem impl_putNums.h7 (k : Nat) (x0 : (List Int)) (x1 : (List Int)) (x2 : Int) (x3 : Int) : (impl_putNums.p7 (k + 1) x0 x1 x2 x3 : Option (denR (outTys impl_putNums.g.rts impl_putNums.g.pms))) = evAt (impl_putNums.E k) (fun κ s => lhOf k κ s impl_putNums.pts) 7 b96 (unproj impl_putNums.s7 (x0, x1, x2, x3, ())) (OM.fin impl_putNums.g Try.f96.results.toList) := by kernel_rfl
theorem impl_putNums.hf (k : Nat) (a0 : (List Int)) : (impl_putNums.f k a0 : Option (denR (outTys impl_putNums.g.rts impl_putNums.g.pms))) = evC (impl_putNums.E k) (fun κ s => lhOf k κ s impl_putNums.pts) b96 (OM.start impl_putNums.g.pms 0 (a0, ())) (OM.fin impl_putNums.g Try.f96.results.toList) := by kernel_rfl
theorem impl_putNums.ok (k : Nat) : SmOk Try.prog (impl_putNums.sm k) :=
  sm_ok mixed (E := impl_putNums.E) (pts := impl_putNums.pts) (fun k => ⟨⟨tysOk, by kernel_rfl⟩, forall_cons ⟨impl_PutNum.ok k, e139⟩ (forall_nil)⟩) (fun _ => rfl) (fun _ => rfl)
    ⟨Try.func96, by kernel_rfl, by kernel_rfl, by kernel_rfl, by kernel_rfl, by kernel_rfl, by kernel_rfl⟩ (forall_cons (fun x => ⟨rfl, fun k => impl_putNums.h7 k x.1 x.2.1 x.2.2.1 x.2.2.2.1⟩) (forall_nil)) (fun k x => impl_putNums.hf k x.1) k
noncomputable def b115 : Code := Try.f115.body.getD .skip
theorem e115 : OM.Entry Try.prog 115 := ⟨_, Try.func115, by kernel_rfl, by kernel_rfl⟩
@[reducible] noncomputable def impl_flagNum.g : Sig := ⟨[.fz .bool], [.v (.int .i64) .z], []⟩
@[reducible] noncomputable def impl_flagNum.fk : Nat → denI impl_flagNum.g.pms → Option (denR (outTys impl_flagNum.g.rts impl_flagNum.g.pms)) := fun k x => impl_flagNum.f x.1
@[reducible] noncomputable def impl_flagNum.sm (k : Nat) : Sm := ⟨115, impl_flagNum.g.pms, impl_flagNum.g.rts, impl_flagNum.fk k⟩
noncomputable def impl_flagNum.E (k : Nat) : Env := ⟨tys, [], [], [], []⟩
noncomputable def impl_flagNum.pts : List (Pt (denR (outTys impl_flagNum.g.rts impl_flagNum.g.pms))) := []
theorem impl_flagNum.hf (k : Nat) (a0 : Bool) : (impl_flagNum.f a0 : Option (denR (outTys impl_flagNum.g.rts impl_flagNum.g.pms))) = evC (impl_flagNum.E k) (fun κ s => lhOf k κ s impl_flagNum.pts) b115 (OM.start impl_flagNum.g.pms 0 (a0, ())) (OM.fin impl_flagNum.g Try.f115.results.toList) := by kernel_rfl
theorem impl_flagNum.ok (k : Nat) : SmOk Try.prog (impl_flagNum.sm k) :=
  sm_ok mixed (E := impl_flagNum.E) (pts := impl_flagNum.pts) (fun k => ⟨⟨tysOk, by kernel_rfl⟩, forall_nil⟩) (fun _ => rfl) (fun _ => rfl)
    ⟨Try.func115, by kernel_rfl, by kernel_rfl, by kernel_rfl, by kernel_rfl, by kernel_rfl, by kernel_rfl⟩ (forall_nil) (fun k x => impl_flagNum.hf k x.1) k
noncomputable def b140 : Code := Try.f140.body.getD .skip
theorem e140 : OM.Entry Try.prog 140 := ⟨_, Try.func140, by kernel_rfl, by kernel_rfl⟩
@[reducible] noncomputable def impl_PutText.g : Sig := ⟨[.fz .str], [.v (.sl (.int .u8)) (.own .z)], []⟩
@[reducible] noncomputable def impl_PutText.fk : Nat → denI impl_PutText.g.pms → Option (denR (outTys impl_PutText.g.rts impl_PutText.g.pms)) := fun k x => impl_PutText.f k x.1
@[reducible] noncomputable def impl_PutText.sm (k : Nat) : Sm := ⟨140, impl_PutText.g.pms, impl_PutText.g.rts, impl_PutText.fk k⟩
noncomputable def impl_PutText.E (k : Nat) : Env := ⟨tys, [impl_PutNum.sm k], [6], [], []⟩
noncomputable def impl_PutText.pts : List (Pt (denR (outTys impl_PutText.g.rts impl_PutText.g.pms))) := []
theorem impl_PutText.hf (k : Nat) (a0 : ByteArray) : (impl_PutText.f k a0 : Option (denR (outTys impl_PutText.g.rts impl_PutText.g.pms))) = evC (impl_PutText.E k) (fun κ s => lhOf k κ s impl_PutText.pts) b140 (OM.start impl_PutText.g.pms 0 (a0, ())) (OM.fin impl_PutText.g Try.f140.results.toList) := by kernel_rfl
theorem impl_PutText.ok (k : Nat) : SmOk Try.prog (impl_PutText.sm k) :=
  sm_ok mixed (E := impl_PutText.E) (pts := impl_PutText.pts) (fun k => ⟨⟨tysOk, by kernel_rfl⟩, forall_cons ⟨impl_PutNum.ok k, e139⟩ (forall_nil)⟩) (fun _ => rfl) (fun _ => rfl)
    ⟨Try.func140, by kernel_rfl, by kernel_rfl, by kernel_rfl, by kernel_rfl, by kernel_rfl, by kernel_rfl⟩ (forall_nil) (fun k x => impl_PutText.hf k x.1) k
noncomputable def b97 : Code := Try.f97.body.getD .skip
theorem e97 : OM.Entry Try.prog 97 := ⟨_, Try.func97, by kernel_rfl, by kernel_rfl⟩
@[reducible] noncomputable def impl_EntryPack.g : Sig := ⟨[.fz tEntry], [.v (.sl (.int .u8)) (.own .z), .v .bool .z], []⟩
@[reducible] noncomputable def impl_EntryPack.fk : Nat → denI impl_EntryPack.g.pms → Option (denR (outTys impl_EntryPack.g.rts impl_EntryPack.g.pms)) := fun k x => impl_EntryPack.f k x.1
@[reducible] noncomputable def impl_EntryPack.sm (k : Nat) : Sm := ⟨97, impl_EntryPack.g.pms, impl_EntryPack.g.rts, impl_EntryPack.fk k⟩
noncomputable def impl_EntryPack.E (k : Nat) : Env := ⟨tys, [impl_EntryOk.sm k, impl_putNums.sm k, impl_flagNum.sm k, impl_PutText.sm k], [], [], []⟩
noncomputable def impl_EntryPack.pts : List (Pt (denR (outTys impl_EntryPack.g.rts impl_EntryPack.g.pms))) := []
theorem impl_EntryPack.hf (k : Nat) (a0 : Entry) : (impl_EntryPack.f k a0 : Option (denR (outTys impl_EntryPack.g.rts impl_EntryPack.g.pms))) = evC (impl_EntryPack.E k) (fun κ s => lhOf k κ s impl_EntryPack.pts) b97 (OM.start impl_EntryPack.g.pms 0 (a0, ())) (OM.fin impl_EntryPack.g Try.f97.results.toList) := by kernel_rfl
theorem impl_EntryPack.ok (k : Nat) : SmOk Try.prog (impl_EntryPack.sm k) :=
  sm_ok mixed (E := impl_EntryPack.E) (pts := impl_EntryPack.pts) (fun k => ⟨⟨tysOk, by kernel_rfl⟩, forall_cons ⟨impl_EntryOk.ok k, e120⟩ (forall_cons ⟨impl_putNums.ok k, e96⟩ (forall_cons ⟨impl_flagNum.ok k, e115⟩ (forall_cons ⟨impl_PutText.ok k, e140⟩ (forall_nil))))⟩) (fun _ => rfl) (fun _ => rfl)
    ⟨Try.func97, by kernel_rfl, by kernel_rfl, by kernel_rfl, by kernel_rfl, by kernel_rfl, by kernel_rfl⟩ (forall_nil) (fun k x => impl_EntryPack.hf k x.1) k
noncomputable def b39 : Code := Try.f39.body.getD .skip
theorem e39 : OM.Entry Try.prog 39 := ⟨_, Try.func39, by kernel_rfl, by kernel_rfl⟩
@[reducible] noncomputable def impl_StorePack.g : Sig := ⟨[.fz tStore], [.v (.sl (.int .u8)) (.own .z), .v .bool .z], []⟩
@[reducible] noncomputable def impl_StorePack.fk : Nat → denI impl_StorePack.g.pms → Option (denR (outTys impl_StorePack.g.rts impl_StorePack.g.pms)) := fun k x => impl_StorePack.f k x.1
@[reducible] noncomputable def impl_StorePack.sm (k : Nat) : Sm := ⟨39, impl_StorePack.g.pms, impl_StorePack.g.rts, impl_StorePack.fk k⟩
noncomputable def impl_StorePack.E (k : Nat) : Env := ⟨tys, [impl_StoreOk.sm k, impl_putNums.sm k, impl_EntryPack.sm k], [31, 38], [], []⟩
@[reducible] noncomputable def impl_StorePack.s11 : List Slot := [.v 16 (.sl (.int .u8)) (.own .z) [] 0, .v 104 (.sl tEntry) .z [] 0, .v 108 (.int .i64) .z [] 0, .v 112 (.int .i64) .z [] 0]
noncomputable def impl_StorePack.pts : List (Pt (denR (outTys impl_StorePack.g.rts impl_StorePack.g.pms))) := [⟨11, impl_StorePack.s11, fun k x => impl_StorePack.p11 k x.1 x.2.1 x.2.2.1 x.2.2.2.1⟩]
theorem impl_StorePack.h11 (k : Nat) (x0 : (List Int)) (x1 : (List Entry)) (x2 : Int) (x3 : Int) : (impl_StorePack.p11 (k + 1) x0 x1 x2 x3 : Option (denR (outTys impl_StorePack.g.rts impl_StorePack.g.pms))) = evAt (impl_StorePack.E k) (fun κ s => lhOf k κ s impl_StorePack.pts) 11 b39 (unproj impl_StorePack.s11 (x0, x1, x2, x3, ())) (OM.fin impl_StorePack.g Try.f39.results.toList) := by kernel_rfl
theorem impl_StorePack.hf (k : Nat) (a0 : Store) : (impl_StorePack.f k a0 : Option (denR (outTys impl_StorePack.g.rts impl_StorePack.g.pms))) = evC (impl_StorePack.E k) (fun κ s => lhOf k κ s impl_StorePack.pts) b39 (OM.start impl_StorePack.g.pms 0 (a0, ())) (OM.fin impl_StorePack.g Try.f39.results.toList) := by kernel_rfl
theorem impl_StorePack.ok (k : Nat) : SmOk Try.prog (impl_StorePack.sm k) :=
  sm_ok mixed (E := impl_StorePack.E) (pts := impl_StorePack.pts) (fun k => ⟨⟨tysOk, by kernel_rfl⟩, forall_cons ⟨impl_StoreOk.ok k, e95⟩ (forall_cons ⟨impl_putNums.ok k, e96⟩ (forall_cons ⟨impl_EntryPack.ok k, e97⟩ (forall_nil)))⟩) (fun _ => rfl) (fun _ => rfl)
    ⟨Try.func39, by kernel_rfl, by kernel_rfl, by kernel_rfl, by kernel_rfl, by kernel_rfl, by kernel_rfl⟩ (forall_cons (fun x => ⟨rfl, fun k => impl_StorePack.h11 k x.1 x.2.1 x.2.2.1 x.2.2.2.1⟩) (forall_nil)) (fun k x => impl_StorePack.hf k x.1) k
noncomputable def b99 : Code := Try.f99.body.getD .skip
theorem e99 : OM.Entry Try.prog 99 := ⟨_, Try.func99, by kernel_rfl, by kernel_rfl⟩
@[reducible] noncomputable def spec_PutNum.g : Sig := ⟨[.fz (.int .i64)], [.v (.sl (.int .u8)) (.own .z)], []⟩
@[reducible] noncomputable def spec_PutNum.fk : Nat → denI spec_PutNum.g.pms → Option (denR (outTys spec_PutNum.g.rts spec_PutNum.g.pms)) := fun k x => spec_PutNum.f k x.1
@[reducible] noncomputable def spec_PutNum.sm (k : Nat) : Sm := ⟨99, spec_PutNum.g.pms, spec_PutNum.g.rts, spec_PutNum.fk k⟩
noncomputable def spec_PutNum.E (k : Nat) : Env := ⟨tys, [], [], [], []⟩
@[reducible] noncomputable def spec_PutNum.s9 : List Slot := [.v 0 (.int .i64) .z [] 0, .v 12 (.sl (.int .u8)) (.own .z) [] 0]
noncomputable def spec_PutNum.pts : List (Pt (denR (outTys spec_PutNum.g.rts spec_PutNum.g.pms))) := [⟨9, spec_PutNum.s9, fun k x => spec_PutNum.p9 k x.1 x.2.1⟩]
theorem spec_PutNum.h9 (k : Nat) (x0 : Int) (x1 : (List Int)) : (spec_PutNum.p9 (k + 1) x0 x1 : Option (denR (outTys spec_PutNum.g.rts spec_PutNum.g.pms))) = evAt (spec_PutNum.E k) (fun κ s => lhOf k κ s spec_PutNum.pts) 9 b99 (unproj spec_PutNum.s9 (x0, x1, ())) (OM.fin spec_PutNum.g Try.f99.results.toList) := by kernel_rfl
theorem spec_PutNum.hf (k : Nat) (a0 : Int) : (spec_PutNum.f k a0 : Option (denR (outTys spec_PutNum.g.rts spec_PutNum.g.pms))) = evC (spec_PutNum.E k) (fun κ s => lhOf k κ s spec_PutNum.pts) b99 (OM.start spec_PutNum.g.pms 0 (a0, ())) (OM.fin spec_PutNum.g Try.f99.results.toList) := by kernel_rfl
theorem spec_PutNum.ok (k : Nat) : SmOk Try.prog (spec_PutNum.sm k) :=
  sm_ok mixed (E := spec_PutNum.E) (pts := spec_PutNum.pts) (fun k => ⟨⟨tysOk, by kernel_rfl⟩, forall_nil⟩) (fun _ => rfl) (fun _ => rfl)
    ⟨Try.func99, by kernel_rfl, by kernel_rfl, by kernel_rfl, by kernel_rfl, by kernel_rfl, by kernel_rfl⟩ (forall_cons (fun x => ⟨rfl, fun k => spec_PutNum.h9 k x.1 x.2.1⟩) (forall_nil)) (fun k x => spec_PutNum.hf k x.1) k
noncomputable def b142 : Code := Try.f142.body.getD .skip
theorem e142 : OM.Entry Try.prog 142 := ⟨_, Try.func142, by kernel_rfl, by kernel_rfl⟩
@[reducible] noncomputable def spec_l3Bit.g : Sig := ⟨[.fz .bool], [.v (.int .i64) .z], []⟩
@[reducible] noncomputable def spec_l3Bit.fk : Nat → denI spec_l3Bit.g.pms → Option (denR (outTys spec_l3Bit.g.rts spec_l3Bit.g.pms)) := fun k x => spec_l3Bit.f x.1
@[reducible] noncomputable def spec_l3Bit.sm (k : Nat) : Sm := ⟨142, spec_l3Bit.g.pms, spec_l3Bit.g.rts, spec_l3Bit.fk k⟩
noncomputable def spec_l3Bit.E (k : Nat) : Env := ⟨tys, [], [], [], []⟩
noncomputable def spec_l3Bit.pts : List (Pt (denR (outTys spec_l3Bit.g.rts spec_l3Bit.g.pms))) := []
theorem spec_l3Bit.hf (k : Nat) (a0 : Bool) : (spec_l3Bit.f a0 : Option (denR (outTys spec_l3Bit.g.rts spec_l3Bit.g.pms))) = evC (spec_l3Bit.E k) (fun κ s => lhOf k κ s spec_l3Bit.pts) b142 (OM.start spec_l3Bit.g.pms 0 (a0, ())) (OM.fin spec_l3Bit.g Try.f142.results.toList) := by kernel_rfl
theorem spec_l3Bit.ok (k : Nat) : SmOk Try.prog (spec_l3Bit.sm k) :=
  sm_ok mixed (E := spec_l3Bit.E) (pts := spec_l3Bit.pts) (fun k => ⟨⟨tysOk, by kernel_rfl⟩, forall_nil⟩) (fun _ => rfl) (fun _ => rfl)
    ⟨Try.func142, by kernel_rfl, by kernel_rfl, by kernel_rfl, by kernel_rfl, by kernel_rfl, by kernel_rfl⟩ (forall_nil) (fun k x => spec_l3Bit.hf k x.1) k
noncomputable def b143 : Code := Try.f143.body.getD .skip
theorem e143 : OM.Entry Try.prog 143 := ⟨_, Try.func143, by kernel_rfl, by kernel_rfl⟩
@[reducible] noncomputable def spec_PutText.g : Sig := ⟨[.fz .str], [.v (.sl (.int .u8)) (.own .z)], []⟩
@[reducible] noncomputable def spec_PutText.fk : Nat → denI spec_PutText.g.pms → Option (denR (outTys spec_PutText.g.rts spec_PutText.g.pms)) := fun k x => spec_PutText.f k x.1
@[reducible] noncomputable def spec_PutText.sm (k : Nat) : Sm := ⟨143, spec_PutText.g.pms, spec_PutText.g.rts, spec_PutText.fk k⟩
noncomputable def spec_PutText.E (k : Nat) : Env := ⟨tys, [spec_PutNum.sm k], [], [], []⟩
noncomputable def spec_PutText.pts : List (Pt (denR (outTys spec_PutText.g.rts spec_PutText.g.pms))) := []
theorem spec_PutText.hf (k : Nat) (a0 : ByteArray) : (spec_PutText.f k a0 : Option (denR (outTys spec_PutText.g.rts spec_PutText.g.pms))) = evC (spec_PutText.E k) (fun κ s => lhOf k κ s spec_PutText.pts) b143 (OM.start spec_PutText.g.pms 0 (a0, ())) (OM.fin spec_PutText.g Try.f143.results.toList) := by kernel_rfl
theorem spec_PutText.ok (k : Nat) : SmOk Try.prog (spec_PutText.sm k) :=
  sm_ok mixed (E := spec_PutText.E) (pts := spec_PutText.pts) (fun k => ⟨⟨tysOk, by kernel_rfl⟩, forall_cons ⟨spec_PutNum.ok k, e99⟩ (forall_nil)⟩) (fun _ => rfl) (fun _ => rfl)
    ⟨Try.func143, by kernel_rfl, by kernel_rfl, by kernel_rfl, by kernel_rfl, by kernel_rfl, by kernel_rfl⟩ (forall_nil) (fun k x => spec_PutText.hf k x.1) k
noncomputable def b100 : Code := Try.f100.body.getD .skip
theorem e100 : OM.Entry Try.prog 100 := ⟨_, Try.func100, by kernel_rfl, by kernel_rfl⟩
@[reducible] noncomputable def spec_l3Pack.g : Sig := ⟨[.fz tEntry], [.v (.sl (.int .u8)) (.own .z)], []⟩
@[reducible] noncomputable def spec_l3Pack.fk : Nat → denI spec_l3Pack.g.pms → Option (denR (outTys spec_l3Pack.g.rts spec_l3Pack.g.pms)) := fun k x => spec_l3Pack.f k x.1
@[reducible] noncomputable def spec_l3Pack.sm (k : Nat) : Sm := ⟨100, spec_l3Pack.g.pms, spec_l3Pack.g.rts, spec_l3Pack.fk k⟩
noncomputable def spec_l3Pack.E (k : Nat) : Env := ⟨tys, [spec_PutNum.sm k, spec_l3Bit.sm k, spec_PutText.sm k], [], [], []⟩
noncomputable def spec_l3Pack.pts : List (Pt (denR (outTys spec_l3Pack.g.rts spec_l3Pack.g.pms))) := []
theorem spec_l3Pack.hf (k : Nat) (a0 : Entry) : (spec_l3Pack.f k a0 : Option (denR (outTys spec_l3Pack.g.rts spec_l3Pack.g.pms))) = evC (spec_l3Pack.E k) (fun κ s => lhOf k κ s spec_l3Pack.pts) b100 (OM.start spec_l3Pack.g.pms 0 (a0, ())) (OM.fin spec_l3Pack.g Try.f100.results.toList) := by kernel_rfl
theorem spec_l3Pack.ok (k : Nat) : SmOk Try.prog (spec_l3Pack.sm k) :=
  sm_ok mixed (E := spec_l3Pack.E) (pts := spec_l3Pack.pts) (fun k => ⟨⟨tysOk, by kernel_rfl⟩, forall_cons ⟨spec_PutNum.ok k, e99⟩ (forall_cons ⟨spec_l3Bit.ok k, e142⟩ (forall_cons ⟨spec_PutText.ok k, e143⟩ (forall_nil)))⟩) (fun _ => rfl) (fun _ => rfl)
    ⟨Try.func100, by kernel_rfl, by kernel_rfl, by kernel_rfl, by kernel_rfl, by kernel_rfl, by kernel_rfl⟩ (forall_nil) (fun k x => spec_l3Pack.hf k x.1) k
noncomputable def b40 : Code := Try.f40.body.getD .skip
theorem e40 : OM.Entry Try.prog 40 := ⟨_, Try.func40, by kernel_rfl, by kernel_rfl⟩
@[reducible] noncomputable def spec_StorePack.g : Sig := ⟨[.fz tStore], [.v (.sl (.int .u8)) (.own .z), .v .bool .z], []⟩
@[reducible] noncomputable def spec_StorePack.fk : Nat → denI spec_StorePack.g.pms → Option (denR (outTys spec_StorePack.g.rts spec_StorePack.g.pms)) := fun k x => spec_StorePack.f k x.1
@[reducible] noncomputable def spec_StorePack.sm (k : Nat) : Sm := ⟨40, spec_StorePack.g.pms, spec_StorePack.g.rts, spec_StorePack.fk k⟩
noncomputable def spec_StorePack.E (k : Nat) : Env := ⟨tys, [spec_StoreOk.sm k, spec_PutNum.sm k, spec_l3Pack.sm k], [], [], []⟩
@[reducible] noncomputable def spec_StorePack.s11 : List Slot := [.r 4 5 [] tStore, .v 16 (.sl (.int .u8)) (.own .z) [] 0, .v 20 (.int .i64) .z [] 0, .v 5 tStore .z [] 0]
noncomputable def spec_StorePack.pts : List (Pt (denR (outTys spec_StorePack.g.rts spec_StorePack.g.pms))) := [⟨11, spec_StorePack.s11, fun k x => spec_StorePack.p11 k x.1 x.2.1 x.2.2.1⟩]
theorem spec_StorePack.h11 (k : Nat) (x0 : (List Int)) (x1 : Int) (x2 : Store) : (spec_StorePack.p11 (k + 1) x0 x1 x2 : Option (denR (outTys spec_StorePack.g.rts spec_StorePack.g.pms))) = evAt (spec_StorePack.E k) (fun κ s => lhOf k κ s spec_StorePack.pts) 11 b40 (unproj spec_StorePack.s11 (x0, x1, x2, ())) (OM.fin spec_StorePack.g Try.f40.results.toList) := by kernel_rfl
theorem spec_StorePack.hf (k : Nat) (a0 : Store) : (spec_StorePack.f k a0 : Option (denR (outTys spec_StorePack.g.rts spec_StorePack.g.pms))) = evC (spec_StorePack.E k) (fun κ s => lhOf k κ s spec_StorePack.pts) b40 (OM.start spec_StorePack.g.pms 0 (a0, ())) (OM.fin spec_StorePack.g Try.f40.results.toList) := by kernel_rfl
theorem spec_StorePack.ok (k : Nat) : SmOk Try.prog (spec_StorePack.sm k) :=
  sm_ok mixed (E := spec_StorePack.E) (pts := spec_StorePack.pts) (fun k => ⟨⟨tysOk, by kernel_rfl⟩, forall_cons ⟨spec_StoreOk.ok k, e98⟩ (forall_cons ⟨spec_PutNum.ok k, e99⟩ (forall_cons ⟨spec_l3Pack.ok k, e100⟩ (forall_nil)))⟩) (fun _ => rfl) (fun _ => rfl)
    ⟨Try.func40, by kernel_rfl, by kernel_rfl, by kernel_rfl, by kernel_rfl, by kernel_rfl, by kernel_rfl⟩ (forall_cons (fun x => ⟨rfl, fun k => spec_StorePack.h11 k x.1 x.2.1 x.2.2.1⟩) (forall_nil)) (fun k x => spec_StorePack.hf k x.1) k
noncomputable def b144 : Code := Try.f144.body.getD .skip
theorem e144 : OM.Entry Try.prog 144 := ⟨_, Try.func144, by kernel_rfl, by kernel_rfl⟩
@[reducible] noncomputable def impl_GetNum.g : Sig := ⟨[.fz (.sl (.int .u8)), .fz (.int .i64)], [.v (.int .i64) .z, .v (.int .i64) .z, .v .bool .z], []⟩
@[reducible] noncomputable def impl_GetNum.fk : Nat → denI impl_GetNum.g.pms → Option (denR (outTys impl_GetNum.g.rts impl_GetNum.g.pms)) := fun k x => impl_GetNum.f k x.1 x.2.1
@[reducible] noncomputable def impl_GetNum.sm (k : Nat) : Sm := ⟨144, impl_GetNum.g.pms, impl_GetNum.g.rts, impl_GetNum.fk k⟩
noncomputable def impl_GetNum.E (k : Nat) : Env := ⟨tys, [], [], [], []⟩
@[reducible] noncomputable def impl_GetNum.s11 : List Slot := [.v 0 (.sl (.int .u8)) .z [] 0, .v 4 (.int .i64) .z [] 0, .v 28 (.int .i64) .z [] 0, .v 32 (.int .i64) .z [] 0]
noncomputable def impl_GetNum.pts : List (Pt (denR (outTys impl_GetNum.g.rts impl_GetNum.g.pms))) := [⟨11, impl_GetNum.s11, fun k x => impl_GetNum.p11 k x.1 x.2.1 x.2.2.1 x.2.2.2.1⟩]
theorem impl_GetNum.h11 (k : Nat) (x0 : (List Int)) (x1 : Int) (x2 : Int) (x3 : Int) : (impl_GetNum.p11 (k + 1) x0 x1 x2 x3 : Option (denR (outTys impl_GetNum.g.rts impl_GetNum.g.pms))) = evAt (impl_GetNum.E k) (fun κ s => lhOf k κ s impl_GetNum.pts) 11 b144 (unproj impl_GetNum.s11 (x0, x1, x2, x3, ())) (OM.fin impl_GetNum.g Try.f144.results.toList) := by kernel_rfl
theorem impl_GetNum.hf (k : Nat) (a0 : (List Int)) (a1 : Int) : (impl_GetNum.f k a0 a1 : Option (denR (outTys impl_GetNum.g.rts impl_GetNum.g.pms))) = evC (impl_GetNum.E k) (fun κ s => lhOf k κ s impl_GetNum.pts) b144 (OM.start impl_GetNum.g.pms 0 (a0, a1, ())) (OM.fin impl_GetNum.g Try.f144.results.toList) := by kernel_rfl
theorem impl_GetNum.ok (k : Nat) : SmOk Try.prog (impl_GetNum.sm k) :=
  sm_ok mixed (E := impl_GetNum.E) (pts := impl_GetNum.pts) (fun k => ⟨⟨tysOk, by kernel_rfl⟩, forall_nil⟩) (fun _ => rfl) (fun _ => rfl)
    ⟨Try.func144, by kernel_rfl, by kernel_rfl, by kernel_rfl, by kernel_rfl, by kernel_rfl, by kernel_rfl⟩ (forall_cons (fun x => ⟨rfl, fun k => impl_GetNum.h11 k x.1 x.2.1 x.2.2.1 x.2.2.2.1⟩) (forall_nil)) (fun k x => impl_GetNum.hf k x.1 x.2.1) k
noncomputable def b101 : Code := Try.f101.body.getD .skip
theorem e101 : OM.Entry Try.prog 101 := ⟨_, Try.func101, by kernel_rfl, by kernel_rfl⟩
@[reducible] noncomputable def impl_reader_num.g : Sig := ⟨[.ptr treader .z .z], [.v (.int .i64) .z], []⟩
@[reducible] noncomputable def impl_reader_num.fk : Nat → denI impl_reader_num.g.pms → Option (denR (outTys impl_reader_num.g.rts impl_reader_num.g.pms)) := fun k x => impl_reader_num.f k x.1
@[reducible] noncomputable def impl_reader_num.sm (k : Nat) : Sm := ⟨101, impl_reader_num.g.pms, impl_reader_num.g.rts, impl_reader_num.fk k⟩
noncomputable def impl_reader_num.E (k : Nat) : Env := ⟨tys, [impl_GetNum.sm k], [31], [], []⟩
noncomputable def impl_reader_num.pts : List (Pt (denR (outTys impl_reader_num.g.rts impl_reader_num.g.pms))) := []
theorem impl_reader_num.hf (k : Nat) (a0 : reader) : (impl_reader_num.f k a0 : Option (denR (outTys impl_reader_num.g.rts impl_reader_num.g.pms))) = evC (impl_reader_num.E k) (fun κ s => lhOf k κ s impl_reader_num.pts) b101 (OM.start impl_reader_num.g.pms 0 (a0, ())) (OM.fin impl_reader_num.g Try.f101.results.toList) := by kernel_rfl
theorem impl_reader_num.ok (k : Nat) : SmOk Try.prog (impl_reader_num.sm k) :=
  sm_ok mixed (E := impl_reader_num.E) (pts := impl_reader_num.pts) (fun k => ⟨⟨tysOk, by kernel_rfl⟩, forall_cons ⟨impl_GetNum.ok k, e144⟩ (forall_nil)⟩) (fun _ => rfl) (fun _ => rfl)
    ⟨Try.func101, by kernel_rfl, by kernel_rfl, by kernel_rfl, by kernel_rfl, by kernel_rfl, by kernel_rfl⟩ (forall_nil) (fun k x => impl_reader_num.hf k x.1) k
noncomputable def b102 : Code := Try.f102.body.getD .skip
theorem e102 : OM.Entry Try.prog 102 := ⟨_, Try.func102, by kernel_rfl, by kernel_rfl⟩
@[reducible] noncomputable def impl_reader_count.g : Sig := ⟨[.ptr treader .z .z, .fz (.int .i64)], [.v (.int .i64) .z], []⟩
@[reducible] noncomputable def impl_reader_count.fk : Nat → denI impl_reader_count.g.pms → Option (denR (outTys impl_reader_count.g.rts impl_reader_count.g.pms)) := fun k x => impl_reader_count.f k x.1 x.2.1
@[reducible] noncomputable def impl_reader_count.sm (k : Nat) : Sm := ⟨102, impl_reader_count.g.pms, impl_reader_count.g.rts, impl_reader_count.fk k⟩
noncomputable def impl_reader_count.E (k : Nat) : Env := ⟨tys, [impl_reader_num.sm k], [], [], []⟩
noncomputable def impl_reader_count.pts : List (Pt (denR (outTys impl_reader_count.g.rts impl_reader_count.g.pms))) := []
theorem impl_reader_count.hf (k : Nat) (a0 : reader) (a1 : Int) : (impl_reader_count.f k a0 a1 : Option (denR (outTys impl_reader_count.g.rts impl_reader_count.g.pms))) = evC (impl_reader_count.E k) (fun κ s => lhOf k κ s impl_reader_count.pts) b102 (OM.start impl_reader_count.g.pms 0 (a0, a1, ())) (OM.fin impl_reader_count.g Try.f102.results.toList) := by kernel_rfl
theorem impl_reader_count.ok (k : Nat) : SmOk Try.prog (impl_reader_count.sm k) :=
  sm_ok mixed (E := impl_reader_count.E) (pts := impl_reader_count.pts) (fun k => ⟨⟨tysOk, by kernel_rfl⟩, forall_cons ⟨impl_reader_num.ok k, e101⟩ (forall_nil)⟩) (fun _ => rfl) (fun _ => rfl)
    ⟨Try.func102, by kernel_rfl, by kernel_rfl, by kernel_rfl, by kernel_rfl, by kernel_rfl, by kernel_rfl⟩ (forall_nil) (fun k x => impl_reader_count.hf k x.1 x.2.1) k
noncomputable def b104 : Code := Try.f104.body.getD .skip
theorem e104 : OM.Entry Try.prog 104 := ⟨_, Try.func104, by kernel_rfl, by kernel_rfl⟩
@[reducible] noncomputable def impl_reader_done.g : Sig := ⟨[.ptr treader .z .z], [.v .bool .z], []⟩
@[reducible] noncomputable def impl_reader_done.fk : Nat → denI impl_reader_done.g.pms → Option (denR (outTys impl_reader_done.g.rts impl_reader_done.g.pms)) := fun k x => impl_reader_done.f x.1
@[reducible] noncomputable def impl_reader_done.sm (k : Nat) : Sm := ⟨104, impl_reader_done.g.pms, impl_reader_done.g.rts, impl_reader_done.fk k⟩
noncomputable def impl_reader_done.E (k : Nat) : Env := ⟨tys, [], [], [], []⟩
noncomputable def impl_reader_done.pts : List (Pt (denR (outTys impl_reader_done.g.rts impl_reader_done.g.pms))) := []
theorem impl_reader_done.hf (k : Nat) (a0 : reader) : (impl_reader_done.f a0 : Option (denR (outTys impl_reader_done.g.rts impl_reader_done.g.pms))) = evC (impl_reader_done.E k) (fun κ s => lhOf k κ s impl_reader_done.pts) b104 (OM.start impl_reader_done.g.pms 0 (a0, ())) (OM.fin impl_reader_done.g Try.f104.results.toList) := by kernel_rfl
theorem impl_reader_done.ok (k : Nat) : SmOk Try.prog (impl_reader_done.sm k) :=
  sm_ok mixed (E := impl_reader_done.E) (pts := impl_reader_done.pts) (fun k => ⟨⟨tysOk, by kernel_rfl⟩, forall_nil⟩) (fun _ => rfl) (fun _ => rfl)
    ⟨Try.func104, by kernel_rfl, by kernel_rfl, by kernel_rfl, by kernel_rfl, by kernel_rfl, by kernel_rfl⟩ (forall_nil) (fun k x => impl_reader_done.hf k x.1) k
noncomputable def b145 : Code := Try.f145.body.getD .skip
theorem e145 : OM.Entry Try.prog 145 := ⟨_, Try.func145, by kernel_rfl, by kernel_rfl⟩
@[reducible] noncomputable def impl_reader_flag.g : Sig := ⟨[.ptr treader .z .z], [.v .bool .z], []⟩
@[reducible] noncomputable def impl_reader_flag.fk : Nat → denI impl_reader_flag.g.pms → Option (denR (outTys impl_reader_flag.g.rts impl_reader_flag.g.pms)) := fun k x => impl_reader_flag.f k x.1
@[reducible] noncomputable def impl_reader_flag.sm (k : Nat) : Sm := ⟨145, impl_reader_flag.g.pms, impl_reader_flag.g.rts, impl_reader_flag.fk k⟩
noncomputable def impl_reader_flag.E (k : Nat) : Env := ⟨tys, [impl_reader_count.sm k], [], [], []⟩
noncomputable def impl_reader_flag.pts : List (Pt (denR (outTys impl_reader_flag.g.rts impl_reader_flag.g.pms))) := []
theorem impl_reader_flag.hf (k : Nat) (a0 : reader) : (impl_reader_flag.f k a0 : Option (denR (outTys impl_reader_flag.g.rts impl_reader_flag.g.pms))) = evC (impl_reader_flag.E k) (fun κ s => lhOf k κ s impl_reader_flag.pts) b145 (OM.start impl_reader_flag.g.pms 0 (a0, ())) (OM.fin impl_reader_flag.g Try.f145.results.toList) := by kernel_rfl
theorem impl_reader_flag.ok (k : Nat) : SmOk Try.prog (impl_reader_flag.sm k) :=
  sm_ok mixed (E := impl_reader_flag.E) (pts := impl_reader_flag.pts) (fun k => ⟨⟨tysOk, by kernel_rfl⟩, forall_cons ⟨impl_reader_count.ok k, e102⟩ (forall_nil)⟩) (fun _ => rfl) (fun _ => rfl)
    ⟨Try.func145, by kernel_rfl, by kernel_rfl, by kernel_rfl, by kernel_rfl, by kernel_rfl, by kernel_rfl⟩ (forall_nil) (fun k x => impl_reader_flag.hf k x.1) k
noncomputable def b146 : Code := Try.f146.body.getD .skip
theorem e146 : OM.Entry Try.prog 146 := ⟨_, Try.func146, by kernel_rfl, by kernel_rfl⟩
@[reducible] noncomputable def impl_reader_text.g : Sig := ⟨[.ptr treader .z .z], [.v .str .z], []⟩
@[reducible] noncomputable def impl_reader_text.fk : Nat → denI impl_reader_text.g.pms → Option (denR (outTys impl_reader_text.g.rts impl_reader_text.g.pms)) := fun k x => impl_reader_text.f k x.1
@[reducible] noncomputable def impl_reader_text.sm (k : Nat) : Sm := ⟨146, impl_reader_text.g.pms, impl_reader_text.g.rts, impl_reader_text.fk k⟩
noncomputable def impl_reader_text.E (k : Nat) : Env := ⟨tys, [impl_reader_num.sm k], [49], [], []⟩
noncomputable def impl_reader_text.pts : List (Pt (denR (outTys impl_reader_text.g.rts impl_reader_text.g.pms))) := []
theorem impl_reader_text.hf (k : Nat) (a0 : reader) : (impl_reader_text.f k a0 : Option (denR (outTys impl_reader_text.g.rts impl_reader_text.g.pms))) = evC (impl_reader_text.E k) (fun κ s => lhOf k κ s impl_reader_text.pts) b146 (OM.start impl_reader_text.g.pms 0 (a0, ())) (OM.fin impl_reader_text.g Try.f146.results.toList) := by kernel_rfl
theorem impl_reader_text.ok (k : Nat) : SmOk Try.prog (impl_reader_text.sm k) :=
  sm_ok mixed (E := impl_reader_text.E) (pts := impl_reader_text.pts) (fun k => ⟨⟨tysOk, by kernel_rfl⟩, forall_cons ⟨impl_reader_num.ok k, e101⟩ (forall_nil)⟩) (fun _ => rfl) (fun _ => rfl)
    ⟨Try.func146, by kernel_rfl, by kernel_rfl, by kernel_rfl, by kernel_rfl, by kernel_rfl, by kernel_rfl⟩ (forall_nil) (fun k x => impl_reader_text.hf k x.1) k
noncomputable def b103 : Code := Try.f103.body.getD .skip
theorem e103 : OM.Entry Try.prog 103 := ⟨_, Try.func103, by kernel_rfl, by kernel_rfl⟩
@[reducible] noncomputable def impl_reader_entry.g : Sig := ⟨[.ptr treader .z .z], [.v tEntry .z], []⟩
@[reducible] noncomputable def impl_reader_entry.fk : Nat → denI impl_reader_entry.g.pms → Option (denR (outTys impl_reader_entry.g.rts impl_reader_entry.g.pms)) := fun k x => impl_reader_entry.f k x.1
@[reducible] noncomputable def impl_reader_entry.sm (k : Nat) : Sm := ⟨103, impl_reader_entry.g.pms, impl_reader_entry.g.rts, impl_reader_entry.fk k⟩
noncomputable def impl_reader_entry.E (k : Nat) : Env := ⟨tys, [impl_EntryOk.sm k, impl_reader_num.sm k, impl_reader_flag.sm k, impl_reader_text.sm k], [], [], []⟩
noncomputable def impl_reader_entry.pts : List (Pt (denR (outTys impl_reader_entry.g.rts impl_reader_entry.g.pms))) := []
theorem impl_reader_entry.hf (k : Nat) (a0 : reader) : (impl_reader_entry.f k a0 : Option (denR (outTys impl_reader_entry.g.rts impl_reader_entry.g.pms))) = evC (impl_reader_entry.E k) (fun κ s => lhOf k κ s impl_reader_entry.pts) b103 (OM.start impl_reader_entry.g.pms 0 (a0, ())) (OM.fin impl_reader_entry.g Try.f103.results.toList) := by kernel_rfl
theorem impl_reader_entry.ok (k : Nat) : SmOk Try.prog (impl_reader_entry.sm k) :=
  sm_ok mixed (E := impl_reader_entry.E) (pts := impl_reader_entry.pts) (fun k => ⟨⟨tysOk, by kernel_rfl⟩, forall_cons ⟨impl_EntryOk.ok k, e120⟩ (forall_cons ⟨impl_reader_num.ok k, e101⟩ (forall_cons ⟨impl_reader_flag.ok k, e145⟩ (forall_cons ⟨impl_reader_text.ok k, e146⟩ (forall_nil))))⟩) (fun _ => rfl) (fun _ => rfl)
    ⟨Try.func103, by kernel_rfl, by kernel_rfl, by kernel_rfl, by kernel_rfl, by kernel_rfl, by kernel_rfl⟩ (forall_nil) (fun k x => impl_reader_entry.hf k x.1) k
noncomputable def b41 : Code := Try.f41.body.getD .skip
theorem e41 : OM.Entry Try.prog 41 := ⟨_, Try.func41, by kernel_rfl, by kernel_rfl⟩
@[reducible] noncomputable def impl_StoreRead.g : Sig := ⟨[.fz (.sl (.int .u8))], [.v tStore (.two (.own .z) (.two (.own .a) .z)), .v .bool .z], []⟩
@[reducible] noncomputable def impl_StoreRead.fk : Nat → denI impl_StoreRead.g.pms → Option (denR (outTys impl_StoreRead.g.rts impl_StoreRead.g.pms)) := fun k x => impl_StoreRead.f k x.1
@[reducible] noncomputable def impl_StoreRead.sm (k : Nat) : Sm := ⟨41, impl_StoreRead.g.pms, impl_StoreRead.g.rts, impl_StoreRead.fk k⟩
noncomputable def impl_StoreRead.E (k : Nat) : Env := ⟨tys, [impl_StoreOk.sm k, impl_reader_num.sm k, impl_reader_count.sm k, impl_reader_done.sm k, impl_reader_entry.sm k], [9, 34], [10], []⟩
@[reducible] noncomputable def impl_StoreRead.s13 : List Slot := [.r 8 9 [] tStore, .r 16 45 [] treader, .r 20 21 [] tStore, .v 24 (.int .i64) .z [] 0, .v 28 (.int .i64) .z [] 0, .v 9 tStore (.two (.own .a) (.two (.own .a) .z)) [] 0, .v 21 tStore (.two (.own .z) (.two (.own .a) .z)) [] 0, .v 45 treader .z [] 0]
@[reducible] noncomputable def impl_StoreRead.s20 : List Slot := [.r 8 9 [] tStore, .r 16 45 [] treader, .r 20 21 [] tStore, .v 9 tStore (.two (.own .a) (.two (.own .a) .z)) [] 0, .v 21 tStore (.two (.own .z) (.two (.own .a) .z)) [] 0, .v 45 treader .z [] 0]
noncomputable def impl_StoreRead.pts : List (Pt (denR (outTys impl_StoreRead.g.rts impl_StoreRead.g.pms))) := [⟨13, impl_StoreRead.s13, fun k x => impl_StoreRead.p13 k x.1 x.2.1 x.2.2.1 x.2.2.2.1 x.2.2.2.2.1⟩, ⟨20, impl_StoreRead.s20, fun k x => impl_StoreRead.p20 k x.1 x.2.1 x.2.2.1⟩]
theorem impl_StoreRead.h13 (k : Nat) (x0 : Int) (x1 : Int) (x2 : Store) (x3 : Store) (x4 : reader) : (impl_StoreRead.p13 (k + 1) x0 x1 x2 x3 x4 : Option (denR (outTys impl_StoreRead.g.rts impl_StoreRead.g.pms))) = evAt (impl_StoreRead.E k) (fun κ s => lhOf k κ s impl_StoreRead.pts) 13 b41 (unproj impl_StoreRead.s13 (x0, x1, x2, x3, x4, ())) (OM.fin impl_StoreRead.g Try.f41.results.toList) := by kernel_rfl
theorem impl_StoreRead.h20 (k : Nat) (x0 : Store) (x1 : Store) (x2 : reader) : (impl_StoreRead.p20 (k + 1) x0 x1 x2 : Option (denR (outTys impl_StoreRead.g.rts impl_StoreRead.g.pms))) = evAt (impl_StoreRead.E k) (fun κ s => lhOf k κ s impl_StoreRead.pts) 20 b41 (unproj impl_StoreRead.s20 (x0, x1, x2, ())) (OM.fin impl_StoreRead.g Try.f41.results.toList) := by kernel_rfl
theorem impl_StoreRead.hf (k : Nat) (a0 : (List Int)) : (impl_StoreRead.f k a0 : Option (denR (outTys impl_StoreRead.g.rts impl_StoreRead.g.pms))) = evC (impl_StoreRead.E k) (fun κ s => lhOf k κ s impl_StoreRead.pts) b41 (OM.start impl_StoreRead.g.pms 0 (a0, ())) (OM.fin impl_StoreRead.g Try.f41.results.toList) := by kernel_rfl
theorem impl_StoreRead.ok (k : Nat) : SmOk Try.prog (impl_StoreRead.sm k) :=
  sm_ok mixed (E := impl_StoreRead.E) (pts := impl_StoreRead.pts) (fun k => ⟨⟨tysOk, by kernel_rfl⟩, forall_cons ⟨impl_StoreOk.ok k, e95⟩ (forall_cons ⟨impl_reader_num.ok k, e101⟩ (forall_cons ⟨impl_reader_count.ok k, e102⟩ (forall_cons ⟨impl_reader_done.ok k, e104⟩ (forall_cons ⟨impl_reader_entry.ok k, e103⟩ (forall_nil)))))⟩) (fun _ => rfl) (fun _ => rfl)
    ⟨Try.func41, by kernel_rfl, by kernel_rfl, by kernel_rfl, by kernel_rfl, by kernel_rfl, by kernel_rfl⟩ (forall_cons (fun x => ⟨rfl, fun k => impl_StoreRead.h13 k x.1 x.2.1 x.2.2.1 x.2.2.2.1 x.2.2.2.2.1⟩) (forall_cons (fun x => ⟨rfl, fun k => impl_StoreRead.h20 k x.1 x.2.1 x.2.2.1⟩) (forall_nil))) (fun k x => impl_StoreRead.hf k x.1) k
noncomputable def b42 : Code := Try.f42.body.getD .skip
theorem e42 : OM.Entry Try.prog 42 := ⟨_, Try.func42, by kernel_rfl, by kernel_rfl⟩
@[reducible] noncomputable def laws_sameEntries.g : Sig := ⟨[.fz (.sl tEntry), .fz (.sl tEntry)], [.v .bool .z], []⟩
@[reducible] noncomputable def laws_sameEntries.fk : Nat → denI laws_sameEntries.g.pms → Option (denR (outTys laws_sameEntries.g.rts laws_sameEntries.g.pms)) := fun k x => laws_sameEntries.f k x.1 x.2.1
@[reducible] noncomputable def laws_sameEntries.sm (k : Nat) : Sm := ⟨42, laws_sameEntries.g.pms, laws_sameEntries.g.rts, laws_sameEntries.fk k⟩
noncomputable def laws_sameEntries.E (k : Nat) : Env := ⟨tys, [], [], [], [41]⟩
@[reducible] noncomputable def laws_sameEntries.s9 : List Slot := [.v 0 (.sl tEntry) .z [] 0, .v 4 (.sl tEntry) .z [] 0, .v 20 (.int .i64) .z [] 0]
noncomputable def laws_sameEntries.pts : List (Pt (denR (outTys laws_sameEntries.g.rts laws_sameEntries.g.pms))) := [⟨9, laws_sameEntries.s9, fun k x => laws_sameEntries.p9 k x.1 x.2.1 x.2.2.1⟩]
theorem laws_sameEntries.h9 (k : Nat) (x0 : (List Entry)) (x1 : (List Entry)) (x2 : Int) : (laws_sameEntries.p9 (k + 1) x0 x1 x2 : Option (denR (outTys laws_sameEntries.g.rts laws_sameEntries.g.pms))) = evAt (laws_sameEntries.E k) (fun κ s => lhOf k κ s laws_sameEntries.pts) 9 b42 (unproj laws_sameEntries.s9 (x0, x1, x2, ())) (OM.fin laws_sameEntries.g Try.f42.results.toList) := by kernel_rfl
theorem laws_sameEntries.hf (k : Nat) (a0 : (List Entry)) (a1 : (List Entry)) : (laws_sameEntries.f k a0 a1 : Option (denR (outTys laws_sameEntries.g.rts laws_sameEntries.g.pms))) = evC (laws_sameEntries.E k) (fun κ s => lhOf k κ s laws_sameEntries.pts) b42 (OM.start laws_sameEntries.g.pms 0 (a0, a1, ())) (OM.fin laws_sameEntries.g Try.f42.results.toList) := by kernel_rfl
theorem laws_sameEntries.ok (k : Nat) : SmOk Try.prog (laws_sameEntries.sm k) :=
  sm_ok mixed (E := laws_sameEntries.E) (pts := laws_sameEntries.pts) (fun k => ⟨⟨tysOk, by kernel_rfl⟩, forall_nil⟩) (fun _ => rfl) (fun _ => rfl)
    ⟨Try.func42, by kernel_rfl, by kernel_rfl, by kernel_rfl, by kernel_rfl, by kernel_rfl, by kernel_rfl⟩ (forall_cons (fun x => ⟨rfl, fun k => laws_sameEntries.h9 k x.1 x.2.1 x.2.2.1⟩) (forall_nil)) (fun k x => laws_sameEntries.hf k x.1 x.2.1) k
noncomputable def b43 : Code := Try.f43.body.getD .skip
theorem e43 : OM.Entry Try.prog 43 := ⟨_, Try.func43, by kernel_rfl, by kernel_rfl⟩
@[reducible] noncomputable def spec_DrawStoreRead.g : Sig := ⟨[.fz (.sl (.int .u8))], [.v (.sl (.int .u8)) (.own .z)], []⟩
@[reducible] noncomputable def spec_DrawStoreRead.fk : Nat → denI spec_DrawStoreRead.g.pms → Option (denR (outTys spec_DrawStoreRead.g.rts spec_DrawStoreRead.g.pms)) := fun k x => spec_DrawStoreRead.f k x.1
@[reducible] noncomputable def spec_DrawStoreRead.sm (k : Nat) : Sm := ⟨43, spec_DrawStoreRead.g.pms, spec_DrawStoreRead.g.rts, spec_DrawStoreRead.fk k⟩
noncomputable def spec_DrawStoreRead.E (k : Nat) : Env := ⟨tys, [spec_l1New.sm k, spec_l1Below.sm k, spec_l6DrawRight.sm k, spec_l1PickInt.sm k, spec_StorePack.sm k], [42], [], []⟩
noncomputable def spec_DrawStoreRead.pts : List (Pt (denR (outTys spec_DrawStoreRead.g.rts spec_DrawStoreRead.g.pms))) := []
theorem spec_DrawStoreRead.hf (k : Nat) (a0 : (List Int)) : (spec_DrawStoreRead.f k a0 : Option (denR (outTys spec_DrawStoreRead.g.rts spec_DrawStoreRead.g.pms))) = evC (spec_DrawStoreRead.E k) (fun κ s => lhOf k κ s spec_DrawStoreRead.pts) b43 (OM.start spec_DrawStoreRead.g.pms 0 (a0, ())) (OM.fin spec_DrawStoreRead.g Try.f43.results.toList) := by kernel_rfl
theorem spec_DrawStoreRead.ok (k : Nat) : SmOk Try.prog (spec_DrawStoreRead.sm k) :=
  sm_ok mixed (E := spec_DrawStoreRead.E) (pts := spec_DrawStoreRead.pts) (fun k => ⟨⟨tysOk, by kernel_rfl⟩, forall_cons ⟨spec_l1New.ok k, e70⟩ (forall_cons ⟨spec_l1Below.ok k, e71⟩ (forall_cons ⟨spec_l6DrawRight.ok k, e105⟩ (forall_cons ⟨spec_l1PickInt.ok k, e91⟩ (forall_cons ⟨spec_StorePack.ok k, e40⟩ (forall_nil)))))⟩) (fun _ => rfl) (fun _ => rfl)
    ⟨Try.func43, by kernel_rfl, by kernel_rfl, by kernel_rfl, by kernel_rfl, by kernel_rfl, by kernel_rfl⟩ (forall_nil) (fun k x => spec_DrawStoreRead.hf k x.1) k
noncomputable def b106 : Code := Try.f106.body.getD .skip
theorem e106 : OM.Entry Try.prog 106 := ⟨_, Try.func106, by kernel_rfl, by kernel_rfl⟩
@[reducible] noncomputable def spec_GetNum.g : Sig := ⟨[.fz (.sl (.int .u8)), .fz (.int .i64)], [.v (.int .i64) .z, .v (.int .i64) .z, .v .bool .z], []⟩
@[reducible] noncomputable def spec_GetNum.fk : Nat → denI spec_GetNum.g.pms → Option (denR (outTys spec_GetNum.g.rts spec_GetNum.g.pms)) := fun k x => spec_GetNum.f k x.1 x.2.1
@[reducible] noncomputable def spec_GetNum.sm (k : Nat) : Sm := ⟨106, spec_GetNum.g.pms, spec_GetNum.g.rts, spec_GetNum.fk k⟩
noncomputable def spec_GetNum.E (k : Nat) : Env := ⟨tys, [], [], [], []⟩
@[reducible] noncomputable def spec_GetNum.s13 : List Slot := [.v 0 (.sl (.int .u8)) .z [] 0, .v 4 (.int .i64) .z [] 0, .v 28 (.int .i64) .z [] 0, .v 32 (.int .i64) .z [] 0, .v 36 (.int .i64) .z [] 0]
noncomputable def spec_GetNum.pts : List (Pt (denR (outTys spec_GetNum.g.rts spec_GetNum.g.pms))) := [⟨13, spec_GetNum.s13, fun k x => spec_GetNum.p13 k x.1 x.2.1 x.2.2.1 x.2.2.2.1 x.2.2.2.2.1⟩]
theorem spec_GetNum.h13 (k : Nat) (x0 : (List Int)) (x1 : Int) (x2 : Int) (x3 : Int) (x4 : Int) : (spec_GetNum.p13 (k + 1) x0 x1 x2 x3 x4 : Option (denR (outTys spec_GetNum.g.rts spec_GetNum.g.pms))) = evAt (spec_GetNum.E k) (fun κ s => lhOf k κ s spec_GetNum.pts) 13 b106 (unproj spec_GetNum.s13 (x0, x1, x2, x3, x4, ())) (OM.fin spec_GetNum.g Try.f106.results.toList) := by kernel_rfl
theorem spec_GetNum.hf (k : Nat) (a0 : (List Int)) (a1 : Int) : (spec_GetNum.f k a0 a1 : Option (denR (outTys spec_GetNum.g.rts spec_GetNum.g.pms))) = evC (spec_GetNum.E k) (fun κ s => lhOf k κ s spec_GetNum.pts) b106 (OM.start spec_GetNum.g.pms 0 (a0, a1, ())) (OM.fin spec_GetNum.g Try.f106.results.toList) := by kernel_rfl
theorem spec_GetNum.ok (k : Nat) : SmOk Try.prog (spec_GetNum.sm k) :=
  sm_ok mixed (E := spec_GetNum.E) (pts := spec_GetNum.pts) (fun k => ⟨⟨tysOk, by kernel_rfl⟩, forall_nil⟩) (fun _ => rfl) (fun _ => rfl)
    ⟨Try.func106, by kernel_rfl, by kernel_rfl, by kernel_rfl, by kernel_rfl, by kernel_rfl, by kernel_rfl⟩ (forall_cons (fun x => ⟨rfl, fun k => spec_GetNum.h13 k x.1 x.2.1 x.2.2.1 x.2.2.2.1 x.2.2.2.2.1⟩) (forall_nil)) (fun k x => spec_GetNum.hf k x.1 x.2.1) k
noncomputable def b151 : Code := Try.f151.body.getD .skip
theorem e151 : OM.Entry Try.prog 151 := ⟨_, Try.func151, by kernel_rfl, by kernel_rfl⟩
@[reducible] noncomputable def spec_GetText.g : Sig := ⟨[.fz (.sl (.int .u8)), .fz (.int .i64)], [.v .str .z, .v (.int .i64) .z, .v .bool .z], []⟩
@[reducible] noncomputable def spec_GetText.fk : Nat → denI spec_GetText.g.pms → Option (denR (outTys spec_GetText.g.rts spec_GetText.g.pms)) := fun k x => spec_GetText.f k x.1 x.2.1
@[reducible] noncomputable def spec_GetText.sm (k : Nat) : Sm := ⟨151, spec_GetText.g.pms, spec_GetText.g.rts, spec_GetText.fk k⟩
noncomputable def spec_GetText.E (k : Nat) : Env := ⟨tys, [spec_GetNum.sm k], [27, 32], [], []⟩
noncomputable def spec_GetText.pts : List (Pt (denR (outTys spec_GetText.g.rts spec_GetText.g.pms))) := []
theorem spec_GetText.hf (k : Nat) (a0 : (List Int)) (a1 : Int) : (spec_GetText.f k a0 a1 : Option (denR (outTys spec_GetText.g.rts spec_GetText.g.pms))) = evC (spec_GetText.E k) (fun κ s => lhOf k κ s spec_GetText.pts) b151 (OM.start spec_GetText.g.pms 0 (a0, a1, ())) (OM.fin spec_GetText.g Try.f151.results.toList) := by kernel_rfl
theorem spec_GetText.ok (k : Nat) : SmOk Try.prog (spec_GetText.sm k) :=
  sm_ok mixed (E := spec_GetText.E) (pts := spec_GetText.pts) (fun k => ⟨⟨tysOk, by kernel_rfl⟩, forall_cons ⟨spec_GetNum.ok k, e106⟩ (forall_nil)⟩) (fun _ => rfl) (fun _ => rfl)
    ⟨Try.func151, by kernel_rfl, by kernel_rfl, by kernel_rfl, by kernel_rfl, by kernel_rfl, by kernel_rfl⟩ (forall_nil) (fun k x => spec_GetText.hf k x.1 x.2.1) k
noncomputable def b107 : Code := Try.f107.body.getD .skip
theorem e107 : OM.Entry Try.prog 107 := ⟨_, Try.func107, by kernel_rfl, by kernel_rfl⟩
@[reducible] noncomputable def spec_EntryRead.g : Sig := ⟨[.fz (.sl (.int .u8)), .fz (.int .i64)], [.v tEntry .z, .v (.int .i64) .z, .v .bool .z], []⟩
@[reducible] noncomputable def spec_EntryRead.fk : Nat → denI spec_EntryRead.g.pms → Option (denR (outTys spec_EntryRead.g.rts spec_EntryRead.g.pms)) := fun k x => spec_EntryRead.f k x.1 x.2.1
@[reducible] noncomputable def spec_EntryRead.sm (k : Nat) : Sm := ⟨107, spec_EntryRead.g.pms, spec_EntryRead.g.rts, spec_EntryRead.fk k⟩
noncomputable def spec_EntryRead.E (k : Nat) : Env := ⟨tys, [spec_EntryOk.sm k, spec_GetNum.sm k, spec_GetText.sm k], [56, 57, 60], [], []⟩
noncomputable def spec_EntryRead.pts : List (Pt (denR (outTys spec_EntryRead.g.rts spec_EntryRead.g.pms))) := []
theorem spec_EntryRead.hf (k : Nat) (a0 : (List Int)) (a1 : Int) : (spec_EntryRead.f k a0 a1 : Option (denR (outTys spec_EntryRead.g.rts spec_EntryRead.g.pms))) = evC (spec_EntryRead.E k) (fun κ s => lhOf k κ s spec_EntryRead.pts) b107 (OM.start spec_EntryRead.g.pms 0 (a0, a1, ())) (OM.fin spec_EntryRead.g Try.f107.results.toList) := by kernel_rfl
theorem spec_EntryRead.ok (k : Nat) : SmOk Try.prog (spec_EntryRead.sm k) :=
  sm_ok mixed (E := spec_EntryRead.E) (pts := spec_EntryRead.pts) (fun k => ⟨⟨tysOk, by kernel_rfl⟩, forall_cons ⟨spec_EntryOk.ok k, e66⟩ (forall_cons ⟨spec_GetNum.ok k, e106⟩ (forall_cons ⟨spec_GetText.ok k, e151⟩ (forall_nil)))⟩) (fun _ => rfl) (fun _ => rfl)
    ⟨Try.func107, by kernel_rfl, by kernel_rfl, by kernel_rfl, by kernel_rfl, by kernel_rfl, by kernel_rfl⟩ (forall_nil) (fun k x => spec_EntryRead.hf k x.1 x.2.1) k
noncomputable def b44 : Code := Try.f44.body.getD .skip
theorem e44 : OM.Entry Try.prog 44 := ⟨_, Try.func44, by kernel_rfl, by kernel_rfl⟩
@[reducible] noncomputable def spec_StoreRead.g : Sig := ⟨[.fz (.sl (.int .u8))], [.v tStore (.two (.own .z) (.two (.own .a) .z)), .v .bool .z], []⟩
@[reducible] noncomputable def spec_StoreRead.fk : Nat → denI spec_StoreRead.g.pms → Option (denR (outTys spec_StoreRead.g.rts spec_StoreRead.g.pms)) := fun k x => spec_StoreRead.f k x.1
@[reducible] noncomputable def spec_StoreRead.sm (k : Nat) : Sm := ⟨44, spec_StoreRead.g.pms, spec_StoreRead.g.rts, spec_StoreRead.fk k⟩
noncomputable def spec_StoreRead.E (k : Nat) : Env := ⟨tys, [spec_StoreOk.sm k, spec_GetNum.sm k, spec_EntryRead.sm k], [29, 48, 52, 53], [13], []⟩
@[reducible] noncomputable def spec_StoreRead.s15 : List Slot := [.v 0 (.sl (.int .u8)) .z [] 0, .r 8 9 [] tStore, .v 20 (.int .i64) .z [] 0, .v 24 .bool .z [] 0, .v 28 (.int .i64) .z [] 0, .r 32 33 [] tStore, .v 36 (.int .i64) .z [] 0, .v 9 tStore (.two (.own .a) (.two (.own .a) .z)) [] 0, .v 33 tStore (.two (.own .z) (.two (.own .a) .z)) [] 0]
@[reducible] noncomputable def spec_StoreRead.s26 : List Slot := [.v 0 (.sl (.int .u8)) .z [] 0, .r 8 9 [] tStore, .v 20 (.int .i64) .z [] 0, .v 24 .bool .z [] 0, .r 32 33 [] tStore, .v 9 tStore (.two (.own .a) (.two (.own .a) .z)) [] 0, .v 33 tStore (.two (.own .z) (.two (.own .a) .z)) [] 0]
noncomputable def spec_StoreRead.pts : List (Pt (denR (outTys spec_StoreRead.g.rts spec_StoreRead.g.pms))) := [⟨15, spec_StoreRead.s15, fun k x => spec_StoreRead.p15 k x.1 x.2.1 x.2.2.1 x.2.2.2.1 x.2.2.2.2.1 x.2.2.2.2.2.1 x.2.2.2.2.2.2.1⟩, ⟨26, spec_StoreRead.s26, fun k x => spec_StoreRead.p26 k x.1 x.2.1 x.2.2.1 x.2.2.2.1 x.2.2.2.2.1⟩]
theorem spec_StoreRead.h15 (k : Nat) (x0 : (List Int)) (x1 : Int) (x2 : Bool) (x3 : Int) (x4 : Int) (x5 : Store) (x6 : Store) : (spec_StoreRead.p15 (k + 1) x0 x1 x2 x3 x4 x5 x6 : Option (denR (outTys spec_StoreRead.g.rts spec_StoreRead.g.pms))) = evAt (spec_StoreRead.E k) (fun κ s => lhOf k κ s spec_StoreRead.pts) 15 b44 (unproj spec_StoreRead.s15 (x0, x1, x2, x3, x4, x5, x6, ())) (OM.fin spec_StoreRead.g Try.f44.results.toList) := by kernel_rfl
theorem spec_StoreRead.h26 (k : Nat) (x0 : (List Int)) (x1 : Int) (x2 : Bool) (x3 : Store) (x4 : Store) : (spec_StoreRead.p26 (k + 1) x0 x1 x2 x3 x4 : Option (denR (outTys spec_StoreRead.g.rts spec_StoreRead.g.pms))) = evAt (spec_StoreRead.E k) (fun κ s => lhOf k κ s spec_StoreRead.pts) 26 b44 (unproj spec_StoreRead.s26 (x0, x1, x2, x3, x4, ())) (OM.fin spec_StoreRead.g Try.f44.results.toList) := by kernel_rfl
theorem spec_StoreRead.hf (k : Nat) (a0 : (List Int)) : (spec_StoreRead.f k a0 : Option (denR (outTys spec_StoreRead.g.rts spec_StoreRead.g.pms))) = evC (spec_StoreRead.E k) (fun κ s => lhOf k κ s spec_StoreRead.pts) b44 (OM.start spec_StoreRead.g.pms 0 (a0, ())) (OM.fin spec_StoreRead.g Try.f44.results.toList) := by kernel_rfl
theorem spec_StoreRead.ok (k : Nat) : SmOk Try.prog (spec_StoreRead.sm k) :=
  sm_ok mixed (E := spec_StoreRead.E) (pts := spec_StoreRead.pts) (fun k => ⟨⟨tysOk, by kernel_rfl⟩, forall_cons ⟨spec_StoreOk.ok k, e98⟩ (forall_cons ⟨spec_GetNum.ok k, e106⟩ (forall_cons ⟨spec_EntryRead.ok k, e107⟩ (forall_nil)))⟩) (fun _ => rfl) (fun _ => rfl)
    ⟨Try.func44, by kernel_rfl, by kernel_rfl, by kernel_rfl, by kernel_rfl, by kernel_rfl, by kernel_rfl⟩ (forall_cons (fun x => ⟨rfl, fun k => spec_StoreRead.h15 k x.1 x.2.1 x.2.2.1 x.2.2.2.1 x.2.2.2.2.1 x.2.2.2.2.2.1 x.2.2.2.2.2.2.1⟩) (forall_cons (fun x => ⟨rfl, fun k => spec_StoreRead.h26 k x.1 x.2.1 x.2.2.1 x.2.2.2.1 x.2.2.2.2.1⟩) (forall_nil))) (fun k x => spec_StoreRead.hf k x.1) k
noncomputable def b7 : Code := Try.f7.body.getD .skip
theorem e7 : OM.Entry Try.prog 7 := ⟨_, Try.func7, by kernel_rfl, by kernel_rfl⟩
@[reducible] noncomputable def laws_FnStoreBytes.g : Sig := ⟨[.fz (.sl (.int .u8))], [.v .bool .z], []⟩
@[reducible] noncomputable def laws_FnStoreBytes.fk : Nat → denI laws_FnStoreBytes.g.pms → Option (denR (outTys laws_FnStoreBytes.g.rts laws_FnStoreBytes.g.pms)) := fun k x => laws_FnStoreBytes.f k x.1
@[reducible] noncomputable def laws_FnStoreBytes.sm (k : Nat) : Sm := ⟨7, laws_FnStoreBytes.g.pms, laws_FnStoreBytes.g.rts, laws_FnStoreBytes.fk k⟩
noncomputable def laws_FnStoreBytes.E (k : Nat) : Env := ⟨tys, [laws_big.sm k, spec_DrawStorePack.sm k, impl_StorePack.sm k, spec_StorePack.sm k, impl_StoreRead.sm k, laws_sameEntries.sm k, spec_DrawStoreRead.sm k, spec_StoreRead.sm k], [], [12], [4]⟩
@[reducible] noncomputable def laws_FnStoreBytes.s24 : List Slot := [.v 0 (.sl (.int .u8)) .z [] 0]
noncomputable def laws_FnStoreBytes.pts : List (Pt (denR (outTys laws_FnStoreBytes.g.rts laws_FnStoreBytes.g.pms))) := [⟨24, laws_FnStoreBytes.s24, fun k x => laws_FnStoreBytes.p24 k x.1⟩]
theorem laws_FnStoreBytes.h24 (k : Nat) (x0 : (List Int)) : (laws_FnStoreBytes.p24 (k + 1) x0 : Option (denR (outTys laws_FnStoreBytes.g.rts laws_FnStoreBytes.g.pms))) = evAt (laws_FnStoreBytes.E k) (fun κ s => lhOf k κ s laws_FnStoreBytes.pts) 24 b7 (unproj laws_FnStoreBytes.s24 (x0, ())) (OM.fin laws_FnStoreBytes.g Try.f7.results.toList) := by kernel_rfl
theorem laws_FnStoreBytes.hf (k : Nat) (a0 : (List Int)) : (laws_FnStoreBytes.f k a0 : Option (denR (outTys laws_FnStoreBytes.g.rts laws_FnStoreBytes.g.pms))) = evC (laws_FnStoreBytes.E k) (fun κ s => lhOf k κ s laws_FnStoreBytes.pts) b7 (OM.start laws_FnStoreBytes.g.pms 0 (a0, ())) (OM.fin laws_FnStoreBytes.g Try.f7.results.toList) := by kernel_rfl
theorem laws_FnStoreBytes.ok (k : Nat) : SmOk Try.prog (laws_FnStoreBytes.sm k) :=
  sm_ok mixed (E := laws_FnStoreBytes.E) (pts := laws_FnStoreBytes.pts) (fun k => ⟨⟨tysOk, by kernel_rfl⟩, forall_cons ⟨laws_big.ok k, e9⟩ (forall_cons ⟨spec_DrawStorePack.ok k, e38⟩ (forall_cons ⟨impl_StorePack.ok k, e39⟩ (forall_cons ⟨spec_StorePack.ok k, e40⟩ (forall_cons ⟨impl_StoreRead.ok k, e41⟩ (forall_cons ⟨laws_sameEntries.ok k, e42⟩ (forall_cons ⟨spec_DrawStoreRead.ok k, e43⟩ (forall_cons ⟨spec_StoreRead.ok k, e44⟩ (forall_nil))))))))⟩) (fun _ => rfl) (fun _ => rfl)
    ⟨Try.func7, by kernel_rfl, by kernel_rfl, by kernel_rfl, by kernel_rfl, by kernel_rfl, by kernel_rfl⟩ (forall_cons (fun x => ⟨rfl, fun k => laws_FnStoreBytes.h24 k x.1⟩) (forall_nil)) (fun k x => laws_FnStoreBytes.hf k x.1) k
end Go.Proofs.Ytllmifioelbleaa.OmFnStoreBytes
