import Derived.Test.YtdkdhciogedoiacFFnOpened
import Derived.Test.YtdkdhciogedoiacChecked
set_option maxRecDepth 1000000
set_option linter.unusedVariables false
namespace Go.Proofs.Ytdkdhciogedoiac.OmFnOpened
open Go Go.OM
noncomputable def tys : List (Option Ty) := [none, none, some (.int .i64), some (.int .i64), some .bool, some (.int .u8), some (.int .u8), some (.pair (.int .i64) (.pair (.int .i64) (.pair .bool (.pair (.int .u8) .unit)))), some (.pair (.int .i64) (.pair (.int .i64) (.pair .bool (.pair (.int .u8) .unit)))), some .str, some .str, some .str, some (.int .u64), some (.pair .str (.pair (.int .u64) .unit)), some (.pair .str (.pair (.int .u64) .unit)), none, none, none, none, none, none, some (.int .i32), some (.sl (.int .i64)), some tConfig, some tConfig, some (.sl tEra), some tRegister, some tRegister, none, none, some (.sl tEra), some tRegister, some tRegister, none, none, some tConfig, none, none, none, none, none, none, none, some (.sl (.int .u8)), none, some (.sl tWord), some tWriter, some tWriter, none, none, none, none, some tWord, some tWord, none, none, none, none, none, none, none, none, none, none, none, none, some tEra, some tEra, none, none, none, none, none, none, none, none, none, none, none, none, none, none, none, none, none, none, none, none, none, none, none, none, none, none, none, none, none, none, none, none, none, none, none, none, some tEra, none, none, some tl1Cur, some tl1Cur, none, none, none, none, none, some (.sl .str), none, some (.int .u64), none, none, some (.sl .bool), none, none, none, none, none, none, none, some (.int .u32), some (.int .u8), some (.int .u8), none, none, some (.int .i32), some (.int .i32), none, none, none]
theorem tysOk : okTys Try.prog tys 0 tys = true := by kernel_rfl
theorem mixed : Try.prog.follows .mixedOrders = true := by kernel_rfl
noncomputable def b20 : Code := Try.f20.body.getD .skip
theorem e20 : OM.Entry Try.prog 20 := ⟨_, Try.func20, by kernel_rfl, by kernel_rfl⟩
@[reducible] noncomputable def laws_big.g : Sig := ⟨[.fz (.sl (.int .u8))], [.v .bool .z], []⟩
@[reducible] noncomputable def laws_big.fk : Nat → denI laws_big.g.pms → Option (denR (outTys laws_big.g.rts laws_big.g.pms)) := fun k x => laws_big.f x.1
@[reducible] noncomputable def laws_big.sm (k : Nat) : Sm := ⟨20, laws_big.g.pms, laws_big.g.rts, laws_big.fk k⟩
noncomputable def laws_big.E (k : Nat) : Env := ⟨tys, [], [], [], []⟩
noncomputable def laws_big.pts : List (Pt (denR (outTys laws_big.g.rts laws_big.g.pms))) := []
theorem laws_big.hf (k : Nat) (a0 : (List Int)) : (laws_big.f a0 : Option (denR (outTys laws_big.g.rts laws_big.g.pms))) = evC (laws_big.E k) (fun κ s => lhOf k κ s laws_big.pts) b20 (OM.start laws_big.g.pms 0 (a0, ())) (OM.fin laws_big.g Try.f20.results.toList) := by kernel_rfl
theorem laws_big.ok (k : Nat) : SmOk Try.prog (laws_big.sm k) :=
  sm_ok mixed (E := laws_big.E) (pts := laws_big.pts) (fun k => ⟨⟨tysOk, by kernel_rfl⟩, forall_nil⟩) (fun _ => rfl) (fun _ => rfl)
    ⟨Try.func20, by kernel_rfl, by kernel_rfl, by kernel_rfl, by kernel_rfl, by kernel_rfl, by kernel_rfl⟩ (forall_nil) (fun k x => laws_big.hf k x.1) k
noncomputable def b59 : Code := Try.f59.body.getD .skip
theorem e59 : OM.Entry Try.prog 59 := ⟨_, Try.func59, by kernel_rfl, by kernel_rfl⟩
@[reducible] noncomputable def spec_l1New.g : Sig := ⟨[.fz (.sl (.int .u8))], [.p tl1Cur .z], []⟩
@[reducible] noncomputable def spec_l1New.fk : Nat → denI spec_l1New.g.pms → Option (denR (outTys spec_l1New.g.rts spec_l1New.g.pms)) := fun k x => spec_l1New.f k x.1
@[reducible] noncomputable def spec_l1New.sm (k : Nat) : Sm := ⟨59, spec_l1New.g.pms, spec_l1New.g.rts, spec_l1New.fk k⟩
noncomputable def spec_l1New.E (k : Nat) : Env := ⟨tys, [], [28, 29], [], []⟩
@[reducible] noncomputable def spec_l1New.s7 : List Slot := [.v 0 (.sl (.int .u8)) .z [] 0, .v 12 (.int .i64) .z [] 0, .v 16 (.int .i64) .z [] 0]
noncomputable def spec_l1New.pts : List (Pt (denR (outTys spec_l1New.g.rts spec_l1New.g.pms))) := [⟨7, spec_l1New.s7, fun k x => spec_l1New.p7 k x.1 x.2.1 x.2.2.1⟩]
theorem spec_l1New.h7 (k : Nat) (x0 : (List Int)) (x1 : Int) (x2 : Int) : (spec_l1New.p7 (k + 1) x0 x1 x2 : Option (denR (outTys spec_l1New.g.rts spec_l1New.g.pms))) = evAt (spec_l1New.E k) (fun κ s => lhOf k κ s spec_l1New.pts) 7 b59 (unproj spec_l1New.s7 (x0, x1, x2, ())) (OM.fin spec_l1New.g Try.f59.results.toList) := by kernel_rfl
theorem spec_l1New.hf (k : Nat) (a0 : (List Int)) : (spec_l1New.f k a0 : Option (denR (outTys spec_l1New.g.rts spec_l1New.g.pms))) = evC (spec_l1New.E k) (fun κ s => lhOf k κ s spec_l1New.pts) b59 (OM.start spec_l1New.g.pms 0 (a0, ())) (OM.fin spec_l1New.g Try.f59.results.toList) := by kernel_rfl
theorem spec_l1New.ok (k : Nat) : SmOk Try.prog (spec_l1New.sm k) :=
  sm_ok mixed (E := spec_l1New.E) (pts := spec_l1New.pts) (fun k => ⟨⟨tysOk, by kernel_rfl⟩, forall_nil⟩) (fun _ => rfl) (fun _ => rfl)
    ⟨Try.func59, by kernel_rfl, by kernel_rfl, by kernel_rfl, by kernel_rfl, by kernel_rfl, by kernel_rfl⟩ (forall_cons (fun x => ⟨rfl, fun k => spec_l1New.h7 k x.1 x.2.1 x.2.2.1⟩) (forall_nil)) (fun k x => spec_l1New.hf k x.1) k
noncomputable def b92 : Code := Try.f92.body.getD .skip
theorem e92 : OM.Entry Try.prog 92 := ⟨_, Try.func92, by kernel_rfl, by kernel_rfl⟩
@[reducible] noncomputable def spec_l1Byte.g : Sig := ⟨[.ptr tl1Cur .z .z], [.v (.int .i64) .z], []⟩
@[reducible] noncomputable def spec_l1Byte.fk : Nat → denI spec_l1Byte.g.pms → Option (denR (outTys spec_l1Byte.g.rts spec_l1Byte.g.pms)) := fun k x => spec_l1Byte.f x.1
@[reducible] noncomputable def spec_l1Byte.sm (k : Nat) : Sm := ⟨92, spec_l1Byte.g.pms, spec_l1Byte.g.rts, spec_l1Byte.fk k⟩
noncomputable def spec_l1Byte.E (k : Nat) : Env := ⟨tys, [], [], [], []⟩
noncomputable def spec_l1Byte.pts : List (Pt (denR (outTys spec_l1Byte.g.rts spec_l1Byte.g.pms))) := []
theorem spec_l1Byte.hf (k : Nat) (a0 : l1Cur) : (spec_l1Byte.f a0 : Option (denR (outTys spec_l1Byte.g.rts spec_l1Byte.g.pms))) = evC (spec_l1Byte.E k) (fun κ s => lhOf k κ s spec_l1Byte.pts) b92 (OM.start spec_l1Byte.g.pms 0 (a0, ())) (OM.fin spec_l1Byte.g Try.f92.results.toList) := by kernel_rfl
theorem spec_l1Byte.ok (k : Nat) : SmOk Try.prog (spec_l1Byte.sm k) :=
  sm_ok mixed (E := spec_l1Byte.E) (pts := spec_l1Byte.pts) (fun k => ⟨⟨tysOk, by kernel_rfl⟩, forall_nil⟩) (fun _ => rfl) (fun _ => rfl)
    ⟨Try.func92, by kernel_rfl, by kernel_rfl, by kernel_rfl, by kernel_rfl, by kernel_rfl, by kernel_rfl⟩ (forall_nil) (fun k x => spec_l1Byte.hf k x.1) k
noncomputable def b62 : Code := Try.f62.body.getD .skip
theorem e62 : OM.Entry Try.prog 62 := ⟨_, Try.func62, by kernel_rfl, by kernel_rfl⟩
@[reducible] noncomputable def spec_l1Below.g : Sig := ⟨[.ptr tl1Cur .z .z, .fz (.int .i64)], [.v (.int .i64) .z], []⟩
@[reducible] noncomputable def spec_l1Below.fk : Nat → denI spec_l1Below.g.pms → Option (denR (outTys spec_l1Below.g.rts spec_l1Below.g.pms)) := fun k x => spec_l1Below.f x.1 x.2.1
@[reducible] noncomputable def spec_l1Below.sm (k : Nat) : Sm := ⟨62, spec_l1Below.g.pms, spec_l1Below.g.rts, spec_l1Below.fk k⟩
noncomputable def spec_l1Below.E (k : Nat) : Env := ⟨tys, [spec_l1Byte.sm k], [], [], []⟩
noncomputable def spec_l1Below.pts : List (Pt (denR (outTys spec_l1Below.g.rts spec_l1Below.g.pms))) := []
theorem spec_l1Below.hf (k : Nat) (a0 : l1Cur) (a1 : Int) : (spec_l1Below.f a0 a1 : Option (denR (outTys spec_l1Below.g.rts spec_l1Below.g.pms))) = evC (spec_l1Below.E k) (fun κ s => lhOf k κ s spec_l1Below.pts) b62 (OM.start spec_l1Below.g.pms 0 (a0, a1, ())) (OM.fin spec_l1Below.g Try.f62.results.toList) := by kernel_rfl
theorem spec_l1Below.ok (k : Nat) : SmOk Try.prog (spec_l1Below.sm k) :=
  sm_ok mixed (E := spec_l1Below.E) (pts := spec_l1Below.pts) (fun k => ⟨⟨tysOk, by kernel_rfl⟩, forall_cons ⟨spec_l1Byte.ok k, e92⟩ (forall_nil)⟩) (fun _ => rfl) (fun _ => rfl)
    ⟨Try.func62, by kernel_rfl, by kernel_rfl, by kernel_rfl, by kernel_rfl, by kernel_rfl, by kernel_rfl⟩ (forall_nil) (fun k x => spec_l1Below.hf k x.1 x.2.1) k
noncomputable def b78 : Code := Try.f78.body.getD .skip
theorem e78 : OM.Entry Try.prog 78 := ⟨_, Try.func78, by kernel_rfl, by kernel_rfl⟩
@[reducible] noncomputable def spec_l1Once.g : Sig := ⟨[.ptr tl1Cur .z .z, .fz (.int .i64)], [.v .bool .z], []⟩
@[reducible] noncomputable def spec_l1Once.fk : Nat → denI spec_l1Once.g.pms → Option (denR (outTys spec_l1Once.g.rts spec_l1Once.g.pms)) := fun k x => spec_l1Once.f x.1 x.2.1
@[reducible] noncomputable def spec_l1Once.sm (k : Nat) : Sm := ⟨78, spec_l1Once.g.pms, spec_l1Once.g.rts, spec_l1Once.fk k⟩
noncomputable def spec_l1Once.E (k : Nat) : Env := ⟨tys, [spec_l1Below.sm k], [], [], []⟩
noncomputable def spec_l1Once.pts : List (Pt (denR (outTys spec_l1Once.g.rts spec_l1Once.g.pms))) := []
theorem spec_l1Once.hf (k : Nat) (a0 : l1Cur) (a1 : Int) : (spec_l1Once.f a0 a1 : Option (denR (outTys spec_l1Once.g.rts spec_l1Once.g.pms))) = evC (spec_l1Once.E k) (fun κ s => lhOf k κ s spec_l1Once.pts) b78 (OM.start spec_l1Once.g.pms 0 (a0, a1, ())) (OM.fin spec_l1Once.g Try.f78.results.toList) := by kernel_rfl
theorem spec_l1Once.ok (k : Nat) : SmOk Try.prog (spec_l1Once.sm k) :=
  sm_ok mixed (E := spec_l1Once.E) (pts := spec_l1Once.pts) (fun k => ⟨⟨tysOk, by kernel_rfl⟩, forall_cons ⟨spec_l1Below.ok k, e62⟩ (forall_nil)⟩) (fun _ => rfl) (fun _ => rfl)
    ⟨Try.func78, by kernel_rfl, by kernel_rfl, by kernel_rfl, by kernel_rfl, by kernel_rfl, by kernel_rfl⟩ (forall_nil) (fun k x => spec_l1Once.hf k x.1 x.2.1) k
noncomputable def b90 : Code := Try.f90.body.getD .skip
theorem e90 : OM.Entry Try.prog 90 := ⟨_, Try.func90, by kernel_rfl, by kernel_rfl⟩
@[reducible] noncomputable def spec_l4DrawRight.g : Sig := ⟨[.ptr tl1Cur .z .z], [.v tConfig (.two (.own .z) .z)], []⟩
@[reducible] noncomputable def spec_l4DrawRight.fk : Nat → denI spec_l4DrawRight.g.pms → Option (denR (outTys spec_l4DrawRight.g.rts spec_l4DrawRight.g.pms)) := fun k x => spec_l4DrawRight.f k x.1
@[reducible] noncomputable def spec_l4DrawRight.sm (k : Nat) : Sm := ⟨90, spec_l4DrawRight.g.pms, spec_l4DrawRight.g.rts, spec_l4DrawRight.fk k⟩
noncomputable def spec_l4DrawRight.E (k : Nat) : Env := ⟨tys, [spec_l1Below.sm k, spec_l1Once.sm k], [], [], []⟩
@[reducible] noncomputable def spec_l4DrawRight.s9 : List Slot := [.r 0 36001 [] tl1Cur, .r 8 9 [] tConfig, .r 12 13 [] tConfig, .v 16 (.int .i64) .z [] 0, .v 20 (.int .i64) .z [] 0, .v 9 tConfig (.two (.own .a) .z) [] 0, .v 13 tConfig (.two (.own .z) .z) [] 0, .v 36001 tl1Cur .z [] 0]
noncomputable def spec_l4DrawRight.pts : List (Pt (denR (outTys spec_l4DrawRight.g.rts spec_l4DrawRight.g.pms))) := [⟨9, spec_l4DrawRight.s9, fun k x => spec_l4DrawRight.p9 k x.1 x.2.1 x.2.2.1 x.2.2.2.1 x.2.2.2.2.1⟩]
theorem spec_l4DrawRight.h9 (k : Nat) (x0 : Int) (x1 : Int) (x2 : Config) (x3 : Config) (x4 : l1Cur) : (spec_l4DrawRight.p9 (k + 1) x0 x1 x2 x3 x4 : Option (denR (outTys spec_l4DrawRight.g.rts spec_l4DrawRight.g.pms))) = evAt (spec_l4DrawRight.E k) (fun κ s => lhOf k κ s spec_l4DrawRight.pts) 9 b90 (unproj spec_l4DrawRight.s9 (x0, x1, x2, x3, x4, ())) (OM.fin spec_l4DrawRight.g Try.f90.results.toList) := by kernel_rfl
theorem spec_l4DrawRight.hf (k : Nat) (a0 : l1Cur) : (spec_l4DrawRight.f k a0 : Option (denR (outTys spec_l4DrawRight.g.rts spec_l4DrawRight.g.pms))) = evC (spec_l4DrawRight.E k) (fun κ s => lhOf k κ s spec_l4DrawRight.pts) b90 (OM.start spec_l4DrawRight.g.pms 0 (a0, ())) (OM.fin spec_l4DrawRight.g Try.f90.results.toList) := by kernel_rfl
theorem spec_l4DrawRight.ok (k : Nat) : SmOk Try.prog (spec_l4DrawRight.sm k) :=
  sm_ok mixed (E := spec_l4DrawRight.E) (pts := spec_l4DrawRight.pts) (fun k => ⟨⟨tysOk, by kernel_rfl⟩, forall_cons ⟨spec_l1Below.ok k, e62⟩ (forall_cons ⟨spec_l1Once.ok k, e78⟩ (forall_nil))⟩) (fun _ => rfl) (fun _ => rfl)
    ⟨Try.func90, by kernel_rfl, by kernel_rfl, by kernel_rfl, by kernel_rfl, by kernel_rfl, by kernel_rfl⟩ (forall_cons (fun x => ⟨rfl, fun k => spec_l4DrawRight.h9 k x.1 x.2.1 x.2.2.1 x.2.2.2.1 x.2.2.2.2.1⟩) (forall_nil)) (fun k x => spec_l4DrawRight.hf k x.1) k
noncomputable def b79 : Code := Try.f79.body.getD .skip
theorem e79 : OM.Entry Try.prog 79 := ⟨_, Try.func79, by kernel_rfl, by kernel_rfl⟩
@[reducible] noncomputable def spec_l1PickInt.g : Sig := ⟨[.ptr tl1Cur .z .z, .fz (.sl (.int .i64))], [.v (.int .i64) .z], []⟩
@[reducible] noncomputable def spec_l1PickInt.fk : Nat → denI spec_l1PickInt.g.pms → Option (denR (outTys spec_l1PickInt.g.rts spec_l1PickInt.g.pms)) := fun k x => spec_l1PickInt.f x.1 x.2.1
@[reducible] noncomputable def spec_l1PickInt.sm (k : Nat) : Sm := ⟨79, spec_l1PickInt.g.pms, spec_l1PickInt.g.rts, spec_l1PickInt.fk k⟩
noncomputable def spec_l1PickInt.E (k : Nat) : Env := ⟨tys, [spec_l1Below.sm k], [], [], []⟩
noncomputable def spec_l1PickInt.pts : List (Pt (denR (outTys spec_l1PickInt.g.rts spec_l1PickInt.g.pms))) := []
theorem spec_l1PickInt.hf (k : Nat) (a0 : l1Cur) (a1 : (List Int)) : (spec_l1PickInt.f a0 a1 : Option (denR (outTys spec_l1PickInt.g.rts spec_l1PickInt.g.pms))) = evC (spec_l1PickInt.E k) (fun κ s => lhOf k κ s spec_l1PickInt.pts) b79 (OM.start spec_l1PickInt.g.pms 0 (a0, a1, ())) (OM.fin spec_l1PickInt.g Try.f79.results.toList) := by kernel_rfl
theorem spec_l1PickInt.ok (k : Nat) : SmOk Try.prog (spec_l1PickInt.sm k) :=
  sm_ok mixed (E := spec_l1PickInt.E) (pts := spec_l1PickInt.pts) (fun k => ⟨⟨tysOk, by kernel_rfl⟩, forall_cons ⟨spec_l1Below.ok k, e62⟩ (forall_nil)⟩) (fun _ => rfl) (fun _ => rfl)
    ⟨Try.func79, by kernel_rfl, by kernel_rfl, by kernel_rfl, by kernel_rfl, by kernel_rfl, by kernel_rfl⟩ (forall_nil) (fun k x => spec_l1PickInt.hf k x.1 x.2.1) k
noncomputable def b60 : Code := Try.f60.body.getD .skip
theorem e60 : OM.Entry Try.prog 60 := ⟨_, Try.func60, by kernel_rfl, by kernel_rfl⟩
@[reducible] noncomputable def spec_l4Draw.g : Sig := ⟨[.ptr tl1Cur .z .z], [.v tConfig (.two (.own .z) .z)], []⟩
@[reducible] noncomputable def spec_l4Draw.fk : Nat → denI spec_l4Draw.g.pms → Option (denR (outTys spec_l4Draw.g.rts spec_l4Draw.g.pms)) := fun k x => spec_l4Draw.f k x.1
@[reducible] noncomputable def spec_l4Draw.sm (k : Nat) : Sm := ⟨60, spec_l4Draw.g.pms, spec_l4Draw.g.rts, spec_l4Draw.fk k⟩
noncomputable def spec_l4Draw.E (k : Nat) : Env := ⟨tys, [spec_l1Below.sm k, spec_l4DrawRight.sm k, spec_l1PickInt.sm k], [], [], []⟩
noncomputable def spec_l4Draw.pts : List (Pt (denR (outTys spec_l4Draw.g.rts spec_l4Draw.g.pms))) := []
theorem spec_l4Draw.hf (k : Nat) (a0 : l1Cur) : (spec_l4Draw.f k a0 : Option (denR (outTys spec_l4Draw.g.rts spec_l4Draw.g.pms))) = evC (spec_l4Draw.E k) (fun κ s => lhOf k κ s spec_l4Draw.pts) b60 (OM.start spec_l4Draw.g.pms 0 (a0, ())) (OM.fin spec_l4Draw.g Try.f60.results.toList) := by kernel_rfl
theorem spec_l4Draw.ok (k : Nat) : SmOk Try.prog (spec_l4Draw.sm k) :=
  sm_ok mixed (E := spec_l4Draw.E) (pts := spec_l4Draw.pts) (fun k => ⟨⟨tysOk, by kernel_rfl⟩, forall_cons ⟨spec_l1Below.ok k, e62⟩ (forall_cons ⟨spec_l4DrawRight.ok k, e90⟩ (forall_cons ⟨spec_l1PickInt.ok k, e79⟩ (forall_nil)))⟩) (fun _ => rfl) (fun _ => rfl)
    ⟨Try.func60, by kernel_rfl, by kernel_rfl, by kernel_rfl, by kernel_rfl, by kernel_rfl, by kernel_rfl⟩ (forall_nil) (fun k x => spec_l4Draw.hf k x.1) k
noncomputable def b47 : Code := Try.f47.body.getD .skip
theorem e47 : OM.Entry Try.prog 47 := ⟨_, Try.func47, by kernel_rfl, by kernel_rfl⟩
@[reducible] noncomputable def spec_l1Max.g : Sig := ⟨[.fz (.int .i64), .fz (.int .i64)], [.v (.int .i64) .z], []⟩
@[reducible] noncomputable def spec_l1Max.fk : Nat → denI spec_l1Max.g.pms → Option (denR (outTys spec_l1Max.g.rts spec_l1Max.g.pms)) := fun k x => spec_l1Max.f x.1 x.2.1
@[reducible] noncomputable def spec_l1Max.sm (k : Nat) : Sm := ⟨47, spec_l1Max.g.pms, spec_l1Max.g.rts, spec_l1Max.fk k⟩
noncomputable def spec_l1Max.E (k : Nat) : Env := ⟨tys, [], [], [], []⟩
noncomputable def spec_l1Max.pts : List (Pt (denR (outTys spec_l1Max.g.rts spec_l1Max.g.pms))) := []
theorem spec_l1Max.hf (k : Nat) (a0 : Int) (a1 : Int) : (spec_l1Max.f a0 a1 : Option (denR (outTys spec_l1Max.g.rts spec_l1Max.g.pms))) = evC (spec_l1Max.E k) (fun κ s => lhOf k κ s spec_l1Max.pts) b47 (OM.start spec_l1Max.g.pms 0 (a0, a1, ())) (OM.fin spec_l1Max.g Try.f47.results.toList) := by kernel_rfl
theorem spec_l1Max.ok (k : Nat) : SmOk Try.prog (spec_l1Max.sm k) :=
  sm_ok mixed (E := spec_l1Max.E) (pts := spec_l1Max.pts) (fun k => ⟨⟨tysOk, by kernel_rfl⟩, forall_nil⟩) (fun _ => rfl) (fun _ => rfl)
    ⟨Try.func47, by kernel_rfl, by kernel_rfl, by kernel_rfl, by kernel_rfl, by kernel_rfl, by kernel_rfl⟩ (forall_nil) (fun k x => spec_l1Max.hf k x.1 x.2.1) k
noncomputable def b96 : Code := Try.f96.body.getD .skip
theorem e96 : OM.Entry Try.prog 96 := ⟨_, Try.func96, by kernel_rfl, by kernel_rfl⟩
@[reducible] noncomputable def spec_l4Has.g : Sig := ⟨[.fz (.sl (.int .i64)), .fz (.int .i64)], [.v .bool .z], []⟩
@[reducible] noncomputable def spec_l4Has.fk : Nat → denI spec_l4Has.g.pms → Option (denR (outTys spec_l4Has.g.rts spec_l4Has.g.pms)) := fun k x => spec_l4Has.f k x.1 x.2.1
@[reducible] noncomputable def spec_l4Has.sm (k : Nat) : Sm := ⟨96, spec_l4Has.g.pms, spec_l4Has.g.rts, spec_l4Has.fk k⟩
noncomputable def spec_l4Has.E (k : Nat) : Env := ⟨tys, [], [], [], []⟩
@[reducible] noncomputable def spec_l4Has.s5 : List Slot := [.v 0 (.sl (.int .i64)) .z [] 0, .v 4 (.int .i64) .z [] 0, .v 20 (.int .i64) .z [] 0]
noncomputable def spec_l4Has.pts : List (Pt (denR (outTys spec_l4Has.g.rts spec_l4Has.g.pms))) := [⟨5, spec_l4Has.s5, fun k x => spec_l4Has.p5 k x.1 x.2.1 x.2.2.1⟩]
theorem spec_l4Has.h5 (k : Nat) (x0 : (List Int)) (x1 : Int) (x2 : Int) : (spec_l4Has.p5 (k + 1) x0 x1 x2 : Option (denR (outTys spec_l4Has.g.rts spec_l4Has.g.pms))) = evAt (spec_l4Has.E k) (fun κ s => lhOf k κ s spec_l4Has.pts) 5 b96 (unproj spec_l4Has.s5 (x0, x1, x2, ())) (OM.fin spec_l4Has.g Try.f96.results.toList) := by kernel_rfl
theorem spec_l4Has.hf (k : Nat) (a0 : (List Int)) (a1 : Int) : (spec_l4Has.f k a0 a1 : Option (denR (outTys spec_l4Has.g.rts spec_l4Has.g.pms))) = evC (spec_l4Has.E k) (fun κ s => lhOf k κ s spec_l4Has.pts) b96 (OM.start spec_l4Has.g.pms 0 (a0, a1, ())) (OM.fin spec_l4Has.g Try.f96.results.toList) := by kernel_rfl
theorem spec_l4Has.ok (k : Nat) : SmOk Try.prog (spec_l4Has.sm k) :=
  sm_ok mixed (E := spec_l4Has.E) (pts := spec_l4Has.pts) (fun k => ⟨⟨tysOk, by kernel_rfl⟩, forall_nil⟩) (fun _ => rfl) (fun _ => rfl)
    ⟨Try.func96, by kernel_rfl, by kernel_rfl, by kernel_rfl, by kernel_rfl, by kernel_rfl, by kernel_rfl⟩ (forall_cons (fun x => ⟨rfl, fun k => spec_l4Has.h5 k x.1 x.2.1 x.2.2.1⟩) (forall_nil)) (fun k x => spec_l4Has.hf k x.1 x.2.1) k
noncomputable def b102 : Code := Try.f102.body.getD .skip
theorem e102 : OM.Entry Try.prog 102 := ⟨_, Try.func102, by kernel_rfl, by kernel_rfl⟩
@[reducible] noncomputable def spec_l4Put.g : Sig := ⟨[.fz (.sl (.int .i64)), .fz (.int .i64)], [.v (.sl (.int .i64)) (.own .z)], []⟩
@[reducible] noncomputable def spec_l4Put.fk : Nat → denI spec_l4Put.g.pms → Option (denR (outTys spec_l4Put.g.rts spec_l4Put.g.pms)) := fun k x => spec_l4Put.f k x.1 x.2.1
@[reducible] noncomputable def spec_l4Put.sm (k : Nat) : Sm := ⟨102, spec_l4Put.g.pms, spec_l4Put.g.rts, spec_l4Put.fk k⟩
noncomputable def spec_l4Put.E (k : Nat) : Env := ⟨tys, [spec_l4Has.sm k], [36, 42], [], []⟩
@[reducible] noncomputable def spec_l4Put.s9 : List Slot := [.v 0 (.sl (.int .i64)) .z [] 0, .v 4 (.int .i64) .z [] 0, .v 20 (.sl (.int .i64)) (.own .z) [] 0, .v 24 .bool .z [] 0, .v 28 (.int .i64) .z [] 0]
noncomputable def spec_l4Put.pts : List (Pt (denR (outTys spec_l4Put.g.rts spec_l4Put.g.pms))) := [⟨9, spec_l4Put.s9, fun k x => spec_l4Put.p9 k x.1 x.2.1 x.2.2.1 x.2.2.2.1 x.2.2.2.2.1⟩]
theorem spec_l4Put.h9 (k : Nat) (x0 : (List Int)) (x1 : Int) (x2 : (List Int)) (x3 : Bool) (x4 : Int) : (spec_l4Put.p9 (k + 1) x0 x1 x2 x3 x4 : Option (denR (outTys spec_l4Put.g.rts spec_l4Put.g.pms))) = evAt (spec_l4Put.E k) (fun κ s => lhOf k κ s spec_l4Put.pts) 9 b102 (unproj spec_l4Put.s9 (x0, x1, x2, x3, x4, ())) (OM.fin spec_l4Put.g Try.f102.results.toList) := by kernel_rfl
theorem spec_l4Put.hf (k : Nat) (a0 : (List Int)) (a1 : Int) : (spec_l4Put.f k a0 a1 : Option (denR (outTys spec_l4Put.g.rts spec_l4Put.g.pms))) = evC (spec_l4Put.E k) (fun κ s => lhOf k κ s spec_l4Put.pts) b102 (OM.start spec_l4Put.g.pms 0 (a0, a1, ())) (OM.fin spec_l4Put.g Try.f102.results.toList) := by kernel_rfl
theorem spec_l4Put.ok (k : Nat) : SmOk Try.prog (spec_l4Put.sm k) :=
  sm_ok mixed (E := spec_l4Put.E) (pts := spec_l4Put.pts) (fun k => ⟨⟨tysOk, by kernel_rfl⟩, forall_cons ⟨spec_l4Has.ok k, e96⟩ (forall_nil)⟩) (fun _ => rfl) (fun _ => rfl)
    ⟨Try.func102, by kernel_rfl, by kernel_rfl, by kernel_rfl, by kernel_rfl, by kernel_rfl, by kernel_rfl⟩ (forall_cons (fun x => ⟨rfl, fun k => spec_l4Put.h9 k x.1 x.2.1 x.2.2.1 x.2.2.2.1 x.2.2.2.2.1⟩) (forall_nil)) (fun k x => spec_l4Put.hf k x.1 x.2.1) k
noncomputable def b82 : Code := Try.f82.body.getD .skip
theorem e82 : OM.Entry Try.prog 82 := ⟨_, Try.func82, by kernel_rfl, by kernel_rfl⟩
@[reducible] noncomputable def spec_l4DrawNodes.g : Sig := ⟨[.ptr tl1Cur .z .z, .fz tConfig], [.v (.sl (.int .i64)) (.own .z)], []⟩
@[reducible] noncomputable def spec_l4DrawNodes.fk : Nat → denI spec_l4DrawNodes.g.pms → Option (denR (outTys spec_l4DrawNodes.g.rts spec_l4DrawNodes.g.pms)) := fun k x => spec_l4DrawNodes.f k x.1 x.2.1
@[reducible] noncomputable def spec_l4DrawNodes.sm (k : Nat) : Sm := ⟨82, spec_l4DrawNodes.g.pms, spec_l4DrawNodes.g.rts, spec_l4DrawNodes.fk k⟩
noncomputable def spec_l4DrawNodes.E (k : Nat) : Env := ⟨tys, [spec_l1Below.sm k, spec_l1Once.sm k, spec_l1PickInt.sm k, spec_l1Max.sm k, spec_l4Put.sm k], [], [], []⟩
@[reducible] noncomputable def spec_l4DrawNodes.s9 : List Slot := [.r 0 36001 [] tl1Cur, .r 12 13 [] tConfig, .v 20 (.sl (.int .i64)) (.own .z) [] 0, .v 24 (.int .i64) .z [] 0, .v 28 (.int .i64) .z [] 0, .v 13 tConfig .z [] 0, .v 36001 tl1Cur .z [] 0]
noncomputable def spec_l4DrawNodes.pts : List (Pt (denR (outTys spec_l4DrawNodes.g.rts spec_l4DrawNodes.g.pms))) := [⟨9, spec_l4DrawNodes.s9, fun k x => spec_l4DrawNodes.p9 k x.1 x.2.1 x.2.2.1 x.2.2.2.1 x.2.2.2.2.1⟩]
theorem spec_l4DrawNodes.h9 (k : Nat) (x0 : (List Int)) (x1 : Int) (x2 : Int) (x3 : Config) (x4 : l1Cur) : (spec_l4DrawNodes.p9 (k + 1) x0 x1 x2 x3 x4 : Option (denR (outTys spec_l4DrawNodes.g.rts spec_l4DrawNodes.g.pms))) = evAt (spec_l4DrawNodes.E k) (fun κ s => lhOf k κ s spec_l4DrawNodes.pts) 9 b82 (unproj spec_l4DrawNodes.s9 (x0, x1, x2, x3, x4, ())) (OM.fin spec_l4DrawNodes.g Try.f82.results.toList) := by kernel_rfl
theorem spec_l4DrawNodes.hf (k : Nat) (a0 : l1Cur) (a1 : Config) : (spec_l4DrawNodes.f k a0 a1 : Option (denR (outTys spec_l4DrawNodes.g.rts spec_l4DrawNodes.g.pms))) = evC (spec_l4DrawNodes.E k) (fun κ s => lhOf k κ s spec_l4DrawNodes.pts) b82 (OM.start spec_l4DrawNodes.g.pms 0 (a0, a1, ())) (OM.fin spec_l4DrawNodes.g Try.f82.results.toList) := by kernel_rfl
theorem spec_l4DrawNodes.ok (k : Nat) : SmOk Try.prog (spec_l4DrawNodes.sm k) :=
  sm_ok mixed (E := spec_l4DrawNodes.E) (pts := spec_l4DrawNodes.pts) (fun k => ⟨⟨tysOk, by kernel_rfl⟩, forall_cons ⟨spec_l1Below.ok k, e62⟩ (forall_cons ⟨spec_l1Once.ok k, e78⟩ (forall_cons ⟨spec_l1PickInt.ok k, e79⟩ (forall_cons ⟨spec_l1Max.ok k, e47⟩ (forall_cons ⟨spec_l4Put.ok k, e102⟩ (forall_nil)))))⟩) (fun _ => rfl) (fun _ => rfl)
    ⟨Try.func82, by kernel_rfl, by kernel_rfl, by kernel_rfl, by kernel_rfl, by kernel_rfl, by kernel_rfl⟩ (forall_cons (fun x => ⟨rfl, fun k => spec_l4DrawNodes.h9 k x.1 x.2.1 x.2.2.1 x.2.2.2.1 x.2.2.2.2.1⟩) (forall_nil)) (fun k x => spec_l4DrawNodes.hf k x.1 x.2.1) k
noncomputable def b77 : Code := Try.f77.body.getD .skip
theorem e77 : OM.Entry Try.prog 77 := ⟨_, Try.func77, by kernel_rfl, by kernel_rfl⟩
@[reducible] noncomputable def spec_l1In.g : Sig := ⟨[.fz (.int .i64), .fz (.int .i64), .fz (.int .i64)], [.v .bool .z], []⟩
@[reducible] noncomputable def spec_l1In.fk : Nat → denI spec_l1In.g.pms → Option (denR (outTys spec_l1In.g.rts spec_l1In.g.pms)) := fun k x => spec_l1In.f x.1 x.2.1 x.2.2.1
@[reducible] noncomputable def spec_l1In.sm (k : Nat) : Sm := ⟨77, spec_l1In.g.pms, spec_l1In.g.rts, spec_l1In.fk k⟩
noncomputable def spec_l1In.E (k : Nat) : Env := ⟨tys, [], [], [], []⟩
noncomputable def spec_l1In.pts : List (Pt (denR (outTys spec_l1In.g.rts spec_l1In.g.pms))) := []
theorem spec_l1In.hf (k : Nat) (a0 : Int) (a1 : Int) (a2 : Int) : (spec_l1In.f a0 a1 a2 : Option (denR (outTys spec_l1In.g.rts spec_l1In.g.pms))) = evC (spec_l1In.E k) (fun κ s => lhOf k κ s spec_l1In.pts) b77 (OM.start spec_l1In.g.pms 0 (a0, a1, a2, ())) (OM.fin spec_l1In.g Try.f77.results.toList) := by kernel_rfl
theorem spec_l1In.ok (k : Nat) : SmOk Try.prog (spec_l1In.sm k) :=
  sm_ok mixed (E := spec_l1In.E) (pts := spec_l1In.pts) (fun k => ⟨⟨tysOk, by kernel_rfl⟩, forall_nil⟩) (fun _ => rfl) (fun _ => rfl)
    ⟨Try.func77, by kernel_rfl, by kernel_rfl, by kernel_rfl, by kernel_rfl, by kernel_rfl, by kernel_rfl⟩ (forall_nil) (fun k x => spec_l1In.hf k x.1 x.2.1 x.2.2.1) k
noncomputable def b80 : Code := Try.f80.body.getD .skip
theorem e80 : OM.Entry Try.prog 80 := ⟨_, Try.func80, by kernel_rfl, by kernel_rfl⟩
@[reducible] noncomputable def spec_ConfigOk.g : Sig := ⟨[.fz tConfig], [.v .bool .z], []⟩
@[reducible] noncomputable def spec_ConfigOk.fk : Nat → denI spec_ConfigOk.g.pms → Option (denR (outTys spec_ConfigOk.g.rts spec_ConfigOk.g.pms)) := fun k x => spec_ConfigOk.f k x.1
@[reducible] noncomputable def spec_ConfigOk.sm (k : Nat) : Sm := ⟨80, spec_ConfigOk.g.pms, spec_ConfigOk.g.rts, spec_ConfigOk.fk k⟩
noncomputable def spec_ConfigOk.E (k : Nat) : Env := ⟨tys, [spec_l1In.sm k], [], [], []⟩
@[reducible] noncomputable def spec_ConfigOk.s9 : List Slot := [.r 4 5 [] tConfig, .v 12 (.int .i64) .z [] 0, .v 5 tConfig .z [] 0]
noncomputable def spec_ConfigOk.pts : List (Pt (denR (outTys spec_ConfigOk.g.rts spec_ConfigOk.g.pms))) := [⟨9, spec_ConfigOk.s9, fun k x => spec_ConfigOk.p9 k x.1 x.2.1⟩]
theorem spec_ConfigOk.h9 (k : Nat) (x0 : Int) (x1 : Config) : (spec_ConfigOk.p9 (k + 1) x0 x1 : Option (denR (outTys spec_ConfigOk.g.rts spec_ConfigOk.g.pms))) = evAt (spec_ConfigOk.E k) (fun κ s => lhOf k κ s spec_ConfigOk.pts) 9 b80 (unproj spec_ConfigOk.s9 (x0, x1, ())) (OM.fin spec_ConfigOk.g Try.f80.results.toList) := by kernel_rfl
theorem spec_ConfigOk.hf (k : Nat) (a0 : Config) : (spec_ConfigOk.f k a0 : Option (denR (outTys spec_ConfigOk.g.rts spec_ConfigOk.g.pms))) = evC (spec_ConfigOk.E k) (fun κ s => lhOf k κ s spec_ConfigOk.pts) b80 (OM.start spec_ConfigOk.g.pms 0 (a0, ())) (OM.fin spec_ConfigOk.g Try.f80.results.toList) := by kernel_rfl
theorem spec_ConfigOk.ok (k : Nat) : SmOk Try.prog (spec_ConfigOk.sm k) :=
  sm_ok mixed (E := spec_ConfigOk.E) (pts := spec_ConfigOk.pts) (fun k => ⟨⟨tysOk, by kernel_rfl⟩, forall_cons ⟨spec_l1In.ok k, e77⟩ (forall_nil)⟩) (fun _ => rfl) (fun _ => rfl)
    ⟨Try.func80, by kernel_rfl, by kernel_rfl, by kernel_rfl, by kernel_rfl, by kernel_rfl, by kernel_rfl⟩ (forall_cons (fun x => ⟨rfl, fun k => spec_ConfigOk.h9 k x.1 x.2.1⟩) (forall_nil)) (fun k x => spec_ConfigOk.hf k x.1) k
noncomputable def b108 : Code := Try.f108.body.getD .skip
theorem e108 : OM.Entry Try.prog 108 := ⟨_, Try.func108, by kernel_rfl, by kernel_rfl⟩
@[reducible] noncomputable def spec_l4Asc.g : Sig := ⟨[.fz (.sl (.int .i64)), .fz (.int .i64), .fz (.int .i64)], [.v .bool .z], []⟩
@[reducible] noncomputable def spec_l4Asc.fk : Nat → denI spec_l4Asc.g.pms → Option (denR (outTys spec_l4Asc.g.rts spec_l4Asc.g.pms)) := fun k x => spec_l4Asc.f k x.1 x.2.1 x.2.2.1
@[reducible] noncomputable def spec_l4Asc.sm (k : Nat) : Sm := ⟨108, spec_l4Asc.g.pms, spec_l4Asc.g.rts, spec_l4Asc.fk k⟩
noncomputable def spec_l4Asc.E (k : Nat) : Env := ⟨tys, [spec_l1In.sm k], [], [], []⟩
@[reducible] noncomputable def spec_l4Asc.s5 : List Slot := [.v 0 (.sl (.int .i64)) .z [] 0, .v 4 (.int .i64) .z [] 0, .v 8 (.int .i64) .z [] 0, .v 28 (.int .i64) .z [] 0]
noncomputable def spec_l4Asc.pts : List (Pt (denR (outTys spec_l4Asc.g.rts spec_l4Asc.g.pms))) := [⟨5, spec_l4Asc.s5, fun k x => spec_l4Asc.p5 k x.1 x.2.1 x.2.2.1 x.2.2.2.1⟩]
theorem spec_l4Asc.h5 (k : Nat) (x0 : (List Int)) (x1 : Int) (x2 : Int) (x3 : Int) : (spec_l4Asc.p5 (k + 1) x0 x1 x2 x3 : Option (denR (outTys spec_l4Asc.g.rts spec_l4Asc.g.pms))) = evAt (spec_l4Asc.E k) (fun κ s => lhOf k κ s spec_l4Asc.pts) 5 b108 (unproj spec_l4Asc.s5 (x0, x1, x2, x3, ())) (OM.fin spec_l4Asc.g Try.f108.results.toList) := by kernel_rfl
theorem spec_l4Asc.hf (k : Nat) (a0 : (List Int)) (a1 : Int) (a2 : Int) : (spec_l4Asc.f k a0 a1 a2 : Option (denR (outTys spec_l4Asc.g.rts spec_l4Asc.g.pms))) = evC (spec_l4Asc.E k) (fun κ s => lhOf k κ s spec_l4Asc.pts) b108 (OM.start spec_l4Asc.g.pms 0 (a0, a1, a2, ())) (OM.fin spec_l4Asc.g Try.f108.results.toList) := by kernel_rfl
theorem spec_l4Asc.ok (k : Nat) : SmOk Try.prog (spec_l4Asc.sm k) :=
  sm_ok mixed (E := spec_l4Asc.E) (pts := spec_l4Asc.pts) (fun k => ⟨⟨tysOk, by kernel_rfl⟩, forall_cons ⟨spec_l1In.ok k, e77⟩ (forall_nil)⟩) (fun _ => rfl) (fun _ => rfl)
    ⟨Try.func108, by kernel_rfl, by kernel_rfl, by kernel_rfl, by kernel_rfl, by kernel_rfl, by kernel_rfl⟩ (forall_cons (fun x => ⟨rfl, fun k => spec_l4Asc.h5 k x.1 x.2.1 x.2.2.1 x.2.2.2.1⟩) (forall_nil)) (fun k x => spec_l4Asc.hf k x.1 x.2.1 x.2.2.1) k
noncomputable def b95 : Code := Try.f95.body.getD .skip
theorem e95 : OM.Entry Try.prog 95 := ⟨_, Try.func95, by kernel_rfl, by kernel_rfl⟩
@[reducible] noncomputable def spec_NodesOk.g : Sig := ⟨[.fz tConfig, .fz (.sl (.int .i64))], [.v .bool .z], []⟩
@[reducible] noncomputable def spec_NodesOk.fk : Nat → denI spec_NodesOk.g.pms → Option (denR (outTys spec_NodesOk.g.rts spec_NodesOk.g.pms)) := fun k x => spec_NodesOk.f k x.1 x.2.1
@[reducible] noncomputable def spec_NodesOk.sm (k : Nat) : Sm := ⟨95, spec_NodesOk.g.pms, spec_NodesOk.g.rts, spec_NodesOk.fk k⟩
noncomputable def spec_NodesOk.E (k : Nat) : Env := ⟨tys, [spec_ConfigOk.sm k, spec_l4Asc.sm k], [], [], []⟩
noncomputable def spec_NodesOk.pts : List (Pt (denR (outTys spec_NodesOk.g.rts spec_NodesOk.g.pms))) := []
theorem spec_NodesOk.hf (k : Nat) (a0 : Config) (a1 : (List Int)) : (spec_NodesOk.f k a0 a1 : Option (denR (outTys spec_NodesOk.g.rts spec_NodesOk.g.pms))) = evC (spec_NodesOk.E k) (fun κ s => lhOf k κ s spec_NodesOk.pts) b95 (OM.start spec_NodesOk.g.pms 0 (a0, a1, ())) (OM.fin spec_NodesOk.g Try.f95.results.toList) := by kernel_rfl
theorem spec_NodesOk.ok (k : Nat) : SmOk Try.prog (spec_NodesOk.sm k) :=
  sm_ok mixed (E := spec_NodesOk.E) (pts := spec_NodesOk.pts) (fun k => ⟨⟨tysOk, by kernel_rfl⟩, forall_cons ⟨spec_ConfigOk.ok k, e80⟩ (forall_cons ⟨spec_l4Asc.ok k, e108⟩ (forall_nil))⟩) (fun _ => rfl) (fun _ => rfl)
    ⟨Try.func95, by kernel_rfl, by kernel_rfl, by kernel_rfl, by kernel_rfl, by kernel_rfl, by kernel_rfl⟩ (forall_nil) (fun k x => spec_NodesOk.hf k x.1 x.2.1) k
noncomputable def b101 : Code := Try.f101.body.getD .skip
theorem e101 : OM.Entry Try.prog 101 := ⟨_, Try.func101, by kernel_rfl, by kernel_rfl⟩
@[reducible] noncomputable def spec_l4Span.g : Sig := ⟨[.fz tConfig, .fz (.sl (.int .i64))], [.v (.int .i64) .z], []⟩
@[reducible] noncomputable def spec_l4Span.fk : Nat → denI spec_l4Span.g.pms → Option (denR (outTys spec_l4Span.g.rts spec_l4Span.g.pms)) := fun k x => spec_l4Span.f k x.1 x.2.1
@[reducible] noncomputable def spec_l4Span.sm (k : Nat) : Sm := ⟨101, spec_l4Span.g.pms, spec_l4Span.g.rts, spec_l4Span.fk k⟩
noncomputable def spec_l4Span.E (k : Nat) : Env := ⟨tys, [], [23], [], []⟩
@[reducible] noncomputable def spec_l4Span.s9 : List Slot := [.v 4 (.sl (.int .i64)) .z [] 0, .r 8 9 [] tConfig, .v 20 (.sl .bool) (.own .z) [] 0, .v 24 (.int .i64) .z [] 0, .v 28 (.int .i64) .z [] 0, .v 9 tConfig .z [] 0]
noncomputable def spec_l4Span.pts : List (Pt (denR (outTys spec_l4Span.g.rts spec_l4Span.g.pms))) := [⟨9, spec_l4Span.s9, fun k x => spec_l4Span.p9 k x.1 x.2.1 x.2.2.1 x.2.2.2.1 x.2.2.2.2.1⟩]
theorem spec_l4Span.h9 (k : Nat) (x0 : (List Int)) (x1 : (List Bool)) (x2 : Int) (x3 : Int) (x4 : Config) : (spec_l4Span.p9 (k + 1) x0 x1 x2 x3 x4 : Option (denR (outTys spec_l4Span.g.rts spec_l4Span.g.pms))) = evAt (spec_l4Span.E k) (fun κ s => lhOf k κ s spec_l4Span.pts) 9 b101 (unproj spec_l4Span.s9 (x0, x1, x2, x3, x4, ())) (OM.fin spec_l4Span.g Try.f101.results.toList) := by kernel_rfl
theorem spec_l4Span.hf (k : Nat) (a0 : Config) (a1 : (List Int)) : (spec_l4Span.f k a0 a1 : Option (denR (outTys spec_l4Span.g.rts spec_l4Span.g.pms))) = evC (spec_l4Span.E k) (fun κ s => lhOf k κ s spec_l4Span.pts) b101 (OM.start spec_l4Span.g.pms 0 (a0, a1, ())) (OM.fin spec_l4Span.g Try.f101.results.toList) := by kernel_rfl
theorem spec_l4Span.ok (k : Nat) : SmOk Try.prog (spec_l4Span.sm k) :=
  sm_ok mixed (E := spec_l4Span.E) (pts := spec_l4Span.pts) (fun k => ⟨⟨tysOk, by kernel_rfl⟩, forall_nil⟩) (fun _ => rfl) (fun _ => rfl)
    ⟨Try.func101, by kernel_rfl, by kernel_rfl, by kernel_rfl, by kernel_rfl, by kernel_rfl, by kernel_rfl⟩ (forall_cons (fun x => ⟨rfl, fun k => spec_l4Span.h9 k x.1 x.2.1 x.2.2.1 x.2.2.2.1 x.2.2.2.2.1⟩) (forall_nil)) (fun k x => spec_l4Span.hf k x.1 x.2.1) k
noncomputable def b81 : Code := Try.f81.body.getD .skip
theorem e81 : OM.Entry Try.prog 81 := ⟨_, Try.func81, by kernel_rfl, by kernel_rfl⟩
@[reducible] noncomputable def spec_Holds.g : Sig := ⟨[.fz tConfig, .fz (.sl (.int .i64))], [.v .bool .z], []⟩
@[reducible] noncomputable def spec_Holds.fk : Nat → denI spec_Holds.g.pms → Option (denR (outTys spec_Holds.g.rts spec_Holds.g.pms)) := fun k x => spec_Holds.f k x.1 x.2.1
@[reducible] noncomputable def spec_Holds.sm (k : Nat) : Sm := ⟨81, spec_Holds.g.pms, spec_Holds.g.rts, spec_Holds.fk k⟩
noncomputable def spec_Holds.E (k : Nat) : Env := ⟨tys, [spec_NodesOk.sm k, spec_l4Span.sm k], [], [], []⟩
noncomputable def spec_Holds.pts : List (Pt (denR (outTys spec_Holds.g.rts spec_Holds.g.pms))) := []
theorem spec_Holds.hf (k : Nat) (a0 : Config) (a1 : (List Int)) : (spec_Holds.f k a0 a1 : Option (denR (outTys spec_Holds.g.rts spec_Holds.g.pms))) = evC (spec_Holds.E k) (fun κ s => lhOf k κ s spec_Holds.pts) b81 (OM.start spec_Holds.g.pms 0 (a0, a1, ())) (OM.fin spec_Holds.g Try.f81.results.toList) := by kernel_rfl
theorem spec_Holds.ok (k : Nat) : SmOk Try.prog (spec_Holds.sm k) :=
  sm_ok mixed (E := spec_Holds.E) (pts := spec_Holds.pts) (fun k => ⟨⟨tysOk, by kernel_rfl⟩, forall_cons ⟨spec_NodesOk.ok k, e95⟩ (forall_cons ⟨spec_l4Span.ok k, e101⟩ (forall_nil))⟩) (fun _ => rfl) (fun _ => rfl)
    ⟨Try.func81, by kernel_rfl, by kernel_rfl, by kernel_rfl, by kernel_rfl, by kernel_rfl, by kernel_rfl⟩ (forall_nil) (fun k x => spec_Holds.hf k x.1 x.2.1) k
noncomputable def b83 : Code := Try.f83.body.getD .skip
theorem e83 : OM.Entry Try.prog 83 := ⟨_, Try.func83, by kernel_rfl, by kernel_rfl⟩
@[reducible] noncomputable def spec_l7DrawSet.g : Sig := ⟨[.ptr tl1Cur .z .z, .fz tConfig], [.v (.sl (.int .i64)) (.own .z)], []⟩
@[reducible] noncomputable def spec_l7DrawSet.fk : Nat → denI spec_l7DrawSet.g.pms → Option (denR (outTys spec_l7DrawSet.g.rts spec_l7DrawSet.g.pms)) := fun k x => spec_l7DrawSet.f k x.1 x.2.1
@[reducible] noncomputable def spec_l7DrawSet.sm (k : Nat) : Sm := ⟨83, spec_l7DrawSet.g.pms, spec_l7DrawSet.g.rts, spec_l7DrawSet.fk k⟩
noncomputable def spec_l7DrawSet.E (k : Nat) : Env := ⟨tys, [spec_l4Put.sm k, spec_l4DrawNodes.sm k, spec_Holds.sm k], [], [], []⟩
@[reducible] noncomputable def spec_l7DrawSet.s7 : List Slot := [.r 0 36001 [] tl1Cur, .r 12 13 [] tConfig, .v 20 (.sl (.int .i64)) (.own .z) [] 0, .v 24 (.int .i64) .z [] 0, .v 13 tConfig .z [] 0, .v 36001 tl1Cur .z [] 0]
noncomputable def spec_l7DrawSet.pts : List (Pt (denR (outTys spec_l7DrawSet.g.rts spec_l7DrawSet.g.pms))) := [⟨7, spec_l7DrawSet.s7, fun k x => spec_l7DrawSet.p7 k x.1 x.2.1 x.2.2.1 x.2.2.2.1⟩]
theorem spec_l7DrawSet.h7 (k : Nat) (x0 : (List Int)) (x1 : Int) (x2 : Config) (x3 : l1Cur) : (spec_l7DrawSet.p7 (k + 1) x0 x1 x2 x3 : Option (denR (outTys spec_l7DrawSet.g.rts spec_l7DrawSet.g.pms))) = evAt (spec_l7DrawSet.E k) (fun κ s => lhOf k κ s spec_l7DrawSet.pts) 7 b83 (unproj spec_l7DrawSet.s7 (x0, x1, x2, x3, ())) (OM.fin spec_l7DrawSet.g Try.f83.results.toList) := by kernel_rfl
theorem spec_l7DrawSet.hf (k : Nat) (a0 : l1Cur) (a1 : Config) : (spec_l7DrawSet.f k a0 a1 : Option (denR (outTys spec_l7DrawSet.g.rts spec_l7DrawSet.g.pms))) = evC (spec_l7DrawSet.E k) (fun κ s => lhOf k κ s spec_l7DrawSet.pts) b83 (OM.start spec_l7DrawSet.g.pms 0 (a0, a1, ())) (OM.fin spec_l7DrawSet.g Try.f83.results.toList) := by kernel_rfl
theorem spec_l7DrawSet.ok (k : Nat) : SmOk Try.prog (spec_l7DrawSet.sm k) :=
  sm_ok mixed (E := spec_l7DrawSet.E) (pts := spec_l7DrawSet.pts) (fun k => ⟨⟨tysOk, by kernel_rfl⟩, forall_cons ⟨spec_l4Put.ok k, e102⟩ (forall_cons ⟨spec_l4DrawNodes.ok k, e82⟩ (forall_cons ⟨spec_Holds.ok k, e81⟩ (forall_nil)))⟩) (fun _ => rfl) (fun _ => rfl)
    ⟨Try.func83, by kernel_rfl, by kernel_rfl, by kernel_rfl, by kernel_rfl, by kernel_rfl, by kernel_rfl⟩ (forall_cons (fun x => ⟨rfl, fun k => spec_l7DrawSet.h7 k x.1 x.2.1 x.2.2.1 x.2.2.2.1⟩) (forall_nil)) (fun k x => spec_l7DrawSet.hf k x.1 x.2.1) k
noncomputable def b45 : Code := Try.f45.body.getD .skip
theorem e45 : OM.Entry Try.prog 45 := ⟨_, Try.func45, by kernel_rfl, by kernel_rfl⟩
@[reducible] noncomputable def spec_PlaceOk.g : Sig := ⟨[.fz (.int .i64)], [.v .bool .z], []⟩
@[reducible] noncomputable def spec_PlaceOk.fk : Nat → denI spec_PlaceOk.g.pms → Option (denR (outTys spec_PlaceOk.g.rts spec_PlaceOk.g.pms)) := fun k x => spec_PlaceOk.f x.1
@[reducible] noncomputable def spec_PlaceOk.sm (k : Nat) : Sm := ⟨45, spec_PlaceOk.g.pms, spec_PlaceOk.g.rts, spec_PlaceOk.fk k⟩
noncomputable def spec_PlaceOk.E (k : Nat) : Env := ⟨tys, [spec_l1In.sm k], [], [], []⟩
noncomputable def spec_PlaceOk.pts : List (Pt (denR (outTys spec_PlaceOk.g.rts spec_PlaceOk.g.pms))) := []
theorem spec_PlaceOk.hf (k : Nat) (a0 : Int) : (spec_PlaceOk.f a0 : Option (denR (outTys spec_PlaceOk.g.rts spec_PlaceOk.g.pms))) = evC (spec_PlaceOk.E k) (fun κ s => lhOf k κ s spec_PlaceOk.pts) b45 (OM.start spec_PlaceOk.g.pms 0 (a0, ())) (OM.fin spec_PlaceOk.g Try.f45.results.toList) := by kernel_rfl
theorem spec_PlaceOk.ok (k : Nat) : SmOk Try.prog (spec_PlaceOk.sm k) :=
  sm_ok mixed (E := spec_PlaceOk.E) (pts := spec_PlaceOk.pts) (fun k => ⟨⟨tysOk, by kernel_rfl⟩, forall_cons ⟨spec_l1In.ok k, e77⟩ (forall_nil)⟩) (fun _ => rfl) (fun _ => rfl)
    ⟨Try.func45, by kernel_rfl, by kernel_rfl, by kernel_rfl, by kernel_rfl, by kernel_rfl, by kernel_rfl⟩ (forall_nil) (fun k x => spec_PlaceOk.hf k x.1) k
noncomputable def b46 : Code := Try.f46.body.getD .skip
theorem e46 : OM.Entry Try.prog 46 := ⟨_, Try.func46, by kernel_rfl, by kernel_rfl⟩
@[reducible] noncomputable def spec_EpochOf.g : Sig := ⟨[.fz (.int .i64)], [.v (.int .i64) .z], []⟩
@[reducible] noncomputable def spec_EpochOf.fk : Nat → denI spec_EpochOf.g.pms → Option (denR (outTys spec_EpochOf.g.rts spec_EpochOf.g.pms)) := fun k x => spec_EpochOf.f x.1
@[reducible] noncomputable def spec_EpochOf.sm (k : Nat) : Sm := ⟨46, spec_EpochOf.g.pms, spec_EpochOf.g.rts, spec_EpochOf.fk k⟩
noncomputable def spec_EpochOf.E (k : Nat) : Env := ⟨tys, [spec_PlaceOk.sm k], [], [], []⟩
noncomputable def spec_EpochOf.pts : List (Pt (denR (outTys spec_EpochOf.g.rts spec_EpochOf.g.pms))) := []
theorem spec_EpochOf.hf (k : Nat) (a0 : Int) : (spec_EpochOf.f a0 : Option (denR (outTys spec_EpochOf.g.rts spec_EpochOf.g.pms))) = evC (spec_EpochOf.E k) (fun κ s => lhOf k κ s spec_EpochOf.pts) b46 (OM.start spec_EpochOf.g.pms 0 (a0, ())) (OM.fin spec_EpochOf.g Try.f46.results.toList) := by kernel_rfl
theorem spec_EpochOf.ok (k : Nat) : SmOk Try.prog (spec_EpochOf.sm k) :=
  sm_ok mixed (E := spec_EpochOf.E) (pts := spec_EpochOf.pts) (fun k => ⟨⟨tysOk, by kernel_rfl⟩, forall_cons ⟨spec_PlaceOk.ok k, e45⟩ (forall_nil)⟩) (fun _ => rfl) (fun _ => rfl)
    ⟨Try.func46, by kernel_rfl, by kernel_rfl, by kernel_rfl, by kernel_rfl, by kernel_rfl, by kernel_rfl⟩ (forall_nil) (fun k x => spec_EpochOf.hf k x.1) k
noncomputable def b36 : Code := Try.f36.body.getD .skip
theorem e36 : OM.Entry Try.prog 36 := ⟨_, Try.func36, by kernel_rfl, by kernel_rfl⟩
@[reducible] noncomputable def spec_RegOk.g : Sig := ⟨[.fz tConfig, .fz tRegister], [.v .bool .z], []⟩
@[reducible] noncomputable def spec_RegOk.fk : Nat → denI spec_RegOk.g.pms → Option (denR (outTys spec_RegOk.g.rts spec_RegOk.g.pms)) := fun k x => spec_RegOk.f k x.1 x.2.1
@[reducible] noncomputable def spec_RegOk.sm (k : Nat) : Sm := ⟨36, spec_RegOk.g.pms, spec_RegOk.g.rts, spec_RegOk.fk k⟩
noncomputable def spec_RegOk.E (k : Nat) : Env := ⟨tys, [spec_l1In.sm k, spec_ConfigOk.sm k, spec_Holds.sm k, spec_PlaceOk.sm k, spec_EpochOf.sm k], [45], [4, 10], []⟩
@[reducible] noncomputable def spec_RegOk.s8 : List Slot := [.r 8 9 [] tConfig, .r 12 13 [] tRegister, .v 20 (.int .i64) .z [] 0, .v 9 tConfig .z [] 0, .v 13 tRegister .z [] 0]
@[reducible] noncomputable def spec_RegOk.s11 : List Slot := [.r 8 9 [] tConfig, .r 12 13 [] tRegister, .v 20 (.int .i64) .z [] 0, .v 24 (.int .i64) .z [] 0, .v 9 tConfig .z [] 0, .v 13 tRegister .z [] 0]
@[reducible] noncomputable def spec_RegOk.s20 : List Slot := [.r 8 9 [] tConfig, .r 12 13 [] tRegister, .v 20 (.int .i64) .z [] 0, .v 24 (.int .i64) .z [] 0, .r 28 29 [] tEra, .r 208 29 [.snd, .snd, .fst] (.int .i64), .v 212 (.int .i64) .z [] 0, .v 216 .bool .z [] 0, .v 220 .bool .z [] 0, .r 232 29 [.snd, .fst] .bool, .v 236 .bool .z [] 0, .v 240 .bool .z [] 0, .v 244 .bool .z [] 0, .v 260 .bool .z [] 0, .v 9 tConfig .z [] 0, .v 13 tRegister .z [] 0, .v 29 tEra .z [] 0]
noncomputable def spec_RegOk.pts : List (Pt (denR (outTys spec_RegOk.g.rts spec_RegOk.g.pms))) := [⟨8, spec_RegOk.s8, fun k x => spec_RegOk.p8 k x.1 x.2.1 x.2.2.1⟩, ⟨11, spec_RegOk.s11, fun k x => spec_RegOk.p11 k x.1 x.2.1 x.2.2.1 x.2.2.2.1⟩, ⟨20, spec_RegOk.s20, fun k x => spec_RegOk.p20 k x.1 x.2.1 x.2.2.1 x.2.2.2.1 x.2.2.2.2.1 x.2.2.2.2.2.1 x.2.2.2.2.2.2.1 x.2.2.2.2.2.2.2.1 x.2.2.2.2.2.2.2.2.1 x.2.2.2.2.2.2.2.2.2.1 x.2.2.2.2.2.2.2.2.2.2.1 x.2.2.2.2.2.2.2.2.2.2.2.1⟩]
theorem spec_RegOk.h8 (k : Nat) (x0 : Int) (x1 : Config) (x2 : Register) : (spec_RegOk.p8 (k + 1) x0 x1 x2 : Option (denR (outTys spec_RegOk.g.rts spec_RegOk.g.pms))) = evAt (spec_RegOk.E k) (fun κ s => lhOf k κ s spec_RegOk.pts) 8 b36 (unproj spec_RegOk.s8 (x0, x1, x2, ())) (OM.fin spec_RegOk.g Try.f36.results.toList) := by kernel_rfl
theorem spec_RegOk.h11 (k : Nat) (x0 : Int) (x1 : Int) (x2 : Config) (x3 : Register) : (spec_RegOk.p11 (k + 1) x0 x1 x2 x3 : Option (denR (outTys spec_RegOk.g.rts spec_RegOk.g.pms))) = evAt (spec_RegOk.E k) (fun κ s => lhOf k κ s spec_RegOk.pts) 11 b36 (unproj spec_RegOk.s11 (x0, x1, x2, x3, ())) (OM.fin spec_RegOk.g Try.f36.results.toList) := by kernel_rfl
theorem spec_RegOk.h20 (k : Nat) (x0 : Int) (x1 : Int) (x2 : Int) (x3 : Bool) (x4 : Bool) (x5 : Bool) (x6 : Bool) (x7 : Bool) (x8 : Bool) (x9 : Config) (x10 : Register) (x11 : Era) : (spec_RegOk.p20 (k + 1) x0 x1 x2 x3 x4 x5 x6 x7 x8 x9 x10 x11 : Option (denR (outTys spec_RegOk.g.rts spec_RegOk.g.pms))) = evAt (spec_RegOk.E k) (fun κ s => lhOf k κ s spec_RegOk.pts) 20 b36 (unproj spec_RegOk.s20 (x0, x1, x2, x3, x4, x5, x6, x7, x8, x9, x10, x11, ())) (OM.fin spec_RegOk.g Try.f36.results.toList) := by kernel_rfl
theorem spec_RegOk.hf (k : Nat) (a0 : Config) (a1 : Register) : (spec_RegOk.f k a0 a1 : Option (denR (outTys spec_RegOk.g.rts spec_RegOk.g.pms))) = evC (spec_RegOk.E k) (fun κ s => lhOf k κ s spec_RegOk.pts) b36 (OM.start spec_RegOk.g.pms 0 (a0, a1, ())) (OM.fin spec_RegOk.g Try.f36.results.toList) := by kernel_rfl
theorem spec_RegOk.ok (k : Nat) : SmOk Try.prog (spec_RegOk.sm k) :=
  sm_ok mixed (E := spec_RegOk.E) (pts := spec_RegOk.pts) (fun k => ⟨⟨tysOk, by kernel_rfl⟩, forall_cons ⟨spec_l1In.ok k, e77⟩ (forall_cons ⟨spec_ConfigOk.ok k, e80⟩ (forall_cons ⟨spec_Holds.ok k, e81⟩ (forall_cons ⟨spec_PlaceOk.ok k, e45⟩ (forall_cons ⟨spec_EpochOf.ok k, e46⟩ (forall_nil)))))⟩) (fun _ => rfl) (fun _ => rfl)
    ⟨Try.func36, by kernel_rfl, by kernel_rfl, by kernel_rfl, by kernel_rfl, by kernel_rfl, by kernel_rfl⟩ (forall_cons (fun x => ⟨rfl, fun k => spec_RegOk.h8 k x.1 x.2.1 x.2.2.1⟩) (forall_cons (fun x => ⟨rfl, fun k => spec_RegOk.h11 k x.1 x.2.1 x.2.2.1 x.2.2.2.1⟩) (forall_cons (fun x => ⟨rfl, fun k => spec_RegOk.h20 k x.1 x.2.1 x.2.2.1 x.2.2.2.1 x.2.2.2.2.1 x.2.2.2.2.2.1 x.2.2.2.2.2.2.1 x.2.2.2.2.2.2.2.1 x.2.2.2.2.2.2.2.2.1 x.2.2.2.2.2.2.2.2.2.1 x.2.2.2.2.2.2.2.2.2.2.1 x.2.2.2.2.2.2.2.2.2.2.2.1⟩) (forall_nil)))) (fun k x => spec_RegOk.hf k x.1 x.2.1) k
noncomputable def b44 : Code := Try.f44.body.getD .skip
theorem e44 : OM.Entry Try.prog 44 := ⟨_, Try.func44, by kernel_rfl, by kernel_rfl⟩
@[reducible] noncomputable def spec_l7Copy.g : Sig := ⟨[.fz tRegister], [.v tRegister (.two (.own (.two (.own .z) .z)) .z)], []⟩
@[reducible] noncomputable def spec_l7Copy.fk : Nat → denI spec_l7Copy.g.pms → Option (denR (outTys spec_l7Copy.g.rts spec_l7Copy.g.pms)) := fun k x => spec_l7Copy.f k x.1
@[reducible] noncomputable def spec_l7Copy.sm (k : Nat) : Sm := ⟨44, spec_l7Copy.g.pms, spec_l7Copy.g.rts, spec_l7Copy.fk k⟩
noncomputable def spec_l7Copy.E (k : Nat) : Env := ⟨tys, [], [20, 28], [], []⟩
@[reducible] noncomputable def spec_l7Copy.s7 : List Slot := [.r 4 5 [] tRegister, .r 8 9 [] tRegister, .r 12 13 [] tRegister, .v 16 (.int .i64) .z [] 0, .v 5 tRegister .z [] 0, .v 9 tRegister (.two (.own .a) .z) [] 0, .v 13 tRegister (.two (.own (.two (.own .z) .z)) .z) [] 0]
noncomputable def spec_l7Copy.pts : List (Pt (denR (outTys spec_l7Copy.g.rts spec_l7Copy.g.pms))) := [⟨7, spec_l7Copy.s7, fun k x => spec_l7Copy.p7 k x.1 x.2.1 x.2.2.1 x.2.2.2.1⟩]
theorem spec_l7Copy.h7 (k : Nat) (x0 : Int) (x1 : Register) (x2 : Register) (x3 : Register) : (spec_l7Copy.p7 (k + 1) x0 x1 x2 x3 : Option (denR (outTys spec_l7Copy.g.rts spec_l7Copy.g.pms))) = evAt (spec_l7Copy.E k) (fun κ s => lhOf k κ s spec_l7Copy.pts) 7 b44 (unproj spec_l7Copy.s7 (x0, x1, x2, x3, ())) (OM.fin spec_l7Copy.g Try.f44.results.toList) := by kernel_rfl
theorem spec_l7Copy.hf (k : Nat) (a0 : Register) : (spec_l7Copy.f k a0 : Option (denR (outTys spec_l7Copy.g.rts spec_l7Copy.g.pms))) = evC (spec_l7Copy.E k) (fun κ s => lhOf k κ s spec_l7Copy.pts) b44 (OM.start spec_l7Copy.g.pms 0 (a0, ())) (OM.fin spec_l7Copy.g Try.f44.results.toList) := by kernel_rfl
theorem spec_l7Copy.ok (k : Nat) : SmOk Try.prog (spec_l7Copy.sm k) :=
  sm_ok mixed (E := spec_l7Copy.E) (pts := spec_l7Copy.pts) (fun k => ⟨⟨tysOk, by kernel_rfl⟩, forall_nil⟩) (fun _ => rfl) (fun _ => rfl)
    ⟨Try.func44, by kernel_rfl, by kernel_rfl, by kernel_rfl, by kernel_rfl, by kernel_rfl, by kernel_rfl⟩ (forall_cons (fun x => ⟨rfl, fun k => spec_l7Copy.h7 k x.1 x.2.1 x.2.2.1 x.2.2.2.1⟩) (forall_nil)) (fun k x => spec_l7Copy.hf k x.1) k
noncomputable def b39 : Code := Try.f39.body.getD .skip
theorem e39 : OM.Entry Try.prog 39 := ⟨_, Try.func39, by kernel_rfl, by kernel_rfl⟩
@[reducible] noncomputable def spec_RegOpen.g : Sig := ⟨[.fz tConfig, .fz tRegister, .fz (.sl (.int .i64))], [.v tRegister (.two (.own (.two (.own .z) .z)) .z), .v (.int .i64) .z, .v .bool .z], []⟩
@[reducible] noncomputable def spec_RegOpen.fk : Nat → denI spec_RegOpen.g.pms → Option (denR (outTys spec_RegOpen.g.rts spec_RegOpen.g.pms)) := fun k x => spec_RegOpen.f k x.1 x.2.1 x.2.2.1
@[reducible] noncomputable def spec_RegOpen.sm (k : Nat) : Sm := ⟨39, spec_RegOpen.g.pms, spec_RegOpen.g.rts, spec_RegOpen.fk k⟩
noncomputable def spec_RegOpen.E (k : Nat) : Env := ⟨tys, [spec_Holds.sm k, spec_RegOk.sm k, spec_l7Copy.sm k], [31], [], []⟩
noncomputable def spec_RegOpen.pts : List (Pt (denR (outTys spec_RegOpen.g.rts spec_RegOpen.g.pms))) := []
theorem spec_RegOpen.hf (k : Nat) (a0 : Config) (a1 : Register) (a2 : (List Int)) : (spec_RegOpen.f k a0 a1 a2 : Option (denR (outTys spec_RegOpen.g.rts spec_RegOpen.g.pms))) = evC (spec_RegOpen.E k) (fun κ s => lhOf k κ s spec_RegOpen.pts) b39 (OM.start spec_RegOpen.g.pms 0 (a0, a1, a2, ())) (OM.fin spec_RegOpen.g Try.f39.results.toList) := by kernel_rfl
theorem spec_RegOpen.ok (k : Nat) : SmOk Try.prog (spec_RegOpen.sm k) :=
  sm_ok mixed (E := spec_RegOpen.E) (pts := spec_RegOpen.pts) (fun k => ⟨⟨tysOk, by kernel_rfl⟩, forall_cons ⟨spec_Holds.ok k, e81⟩ (forall_cons ⟨spec_RegOk.ok k, e36⟩ (forall_cons ⟨spec_l7Copy.ok k, e44⟩ (forall_nil)))⟩) (fun _ => rfl) (fun _ => rfl)
    ⟨Try.func39, by kernel_rfl, by kernel_rfl, by kernel_rfl, by kernel_rfl, by kernel_rfl, by kernel_rfl⟩ (forall_nil) (fun k x => spec_RegOpen.hf k x.1 x.2.1 x.2.2.1) k
noncomputable def b32 : Code := Try.f32.body.getD .skip
theorem e32 : OM.Entry Try.prog 32 := ⟨_, Try.func32, by kernel_rfl, by kernel_rfl⟩
@[reducible] noncomputable def spec_FirstOpen.g : Sig := ⟨[.fz tRegister], [.v (.int .i64) .z], []⟩
@[reducible] noncomputable def spec_FirstOpen.fk : Nat → denI spec_FirstOpen.g.pms → Option (denR (outTys spec_FirstOpen.g.rts spec_FirstOpen.g.pms)) := fun k x => spec_FirstOpen.f k x.1
@[reducible] noncomputable def spec_FirstOpen.sm (k : Nat) : Sm := ⟨32, spec_FirstOpen.g.pms, spec_FirstOpen.g.rts, spec_FirstOpen.fk k⟩
noncomputable def spec_FirstOpen.E (k : Nat) : Env := ⟨tys, [], [], [], []⟩
@[reducible] noncomputable def spec_FirstOpen.s5 : List Slot := [.r 4 5 [] tRegister, .v 12 (.int .i64) .z [] 0, .v 5 tRegister .z [] 0]
noncomputable def spec_FirstOpen.pts : List (Pt (denR (outTys spec_FirstOpen.g.rts spec_FirstOpen.g.pms))) := [⟨5, spec_FirstOpen.s5, fun k x => spec_FirstOpen.p5 k x.1 x.2.1⟩]
theorem spec_FirstOpen.h5 (k : Nat) (x0 : Int) (x1 : Register) : (spec_FirstOpen.p5 (k + 1) x0 x1 : Option (denR (outTys spec_FirstOpen.g.rts spec_FirstOpen.g.pms))) = evAt (spec_FirstOpen.E k) (fun κ s => lhOf k κ s spec_FirstOpen.pts) 5 b32 (unproj spec_FirstOpen.s5 (x0, x1, ())) (OM.fin spec_FirstOpen.g Try.f32.results.toList) := by kernel_rfl
theorem spec_FirstOpen.hf (k : Nat) (a0 : Register) : (spec_FirstOpen.f k a0 : Option (denR (outTys spec_FirstOpen.g.rts spec_FirstOpen.g.pms))) = evC (spec_FirstOpen.E k) (fun κ s => lhOf k κ s spec_FirstOpen.pts) b32 (OM.start spec_FirstOpen.g.pms 0 (a0, ())) (OM.fin spec_FirstOpen.g Try.f32.results.toList) := by kernel_rfl
theorem spec_FirstOpen.ok (k : Nat) : SmOk Try.prog (spec_FirstOpen.sm k) :=
  sm_ok mixed (E := spec_FirstOpen.E) (pts := spec_FirstOpen.pts) (fun k => ⟨⟨tysOk, by kernel_rfl⟩, forall_nil⟩) (fun _ => rfl) (fun _ => rfl)
    ⟨Try.func32, by kernel_rfl, by kernel_rfl, by kernel_rfl, by kernel_rfl, by kernel_rfl, by kernel_rfl⟩ (forall_cons (fun x => ⟨rfl, fun k => spec_FirstOpen.h5 k x.1 x.2.1⟩) (forall_nil)) (fun k x => spec_FirstOpen.hf k x.1) k
noncomputable def b33 : Code := Try.f33.body.getD .skip
theorem e33 : OM.Entry Try.prog 33 := ⟨_, Try.func33, by kernel_rfl, by kernel_rfl⟩
@[reducible] noncomputable def spec_RegClose.g : Sig := ⟨[.fz tConfig, .fz tRegister, .fz (.int .i64), .fz (.int .i64)], [.v tRegister (.two (.own (.two (.own .z) .z)) .z), .v .bool .z], []⟩
@[reducible] noncomputable def spec_RegClose.fk : Nat → denI spec_RegClose.g.pms → Option (denR (outTys spec_RegClose.g.rts spec_RegClose.g.pms)) := fun k x => spec_RegClose.f k x.1 x.2.1 x.2.2.1 x.2.2.2.1
@[reducible] noncomputable def spec_RegClose.sm (k : Nat) : Sm := ⟨33, spec_RegClose.g.pms, spec_RegClose.g.rts, spec_RegClose.fk k⟩
noncomputable def spec_RegClose.E (k : Nat) : Env := ⟨tys, [spec_l1In.sm k, spec_RegOk.sm k, spec_l7Copy.sm k, spec_FirstOpen.sm k], [51], [], []⟩
noncomputable def spec_RegClose.pts : List (Pt (denR (outTys spec_RegClose.g.rts spec_RegClose.g.pms))) := []
theorem spec_RegClose.hf (k : Nat) (a0 : Config) (a1 : Register) (a2 : Int) (a3 : Int) : (spec_RegClose.f k a0 a1 a2 a3 : Option (denR (outTys spec_RegClose.g.rts spec_RegClose.g.pms))) = evC (spec_RegClose.E k) (fun κ s => lhOf k κ s spec_RegClose.pts) b33 (OM.start spec_RegClose.g.pms 0 (a0, a1, a2, a3, ())) (OM.fin spec_RegClose.g Try.f33.results.toList) := by kernel_rfl
theorem spec_RegClose.ok (k : Nat) : SmOk Try.prog (spec_RegClose.sm k) :=
  sm_ok mixed (E := spec_RegClose.E) (pts := spec_RegClose.pts) (fun k => ⟨⟨tysOk, by kernel_rfl⟩, forall_cons ⟨spec_l1In.ok k, e77⟩ (forall_cons ⟨spec_RegOk.ok k, e36⟩ (forall_cons ⟨spec_l7Copy.ok k, e44⟩ (forall_cons ⟨spec_FirstOpen.ok k, e32⟩ (forall_nil))))⟩) (fun _ => rfl) (fun _ => rfl)
    ⟨Try.func33, by kernel_rfl, by kernel_rfl, by kernel_rfl, by kernel_rfl, by kernel_rfl, by kernel_rfl⟩ (forall_nil) (fun k x => spec_RegClose.hf k x.1 x.2.1 x.2.2.1 x.2.2.2.1) k
noncomputable def b100 : Code := Try.f100.body.getD .skip
theorem e100 : OM.Entry Try.prog 100 := ⟨_, Try.func100, by kernel_rfl, by kernel_rfl⟩
@[reducible] noncomputable def spec_l1Place.g : Sig := ⟨[.fz (.int .i64), .fz (.int .i64)], [.v (.int .i64) .z], []⟩
@[reducible] noncomputable def spec_l1Place.fk : Nat → denI spec_l1Place.g.pms → Option (denR (outTys spec_l1Place.g.rts spec_l1Place.g.pms)) := fun k x => spec_l1Place.f x.1 x.2.1
@[reducible] noncomputable def spec_l1Place.sm (k : Nat) : Sm := ⟨100, spec_l1Place.g.pms, spec_l1Place.g.rts, spec_l1Place.fk k⟩
noncomputable def spec_l1Place.E (k : Nat) : Env := ⟨tys, [], [], [], []⟩
noncomputable def spec_l1Place.pts : List (Pt (denR (outTys spec_l1Place.g.rts spec_l1Place.g.pms))) := []
theorem spec_l1Place.hf (k : Nat) (a0 : Int) (a1 : Int) : (spec_l1Place.f a0 a1 : Option (denR (outTys spec_l1Place.g.rts spec_l1Place.g.pms))) = evC (spec_l1Place.E k) (fun κ s => lhOf k κ s spec_l1Place.pts) b100 (OM.start spec_l1Place.g.pms 0 (a0, a1, ())) (OM.fin spec_l1Place.g Try.f100.results.toList) := by kernel_rfl
theorem spec_l1Place.ok (k : Nat) : SmOk Try.prog (spec_l1Place.sm k) :=
  sm_ok mixed (E := spec_l1Place.E) (pts := spec_l1Place.pts) (fun k => ⟨⟨tysOk, by kernel_rfl⟩, forall_nil⟩) (fun _ => rfl) (fun _ => rfl)
    ⟨Try.func100, by kernel_rfl, by kernel_rfl, by kernel_rfl, by kernel_rfl, by kernel_rfl, by kernel_rfl⟩ (forall_nil) (fun k x => spec_l1Place.hf k x.1 x.2.1) k
noncomputable def b11 : Code := Try.f11.body.getD .skip
theorem e11 : OM.Entry Try.prog 11 := ⟨_, Try.func11, by kernel_rfl, by kernel_rfl⟩
@[reducible] noncomputable def spec_RegTrim.g : Sig := ⟨[.fz tConfig, .fz tRegister, .fz (.int .i64)], [.v tRegister (.two (.own (.two (.own .z) .z)) .z), .v .bool .z], []⟩
@[reducible] noncomputable def spec_RegTrim.fk : Nat → denI spec_RegTrim.g.pms → Option (denR (outTys spec_RegTrim.g.rts spec_RegTrim.g.pms)) := fun k x => spec_RegTrim.f k x.1 x.2.1 x.2.2.1
@[reducible] noncomputable def spec_RegTrim.sm (k : Nat) : Sm := ⟨11, spec_RegTrim.g.pms, spec_RegTrim.g.rts, spec_RegTrim.fk k⟩
noncomputable def spec_RegTrim.E (k : Nat) : Env := ⟨tys, [spec_l1Max.sm k, spec_PlaceOk.sm k, spec_EpochOf.sm k, spec_RegOk.sm k, spec_l7Copy.sm k], [], [], []⟩
noncomputable def spec_RegTrim.pts : List (Pt (denR (outTys spec_RegTrim.g.rts spec_RegTrim.g.pms))) := []
theorem spec_RegTrim.hf (k : Nat) (a0 : Config) (a1 : Register) (a2 : Int) : (spec_RegTrim.f k a0 a1 a2 : Option (denR (outTys spec_RegTrim.g.rts spec_RegTrim.g.pms))) = evC (spec_RegTrim.E k) (fun κ s => lhOf k κ s spec_RegTrim.pts) b11 (OM.start spec_RegTrim.g.pms 0 (a0, a1, a2, ())) (OM.fin spec_RegTrim.g Try.f11.results.toList) := by kernel_rfl
theorem spec_RegTrim.ok (k : Nat) : SmOk Try.prog (spec_RegTrim.sm k) :=
  sm_ok mixed (E := spec_RegTrim.E) (pts := spec_RegTrim.pts) (fun k => ⟨⟨tysOk, by kernel_rfl⟩, forall_cons ⟨spec_l1Max.ok k, e47⟩ (forall_cons ⟨spec_PlaceOk.ok k, e45⟩ (forall_cons ⟨spec_EpochOf.ok k, e46⟩ (forall_cons ⟨spec_RegOk.ok k, e36⟩ (forall_cons ⟨spec_l7Copy.ok k, e44⟩ (forall_nil)))))⟩) (fun _ => rfl) (fun _ => rfl)
    ⟨Try.func11, by kernel_rfl, by kernel_rfl, by kernel_rfl, by kernel_rfl, by kernel_rfl, by kernel_rfl⟩ (forall_nil) (fun k x => spec_RegTrim.hf k x.1 x.2.1 x.2.2.1) k
noncomputable def b99 : Code := Try.f99.body.getD .skip
theorem e99 : OM.Entry Try.prog 99 := ⟨_, Try.func99, by kernel_rfl, by kernel_rfl⟩
@[reducible] noncomputable def spec_l7DrawRight.g : Sig := ⟨[.ptr tl1Cur .z .z, .fz tConfig], [.v tRegister (.two (.own (.two (.own .z) .z)) .z)], []⟩
@[reducible] noncomputable def spec_l7DrawRight.fk : Nat → denI spec_l7DrawRight.g.pms → Option (denR (outTys spec_l7DrawRight.g.rts spec_l7DrawRight.g.pms)) := fun k x => spec_l7DrawRight.f k x.1 x.2.1
@[reducible] noncomputable def spec_l7DrawRight.sm (k : Nat) : Sm := ⟨99, spec_l7DrawRight.g.pms, spec_l7DrawRight.g.rts, spec_l7DrawRight.fk k⟩
noncomputable def spec_l7DrawRight.E (k : Nat) : Env := ⟨tys, [spec_l1Below.sm k, spec_l7DrawSet.sm k, spec_RegOpen.sm k, spec_RegClose.sm k, spec_l1Place.sm k, spec_RegTrim.sm k], [58], [], []⟩
@[reducible] noncomputable def spec_l7DrawRight.s7 : List Slot := [.r 0 36001 [] tl1Cur, .r 12 13 [] tConfig, .r 16 17 [] tRegister, .r 20 21 [] tRegister, .v 24 (.int .i64) .z [] 0, .v 13 tConfig .z [] 0, .v 17 tRegister (.two (.own .a) .z) [] 0, .v 21 tRegister (.two (.own (.two (.own .z) .z)) .z) [] 0, .v 36001 tl1Cur .z [] 0]
noncomputable def spec_l7DrawRight.pts : List (Pt (denR (outTys spec_l7DrawRight.g.rts spec_l7DrawRight.g.pms))) := [⟨7, spec_l7DrawRight.s7, fun k x => spec_l7DrawRight.p7 k x.1 x.2.1 x.2.2.1 x.2.2.2.1 x.2.2.2.2.1⟩]
theorem spec_l7DrawRight.h7 (k : Nat) (x0 : Int) (x1 : Config) (x2 : Register) (x3 : Register) (x4 : l1Cur) : (spec_l7DrawRight.p7 (k + 1) x0 x1 x2 x3 x4 : Option (denR (outTys spec_l7DrawRight.g.rts spec_l7DrawRight.g.pms))) = evAt (spec_l7DrawRight.E k) (fun κ s => lhOf k κ s spec_l7DrawRight.pts) 7 b99 (unproj spec_l7DrawRight.s7 (x0, x1, x2, x3, x4, ())) (OM.fin spec_l7DrawRight.g Try.f99.results.toList) := by kernel_rfl
theorem spec_l7DrawRight.hf (k : Nat) (a0 : l1Cur) (a1 : Config) : (spec_l7DrawRight.f k a0 a1 : Option (denR (outTys spec_l7DrawRight.g.rts spec_l7DrawRight.g.pms))) = evC (spec_l7DrawRight.E k) (fun κ s => lhOf k κ s spec_l7DrawRight.pts) b99 (OM.start spec_l7DrawRight.g.pms 0 (a0, a1, ())) (OM.fin spec_l7DrawRight.g Try.f99.results.toList) := by kernel_rfl
theorem spec_l7DrawRight.ok (k : Nat) : SmOk Try.prog (spec_l7DrawRight.sm k) :=
  sm_ok mixed (E := spec_l7DrawRight.E) (pts := spec_l7DrawRight.pts) (fun k => ⟨⟨tysOk, by kernel_rfl⟩, forall_cons ⟨spec_l1Below.ok k, e62⟩ (forall_cons ⟨spec_l7DrawSet.ok k, e83⟩ (forall_cons ⟨spec_RegOpen.ok k, e39⟩ (forall_cons ⟨spec_RegClose.ok k, e33⟩ (forall_cons ⟨spec_l1Place.ok k, e100⟩ (forall_cons ⟨spec_RegTrim.ok k, e11⟩ (forall_nil))))))⟩) (fun _ => rfl) (fun _ => rfl)
    ⟨Try.func99, by kernel_rfl, by kernel_rfl, by kernel_rfl, by kernel_rfl, by kernel_rfl, by kernel_rfl⟩ (forall_cons (fun x => ⟨rfl, fun k => spec_l7DrawRight.h7 k x.1 x.2.1 x.2.2.1 x.2.2.2.1 x.2.2.2.2.1⟩) (forall_nil)) (fun k x => spec_l7DrawRight.hf k x.1 x.2.1) k
noncomputable def b75 : Code := Try.f75.body.getD .skip
theorem e75 : OM.Entry Try.prog 75 := ⟨_, Try.func75, by kernel_rfl, by kernel_rfl⟩
@[reducible] noncomputable def spec_l1DrawPlace.g : Sig := ⟨[.ptr tl1Cur .z .z], [.v (.int .i64) .z], []⟩
@[reducible] noncomputable def spec_l1DrawPlace.fk : Nat → denI spec_l1DrawPlace.g.pms → Option (denR (outTys spec_l1DrawPlace.g.rts spec_l1DrawPlace.g.pms)) := fun k x => spec_l1DrawPlace.f x.1
@[reducible] noncomputable def spec_l1DrawPlace.sm (k : Nat) : Sm := ⟨75, spec_l1DrawPlace.g.pms, spec_l1DrawPlace.g.rts, spec_l1DrawPlace.fk k⟩
noncomputable def spec_l1DrawPlace.E (k : Nat) : Env := ⟨tys, [spec_l1Below.sm k, spec_l1PickInt.sm k, spec_l1Place.sm k], [], [], []⟩
noncomputable def spec_l1DrawPlace.pts : List (Pt (denR (outTys spec_l1DrawPlace.g.rts spec_l1DrawPlace.g.pms))) := []
theorem spec_l1DrawPlace.hf (k : Nat) (a0 : l1Cur) : (spec_l1DrawPlace.f a0 : Option (denR (outTys spec_l1DrawPlace.g.rts spec_l1DrawPlace.g.pms))) = evC (spec_l1DrawPlace.E k) (fun κ s => lhOf k κ s spec_l1DrawPlace.pts) b75 (OM.start spec_l1DrawPlace.g.pms 0 (a0, ())) (OM.fin spec_l1DrawPlace.g Try.f75.results.toList) := by kernel_rfl
theorem spec_l1DrawPlace.ok (k : Nat) : SmOk Try.prog (spec_l1DrawPlace.sm k) :=
  sm_ok mixed (E := spec_l1DrawPlace.E) (pts := spec_l1DrawPlace.pts) (fun k => ⟨⟨tysOk, by kernel_rfl⟩, forall_cons ⟨spec_l1Below.ok k, e62⟩ (forall_cons ⟨spec_l1PickInt.ok k, e79⟩ (forall_cons ⟨spec_l1Place.ok k, e100⟩ (forall_nil)))⟩) (fun _ => rfl) (fun _ => rfl)
    ⟨Try.func75, by kernel_rfl, by kernel_rfl, by kernel_rfl, by kernel_rfl, by kernel_rfl, by kernel_rfl⟩ (forall_nil) (fun k x => spec_l1DrawPlace.hf k x.1) k
noncomputable def b74 : Code := Try.f74.body.getD .skip
theorem e74 : OM.Entry Try.prog 74 := ⟨_, Try.func74, by kernel_rfl, by kernel_rfl⟩
@[reducible] noncomputable def spec_l7Draw.g : Sig := ⟨[.ptr tl1Cur .z .z, .fz tConfig], [.v tRegister (.two (.own .z) .z)], []⟩
@[reducible] noncomputable def spec_l7Draw.fk : Nat → denI spec_l7Draw.g.pms → Option (denR (outTys spec_l7Draw.g.rts spec_l7Draw.g.pms)) := fun k x => spec_l7Draw.f k x.1 x.2.1
@[reducible] noncomputable def spec_l7Draw.sm (k : Nat) : Sm := ⟨74, spec_l7Draw.g.pms, spec_l7Draw.g.rts, spec_l7Draw.fk k⟩
noncomputable def spec_l7Draw.E (k : Nat) : Env := ⟨tys, [spec_l1Below.sm k, spec_l1PickInt.sm k, spec_l4DrawNodes.sm k, spec_l7DrawSet.sm k, spec_l7DrawRight.sm k, spec_l1DrawPlace.sm k], [], [], []⟩
@[reducible] noncomputable def spec_l7Draw.s35 : List Slot := [.r 0 36001 [] tl1Cur, .r 16 17 [] tRegister, .r 20 21 [] tRegister, .v 28 (.sl (.int .i64)) (.own .z) [] 0, .v 17 tRegister (.two (.own .a) .z) [] 0, .v 21 tRegister (.two (.own .z) .z) [28] 0, .v 36001 tl1Cur .z [] 0]
noncomputable def spec_l7Draw.pts : List (Pt (denR (outTys spec_l7Draw.g.rts spec_l7Draw.g.pms))) := [⟨35, spec_l7Draw.s35, fun k x => spec_l7Draw.p35 k x.1 x.2.1 x.2.2.1 x.2.2.2.1⟩]
theorem spec_l7Draw.h35 (k : Nat) (x0 : (List Int)) (x1 : Register) (x2 : Register) (x3 : l1Cur) : (spec_l7Draw.p35 (k + 1) x0 x1 x2 x3 : Option (denR (outTys spec_l7Draw.g.rts spec_l7Draw.g.pms))) = evAt (spec_l7Draw.E k) (fun κ s => lhOf k κ s spec_l7Draw.pts) 35 b74 (unproj spec_l7Draw.s35 (x0, x1, x2, x3, ())) (OM.fin spec_l7Draw.g Try.f74.results.toList) := by kernel_rfl
theorem spec_l7Draw.hf (k : Nat) (a0 : l1Cur) (a1 : Config) : (spec_l7Draw.f k a0 a1 : Option (denR (outTys spec_l7Draw.g.rts spec_l7Draw.g.pms))) = evC (spec_l7Draw.E k) (fun κ s => lhOf k κ s spec_l7Draw.pts) b74 (OM.start spec_l7Draw.g.pms 0 (a0, a1, ())) (OM.fin spec_l7Draw.g Try.f74.results.toList) := by kernel_rfl
theorem spec_l7Draw.ok (k : Nat) : SmOk Try.prog (spec_l7Draw.sm k) :=
  sm_ok mixed (E := spec_l7Draw.E) (pts := spec_l7Draw.pts) (fun k => ⟨⟨tysOk, by kernel_rfl⟩, forall_cons ⟨spec_l1Below.ok k, e62⟩ (forall_cons ⟨spec_l1PickInt.ok k, e79⟩ (forall_cons ⟨spec_l4DrawNodes.ok k, e82⟩ (forall_cons ⟨spec_l7DrawSet.ok k, e83⟩ (forall_cons ⟨spec_l7DrawRight.ok k, e99⟩ (forall_cons ⟨spec_l1DrawPlace.ok k, e75⟩ (forall_nil))))))⟩) (fun _ => rfl) (fun _ => rfl)
    ⟨Try.func74, by kernel_rfl, by kernel_rfl, by kernel_rfl, by kernel_rfl, by kernel_rfl, by kernel_rfl⟩ (forall_cons (fun x => ⟨rfl, fun k => spec_l7Draw.h35 k x.1 x.2.1 x.2.2.1 x.2.2.2.1⟩) (forall_nil)) (fun k x => spec_l7Draw.hf k x.1 x.2.1) k
noncomputable def b37 : Code := Try.f37.body.getD .skip
theorem e37 : OM.Entry Try.prog 37 := ⟨_, Try.func37, by kernel_rfl, by kernel_rfl⟩
@[reducible] noncomputable def spec_DrawRegOpen.g : Sig := ⟨[.fz (.sl (.int .u8))], [.v tConfig .z, .v tRegister (.two (.own .z) .z), .v (.sl (.int .i64)) (.own .z)], []⟩
@[reducible] noncomputable def spec_DrawRegOpen.fk : Nat → denI spec_DrawRegOpen.g.pms → Option (denR (outTys spec_DrawRegOpen.g.rts spec_DrawRegOpen.g.pms)) := fun k x => spec_DrawRegOpen.f k x.1
@[reducible] noncomputable def spec_DrawRegOpen.sm (k : Nat) : Sm := ⟨37, spec_DrawRegOpen.g.pms, spec_DrawRegOpen.g.rts, spec_DrawRegOpen.fk k⟩
noncomputable def spec_DrawRegOpen.E (k : Nat) : Env := ⟨tys, [spec_l1New.sm k, spec_l1Once.sm k, spec_l4Draw.sm k, spec_l4DrawNodes.sm k, spec_l7DrawSet.sm k, spec_l7Draw.sm k], [], [], []⟩
noncomputable def spec_DrawRegOpen.pts : List (Pt (denR (outTys spec_DrawRegOpen.g.rts spec_DrawRegOpen.g.pms))) := []
theorem spec_DrawRegOpen.hf (k : Nat) (a0 : (List Int)) : (spec_DrawRegOpen.f k a0 : Option (denR (outTys spec_DrawRegOpen.g.rts spec_DrawRegOpen.g.pms))) = evC (spec_DrawRegOpen.E k) (fun κ s => lhOf k κ s spec_DrawRegOpen.pts) b37 (OM.start spec_DrawRegOpen.g.pms 0 (a0, ())) (OM.fin spec_DrawRegOpen.g Try.f37.results.toList) := by kernel_rfl
theorem spec_DrawRegOpen.ok (k : Nat) : SmOk Try.prog (spec_DrawRegOpen.sm k) :=
  sm_ok mixed (E := spec_DrawRegOpen.E) (pts := spec_DrawRegOpen.pts) (fun k => ⟨⟨tysOk, by kernel_rfl⟩, forall_cons ⟨spec_l1New.ok k, e59⟩ (forall_cons ⟨spec_l1Once.ok k, e78⟩ (forall_cons ⟨spec_l4Draw.ok k, e60⟩ (forall_cons ⟨spec_l4DrawNodes.ok k, e82⟩ (forall_cons ⟨spec_l7DrawSet.ok k, e83⟩ (forall_cons ⟨spec_l7Draw.ok k, e74⟩ (forall_nil))))))⟩) (fun _ => rfl) (fun _ => rfl)
    ⟨Try.func37, by kernel_rfl, by kernel_rfl, by kernel_rfl, by kernel_rfl, by kernel_rfl, by kernel_rfl⟩ (forall_nil) (fun k x => spec_DrawRegOpen.hf k x.1) k
noncomputable def b50 : Code := Try.f50.body.getD .skip
theorem e50 : OM.Entry Try.prog 50 := ⟨_, Try.func50, by kernel_rfl, by kernel_rfl⟩
@[reducible] noncomputable def impl_within.g : Sig := ⟨[.fz (.int .i64), .fz (.int .i64), .fz (.int .i64)], [.v .bool .z], []⟩
@[reducible] noncomputable def impl_within.fk : Nat → denI impl_within.g.pms → Option (denR (outTys impl_within.g.rts impl_within.g.pms)) := fun k x => impl_within.f x.1 x.2.1 x.2.2.1
@[reducible] noncomputable def impl_within.sm (k : Nat) : Sm := ⟨50, impl_within.g.pms, impl_within.g.rts, impl_within.fk k⟩
noncomputable def impl_within.E (k : Nat) : Env := ⟨tys, [], [], [], []⟩
noncomputable def impl_within.pts : List (Pt (denR (outTys impl_within.g.rts impl_within.g.pms))) := []
theorem impl_within.hf (k : Nat) (a0 : Int) (a1 : Int) (a2 : Int) : (impl_within.f a0 a1 a2 : Option (denR (outTys impl_within.g.rts impl_within.g.pms))) = evC (impl_within.E k) (fun κ s => lhOf k κ s impl_within.pts) b50 (OM.start impl_within.g.pms 0 (a0, a1, a2, ())) (OM.fin impl_within.g Try.f50.results.toList) := by kernel_rfl
theorem impl_within.ok (k : Nat) : SmOk Try.prog (impl_within.sm k) :=
  sm_ok mixed (E := impl_within.E) (pts := impl_within.pts) (fun k => ⟨⟨tysOk, by kernel_rfl⟩, forall_nil⟩) (fun _ => rfl) (fun _ => rfl)
    ⟨Try.func50, by kernel_rfl, by kernel_rfl, by kernel_rfl, by kernel_rfl, by kernel_rfl, by kernel_rfl⟩ (forall_nil) (fun k x => impl_within.hf k x.1 x.2.1 x.2.2.1) k
noncomputable def b72 : Code := Try.f72.body.getD .skip
theorem e72 : OM.Entry Try.prog 72 := ⟨_, Try.func72, by kernel_rfl, by kernel_rfl⟩
@[reducible] noncomputable def impl_ConfigOk.g : Sig := ⟨[.fz tConfig], [.v .bool .z], []⟩
@[reducible] noncomputable def impl_ConfigOk.fk : Nat → denI impl_ConfigOk.g.pms → Option (denR (outTys impl_ConfigOk.g.rts impl_ConfigOk.g.pms)) := fun k x => impl_ConfigOk.f k x.1
@[reducible] noncomputable def impl_ConfigOk.sm (k : Nat) : Sm := ⟨72, impl_ConfigOk.g.pms, impl_ConfigOk.g.rts, impl_ConfigOk.fk k⟩
noncomputable def impl_ConfigOk.E (k : Nat) : Env := ⟨tys, [impl_within.sm k], [11], [], []⟩
@[reducible] noncomputable def impl_ConfigOk.s5 : List Slot := [.r 4 5 [] tConfig, .v 24 (.sl (.int .i64)) .z [] 0, .v 28 (.int .i64) .z [] 0, .v 32 (.int .i64) .z [] 0, .v 5 tConfig .z [] 0]
noncomputable def impl_ConfigOk.pts : List (Pt (denR (outTys impl_ConfigOk.g.rts impl_ConfigOk.g.pms))) := [⟨5, impl_ConfigOk.s5, fun k x => impl_ConfigOk.p5 k x.1 x.2.1 x.2.2.1 x.2.2.2.1⟩]
theorem impl_ConfigOk.h5 (k : Nat) (x0 : (List Int)) (x1 : Int) (x2 : Int) (x3 : Config) : (impl_ConfigOk.p5 (k + 1) x0 x1 x2 x3 : Option (denR (outTys impl_ConfigOk.g.rts impl_ConfigOk.g.pms))) = evAt (impl_ConfigOk.E k) (fun κ s => lhOf k κ s impl_ConfigOk.pts) 5 b72 (unproj impl_ConfigOk.s5 (x0, x1, x2, x3, ())) (OM.fin impl_ConfigOk.g Try.f72.results.toList) := by kernel_rfl
theorem impl_ConfigOk.hf (k : Nat) (a0 : Config) : (impl_ConfigOk.f k a0 : Option (denR (outTys impl_ConfigOk.g.rts impl_ConfigOk.g.pms))) = evC (impl_ConfigOk.E k) (fun κ s => lhOf k κ s impl_ConfigOk.pts) b72 (OM.start impl_ConfigOk.g.pms 0 (a0, ())) (OM.fin impl_ConfigOk.g Try.f72.results.toList) := by kernel_rfl
theorem impl_ConfigOk.ok (k : Nat) : SmOk Try.prog (impl_ConfigOk.sm k) :=
  sm_ok mixed (E := impl_ConfigOk.E) (pts := impl_ConfigOk.pts) (fun k => ⟨⟨tysOk, by kernel_rfl⟩, forall_cons ⟨impl_within.ok k, e50⟩ (forall_nil)⟩) (fun _ => rfl) (fun _ => rfl)
    ⟨Try.func72, by kernel_rfl, by kernel_rfl, by kernel_rfl, by kernel_rfl, by kernel_rfl, by kernel_rfl⟩ (forall_cons (fun x => ⟨rfl, fun k => impl_ConfigOk.h5 k x.1 x.2.1 x.2.2.1 x.2.2.2.1⟩) (forall_nil)) (fun k x => impl_ConfigOk.hf k x.1) k
noncomputable def b97 : Code := Try.f97.body.getD .skip
theorem e97 : OM.Entry Try.prog 97 := ⟨_, Try.func97, by kernel_rfl, by kernel_rfl⟩
@[reducible] noncomputable def impl_ascends.g : Sig := ⟨[.fz (.sl (.int .i64)), .fz (.int .i64)], [.v .bool .z], []⟩
@[reducible] noncomputable def impl_ascends.fk : Nat → denI impl_ascends.g.pms → Option (denR (outTys impl_ascends.g.rts impl_ascends.g.pms)) := fun k x => impl_ascends.f k x.1 x.2.1
@[reducible] noncomputable def impl_ascends.sm (k : Nat) : Sm := ⟨97, impl_ascends.g.pms, impl_ascends.g.rts, impl_ascends.fk k⟩
noncomputable def impl_ascends.E (k : Nat) : Env := ⟨tys, [impl_within.sm k], [13], [], []⟩
@[reducible] noncomputable def impl_ascends.s5 : List Slot := [.v 0 (.sl (.int .i64)) .z [] 0, .v 4 (.int .i64) .z [] 0, .v 28 (.sl (.int .i64)) .z [] 0, .v 32 (.int .i64) .z [] 0, .v 36 (.int .i64) .z [] 0]
noncomputable def impl_ascends.pts : List (Pt (denR (outTys impl_ascends.g.rts impl_ascends.g.pms))) := [⟨5, impl_ascends.s5, fun k x => impl_ascends.p5 k x.1 x.2.1 x.2.2.1 x.2.2.2.1 x.2.2.2.2.1⟩]
theorem impl_ascends.h5 (k : Nat) (x0 : (List Int)) (x1 : Int) (x2 : (List Int)) (x3 : Int) (x4 : Int) : (impl_ascends.p5 (k + 1) x0 x1 x2 x3 x4 : Option (denR (outTys impl_ascends.g.rts impl_ascends.g.pms))) = evAt (impl_ascends.E k) (fun κ s => lhOf k κ s impl_ascends.pts) 5 b97 (unproj impl_ascends.s5 (x0, x1, x2, x3, x4, ())) (OM.fin impl_ascends.g Try.f97.results.toList) := by kernel_rfl
theorem impl_ascends.hf (k : Nat) (a0 : (List Int)) (a1 : Int) : (impl_ascends.f k a0 a1 : Option (denR (outTys impl_ascends.g.rts impl_ascends.g.pms))) = evC (impl_ascends.E k) (fun κ s => lhOf k κ s impl_ascends.pts) b97 (OM.start impl_ascends.g.pms 0 (a0, a1, ())) (OM.fin impl_ascends.g Try.f97.results.toList) := by kernel_rfl
theorem impl_ascends.ok (k : Nat) : SmOk Try.prog (impl_ascends.sm k) :=
  sm_ok mixed (E := impl_ascends.E) (pts := impl_ascends.pts) (fun k => ⟨⟨tysOk, by kernel_rfl⟩, forall_cons ⟨impl_within.ok k, e50⟩ (forall_nil)⟩) (fun _ => rfl) (fun _ => rfl)
    ⟨Try.func97, by kernel_rfl, by kernel_rfl, by kernel_rfl, by kernel_rfl, by kernel_rfl, by kernel_rfl⟩ (forall_cons (fun x => ⟨rfl, fun k => impl_ascends.h5 k x.1 x.2.1 x.2.2.1 x.2.2.2.1 x.2.2.2.2.1⟩) (forall_nil)) (fun k x => impl_ascends.hf k x.1 x.2.1) k
noncomputable def b69 : Code := Try.f69.body.getD .skip
theorem e69 : OM.Entry Try.prog 69 := ⟨_, Try.func69, by kernel_rfl, by kernel_rfl⟩
@[reducible] noncomputable def impl_NodesOk.g : Sig := ⟨[.fz tConfig, .fz (.sl (.int .i64))], [.v .bool .z], []⟩
@[reducible] noncomputable def impl_NodesOk.fk : Nat → denI impl_NodesOk.g.pms → Option (denR (outTys impl_NodesOk.g.rts impl_NodesOk.g.pms)) := fun k x => impl_NodesOk.f k x.1 x.2.1
@[reducible] noncomputable def impl_NodesOk.sm (k : Nat) : Sm := ⟨69, impl_NodesOk.g.pms, impl_NodesOk.g.rts, impl_NodesOk.fk k⟩
noncomputable def impl_NodesOk.E (k : Nat) : Env := ⟨tys, [impl_ConfigOk.sm k, impl_ascends.sm k], [], [], []⟩
noncomputable def impl_NodesOk.pts : List (Pt (denR (outTys impl_NodesOk.g.rts impl_NodesOk.g.pms))) := []
theorem impl_NodesOk.hf (k : Nat) (a0 : Config) (a1 : (List Int)) : (impl_NodesOk.f k a0 a1 : Option (denR (outTys impl_NodesOk.g.rts impl_NodesOk.g.pms))) = evC (impl_NodesOk.E k) (fun κ s => lhOf k κ s impl_NodesOk.pts) b69 (OM.start impl_NodesOk.g.pms 0 (a0, a1, ())) (OM.fin impl_NodesOk.g Try.f69.results.toList) := by kernel_rfl
theorem impl_NodesOk.ok (k : Nat) : SmOk Try.prog (impl_NodesOk.sm k) :=
  sm_ok mixed (E := impl_NodesOk.E) (pts := impl_NodesOk.pts) (fun k => ⟨⟨tysOk, by kernel_rfl⟩, forall_cons ⟨impl_ConfigOk.ok k, e72⟩ (forall_cons ⟨impl_ascends.ok k, e97⟩ (forall_nil))⟩) (fun _ => rfl) (fun _ => rfl)
    ⟨Try.func69, by kernel_rfl, by kernel_rfl, by kernel_rfl, by kernel_rfl, by kernel_rfl, by kernel_rfl⟩ (forall_nil) (fun k x => impl_NodesOk.hf k x.1 x.2.1) k
noncomputable def b110 : Code := Try.f110.body.getD .skip
theorem e110 : OM.Entry Try.prog 110 := ⟨_, Try.func110, by kernel_rfl, by kernel_rfl⟩
@[reducible] noncomputable def slices_Index_int_int.g : Sig := ⟨[.fz (.sl (.int .i64)), .fz (.int .i64)], [.v (.int .i64) .z], []⟩
@[reducible] noncomputable def slices_Index_int_int.fk : Nat → denI slices_Index_int_int.g.pms → Option (denR (outTys slices_Index_int_int.g.rts slices_Index_int_int.g.pms)) := fun k x => slices_Index_int_int.f k x.1 x.2.1
@[reducible] noncomputable def slices_Index_int_int.sm (k : Nat) : Sm := ⟨110, slices_Index_int_int.g.pms, slices_Index_int_int.g.rts, slices_Index_int_int.fk k⟩
noncomputable def slices_Index_int_int.E (k : Nat) : Env := ⟨tys, [], [], [], []⟩
@[reducible] noncomputable def slices_Index_int_int.s5 : List Slot := [.v 0 (.sl (.int .i64)) .z [] 0, .v 4 (.int .i64) .z [] 0, .v 28 (.int .i64) .z [] 0, .v 32 (.int .i64) .z [] 0]
noncomputable def slices_Index_int_int.pts : List (Pt (denR (outTys slices_Index_int_int.g.rts slices_Index_int_int.g.pms))) := [⟨5, slices_Index_int_int.s5, fun k x => slices_Index_int_int.p5 k x.1 x.2.1 x.2.2.1 x.2.2.2.1⟩]
theorem slices_Index_int_int.h5 (k : Nat) (x0 : (List Int)) (x1 : Int) (x2 : Int) (x3 : Int) : (slices_Index_int_int.p5 (k + 1) x0 x1 x2 x3 : Option (denR (outTys slices_Index_int_int.g.rts slices_Index_int_int.g.pms))) = evAt (slices_Index_int_int.E k) (fun κ s => lhOf k κ s slices_Index_int_int.pts) 5 b110 (unproj slices_Index_int_int.s5 (x0, x1, x2, x3, ())) (OM.fin slices_Index_int_int.g Try.f110.results.toList) := by kernel_rfl
theorem slices_Index_int_int.hf (k : Nat) (a0 : (List Int)) (a1 : Int) : (slices_Index_int_int.f k a0 a1 : Option (denR (outTys slices_Index_int_int.g.rts slices_Index_int_int.g.pms))) = evC (slices_Index_int_int.E k) (fun κ s => lhOf k κ s slices_Index_int_int.pts) b110 (OM.start slices_Index_int_int.g.pms 0 (a0, a1, ())) (OM.fin slices_Index_int_int.g Try.f110.results.toList) := by kernel_rfl
theorem slices_Index_int_int.ok (k : Nat) : SmOk Try.prog (slices_Index_int_int.sm k) :=
  sm_ok mixed (E := slices_Index_int_int.E) (pts := slices_Index_int_int.pts) (fun k => ⟨⟨tysOk, by kernel_rfl⟩, forall_nil⟩) (fun _ => rfl) (fun _ => rfl)
    ⟨Try.func110, by kernel_rfl, by kernel_rfl, by kernel_rfl, by kernel_rfl, by kernel_rfl, by kernel_rfl⟩ (forall_cons (fun x => ⟨rfl, fun k => slices_Index_int_int.h5 k x.1 x.2.1 x.2.2.1 x.2.2.2.1⟩) (forall_nil)) (fun k x => slices_Index_int_int.hf k x.1 x.2.1) k
noncomputable def b109 : Code := Try.f109.body.getD .skip
theorem e109 : OM.Entry Try.prog 109 := ⟨_, Try.func109, by kernel_rfl, by kernel_rfl⟩
@[reducible] noncomputable def slices_Contains_int_int.g : Sig := ⟨[.fz (.sl (.int .i64)), .fz (.int .i64)], [.v .bool .z], []⟩
@[reducible] noncomputable def slices_Contains_int_int.fk : Nat → denI slices_Contains_int_int.g.pms → Option (denR (outTys slices_Contains_int_int.g.rts slices_Contains_int_int.g.pms)) := fun k x => slices_Contains_int_int.f k x.1 x.2.1
@[reducible] noncomputable def slices_Contains_int_int.sm (k : Nat) : Sm := ⟨109, slices_Contains_int_int.g.pms, slices_Contains_int_int.g.rts, slices_Contains_int_int.fk k⟩
noncomputable def slices_Contains_int_int.E (k : Nat) : Env := ⟨tys, [slices_Index_int_int.sm k], [], [], []⟩
noncomputable def slices_Contains_int_int.pts : List (Pt (denR (outTys slices_Contains_int_int.g.rts slices_Contains_int_int.g.pms))) := []
theorem slices_Contains_int_int.hf (k : Nat) (a0 : (List Int)) (a1 : Int) : (slices_Contains_int_int.f k a0 a1 : Option (denR (outTys slices_Contains_int_int.g.rts slices_Contains_int_int.g.pms))) = evC (slices_Contains_int_int.E k) (fun κ s => lhOf k κ s slices_Contains_int_int.pts) b109 (OM.start slices_Contains_int_int.g.pms 0 (a0, a1, ())) (OM.fin slices_Contains_int_int.g Try.f109.results.toList) := by kernel_rfl
theorem slices_Contains_int_int.ok (k : Nat) : SmOk Try.prog (slices_Contains_int_int.sm k) :=
  sm_ok mixed (E := slices_Contains_int_int.E) (pts := slices_Contains_int_int.pts) (fun k => ⟨⟨tysOk, by kernel_rfl⟩, forall_cons ⟨slices_Index_int_int.ok k, e110⟩ (forall_nil)⟩) (fun _ => rfl) (fun _ => rfl)
    ⟨Try.func109, by kernel_rfl, by kernel_rfl, by kernel_rfl, by kernel_rfl, by kernel_rfl, by kernel_rfl⟩ (forall_nil) (fun k x => slices_Contains_int_int.hf k x.1 x.2.1) k
noncomputable def b98 : Code := Try.f98.body.getD .skip
theorem e98 : OM.Entry Try.prog 98 := ⟨_, Try.func98, by kernel_rfl, by kernel_rfl⟩
@[reducible] noncomputable def impl_SpanOf.g : Sig := ⟨[.fz tConfig, .fz (.sl (.int .i64))], [.v (.int .i64) .z], []⟩
@[reducible] noncomputable def impl_SpanOf.fk : Nat → denI impl_SpanOf.g.pms → Option (denR (outTys impl_SpanOf.g.rts impl_SpanOf.g.pms)) := fun k x => impl_SpanOf.f k x.1 x.2.1
@[reducible] noncomputable def impl_SpanOf.sm (k : Nat) : Sm := ⟨98, impl_SpanOf.g.pms, impl_SpanOf.g.rts, impl_SpanOf.fk k⟩
noncomputable def impl_SpanOf.E (k : Nat) : Env := ⟨tys, [impl_NodesOk.sm k, slices_Contains_int_int.sm k], [18, 32], [], []⟩
@[reducible] noncomputable def impl_SpanOf.s11 : List Slot := [.r 8 9 [] tConfig, .v 20 (.sl (.int .i64)) (.own .z) [] 0, .v 52 (.sl (.int .i64)) .z [] 0, .v 56 (.int .i64) .z [] 0, .v 60 (.int .i64) .z [] 0, .v 9 tConfig .z [] 0]
noncomputable def impl_SpanOf.pts : List (Pt (denR (outTys impl_SpanOf.g.rts impl_SpanOf.g.pms))) := [⟨11, impl_SpanOf.s11, fun k x => impl_SpanOf.p11 k x.1 x.2.1 x.2.2.1 x.2.2.2.1 x.2.2.2.2.1⟩]
theorem impl_SpanOf.h11 (k : Nat) (x0 : (List Int)) (x1 : (List Int)) (x2 : Int) (x3 : Int) (x4 : Config) : (impl_SpanOf.p11 (k + 1) x0 x1 x2 x3 x4 : Option (denR (outTys impl_SpanOf.g.rts impl_SpanOf.g.pms))) = evAt (impl_SpanOf.E k) (fun κ s => lhOf k κ s impl_SpanOf.pts) 11 b98 (unproj impl_SpanOf.s11 (x0, x1, x2, x3, x4, ())) (OM.fin impl_SpanOf.g Try.f98.results.toList) := by kernel_rfl
theorem impl_SpanOf.hf (k : Nat) (a0 : Config) (a1 : (List Int)) : (impl_SpanOf.f k a0 a1 : Option (denR (outTys impl_SpanOf.g.rts impl_SpanOf.g.pms))) = evC (impl_SpanOf.E k) (fun κ s => lhOf k κ s impl_SpanOf.pts) b98 (OM.start impl_SpanOf.g.pms 0 (a0, a1, ())) (OM.fin impl_SpanOf.g Try.f98.results.toList) := by kernel_rfl
theorem impl_SpanOf.ok (k : Nat) : SmOk Try.prog (impl_SpanOf.sm k) :=
  sm_ok mixed (E := impl_SpanOf.E) (pts := impl_SpanOf.pts) (fun k => ⟨⟨tysOk, by kernel_rfl⟩, forall_cons ⟨impl_NodesOk.ok k, e69⟩ (forall_cons ⟨slices_Contains_int_int.ok k, e109⟩ (forall_nil))⟩) (fun _ => rfl) (fun _ => rfl)
    ⟨Try.func98, by kernel_rfl, by kernel_rfl, by kernel_rfl, by kernel_rfl, by kernel_rfl, by kernel_rfl⟩ (forall_cons (fun x => ⟨rfl, fun k => impl_SpanOf.h11 k x.1 x.2.1 x.2.2.1 x.2.2.2.1 x.2.2.2.2.1⟩) (forall_nil)) (fun k x => impl_SpanOf.hf k x.1 x.2.1) k
noncomputable def b70 : Code := Try.f70.body.getD .skip
theorem e70 : OM.Entry Try.prog 70 := ⟨_, Try.func70, by kernel_rfl, by kernel_rfl⟩
@[reducible] noncomputable def impl_Holds.g : Sig := ⟨[.fz tConfig, .fz (.sl (.int .i64))], [.v .bool .z], []⟩
@[reducible] noncomputable def impl_Holds.fk : Nat → denI impl_Holds.g.pms → Option (denR (outTys impl_Holds.g.rts impl_Holds.g.pms)) := fun k x => impl_Holds.f k x.1 x.2.1
@[reducible] noncomputable def impl_Holds.sm (k : Nat) : Sm := ⟨70, impl_Holds.g.pms, impl_Holds.g.rts, impl_Holds.fk k⟩
noncomputable def impl_Holds.E (k : Nat) : Env := ⟨tys, [impl_NodesOk.sm k, impl_SpanOf.sm k], [], [], []⟩
noncomputable def impl_Holds.pts : List (Pt (denR (outTys impl_Holds.g.rts impl_Holds.g.pms))) := []
theorem impl_Holds.hf (k : Nat) (a0 : Config) (a1 : (List Int)) : (impl_Holds.f k a0 a1 : Option (denR (outTys impl_Holds.g.rts impl_Holds.g.pms))) = evC (impl_Holds.E k) (fun κ s => lhOf k κ s impl_Holds.pts) b70 (OM.start impl_Holds.g.pms 0 (a0, a1, ())) (OM.fin impl_Holds.g Try.f70.results.toList) := by kernel_rfl
theorem impl_Holds.ok (k : Nat) : SmOk Try.prog (impl_Holds.sm k) :=
  sm_ok mixed (E := impl_Holds.E) (pts := impl_Holds.pts) (fun k => ⟨⟨tysOk, by kernel_rfl⟩, forall_cons ⟨impl_NodesOk.ok k, e69⟩ (forall_cons ⟨impl_SpanOf.ok k, e98⟩ (forall_nil))⟩) (fun _ => rfl) (fun _ => rfl)
    ⟨Try.func70, by kernel_rfl, by kernel_rfl, by kernel_rfl, by kernel_rfl, by kernel_rfl, by kernel_rfl⟩ (forall_nil) (fun k x => impl_Holds.hf k x.1 x.2.1) k
noncomputable def b76 : Code := Try.f76.body.getD .skip
theorem e76 : OM.Entry Try.prog 76 := ⟨_, Try.func76, by kernel_rfl, by kernel_rfl⟩
@[reducible] noncomputable def impl_eraOk.g : Sig := ⟨[.fz tConfig, .fz tEra], [.v .bool .z], []⟩
@[reducible] noncomputable def impl_eraOk.fk : Nat → denI impl_eraOk.g.pms → Option (denR (outTys impl_eraOk.g.rts impl_eraOk.g.pms)) := fun k x => impl_eraOk.f k x.1 x.2.1
@[reducible] noncomputable def impl_eraOk.sm (k : Nat) : Sm := ⟨76, impl_eraOk.g.pms, impl_eraOk.g.rts, impl_eraOk.fk k⟩
noncomputable def impl_eraOk.E (k : Nat) : Env := ⟨tys, [impl_within.sm k, impl_Holds.sm k], [], [], []⟩
noncomputable def impl_eraOk.pts : List (Pt (denR (outTys impl_eraOk.g.rts impl_eraOk.g.pms))) := []
theorem impl_eraOk.hf (k : Nat) (a0 : Config) (a1 : Era) : (impl_eraOk.f k a0 a1 : Option (denR (outTys impl_eraOk.g.rts impl_eraOk.g.pms))) = evC (impl_eraOk.E k) (fun κ s => lhOf k κ s impl_eraOk.pts) b76 (OM.start impl_eraOk.g.pms 0 (a0, a1, ())) (OM.fin impl_eraOk.g Try.f76.results.toList) := by kernel_rfl
theorem impl_eraOk.ok (k : Nat) : SmOk Try.prog (impl_eraOk.sm k) :=
  sm_ok mixed (E := impl_eraOk.E) (pts := impl_eraOk.pts) (fun k => ⟨⟨tysOk, by kernel_rfl⟩, forall_cons ⟨impl_within.ok k, e50⟩ (forall_cons ⟨impl_Holds.ok k, e70⟩ (forall_nil))⟩) (fun _ => rfl) (fun _ => rfl)
    ⟨Try.func76, by kernel_rfl, by kernel_rfl, by kernel_rfl, by kernel_rfl, by kernel_rfl, by kernel_rfl⟩ (forall_nil) (fun k x => impl_eraOk.hf k x.1 x.2.1) k
noncomputable def b73 : Code := Try.f73.body.getD .skip
theorem e73 : OM.Entry Try.prog 73 := ⟨_, Try.func73, by kernel_rfl, by kernel_rfl⟩
@[reducible] noncomputable def impl_isEpoch.g : Sig := ⟨[.fz (.int .i64)], [.v .bool .z], []⟩
@[reducible] noncomputable def impl_isEpoch.fk : Nat → denI impl_isEpoch.g.pms → Option (denR (outTys impl_isEpoch.g.rts impl_isEpoch.g.pms)) := fun k x => impl_isEpoch.f x.1
@[reducible] noncomputable def impl_isEpoch.sm (k : Nat) : Sm := ⟨73, impl_isEpoch.g.pms, impl_isEpoch.g.rts, impl_isEpoch.fk k⟩
noncomputable def impl_isEpoch.E (k : Nat) : Env := ⟨tys, [impl_within.sm k], [], [], []⟩
noncomputable def impl_isEpoch.pts : List (Pt (denR (outTys impl_isEpoch.g.rts impl_isEpoch.g.pms))) := []
theorem impl_isEpoch.hf (k : Nat) (a0 : Int) : (impl_isEpoch.f a0 : Option (denR (outTys impl_isEpoch.g.rts impl_isEpoch.g.pms))) = evC (impl_isEpoch.E k) (fun κ s => lhOf k κ s impl_isEpoch.pts) b73 (OM.start impl_isEpoch.g.pms 0 (a0, ())) (OM.fin impl_isEpoch.g Try.f73.results.toList) := by kernel_rfl
theorem impl_isEpoch.ok (k : Nat) : SmOk Try.prog (impl_isEpoch.sm k) :=
  sm_ok mixed (E := impl_isEpoch.E) (pts := impl_isEpoch.pts) (fun k => ⟨⟨tysOk, by kernel_rfl⟩, forall_cons ⟨impl_within.ok k, e50⟩ (forall_nil)⟩) (fun _ => rfl) (fun _ => rfl)
    ⟨Try.func73, by kernel_rfl, by kernel_rfl, by kernel_rfl, by kernel_rfl, by kernel_rfl, by kernel_rfl⟩ (forall_nil) (fun k x => impl_isEpoch.hf k x.1) k
noncomputable def b103 : Code := Try.f103.body.getD .skip
theorem e103 : OM.Entry Try.prog 103 := ⟨_, Try.func103, by kernel_rfl, by kernel_rfl⟩
@[reducible] noncomputable def impl_isOff.g : Sig := ⟨[.fz (.int .i64)], [.v .bool .z], []⟩
@[reducible] noncomputable def impl_isOff.fk : Nat → denI impl_isOff.g.pms → Option (denR (outTys impl_isOff.g.rts impl_isOff.g.pms)) := fun k x => impl_isOff.f x.1
@[reducible] noncomputable def impl_isOff.sm (k : Nat) : Sm := ⟨103, impl_isOff.g.pms, impl_isOff.g.rts, impl_isOff.fk k⟩
noncomputable def impl_isOff.E (k : Nat) : Env := ⟨tys, [impl_within.sm k], [], [], []⟩
noncomputable def impl_isOff.pts : List (Pt (denR (outTys impl_isOff.g.rts impl_isOff.g.pms))) := []
theorem impl_isOff.hf (k : Nat) (a0 : Int) : (impl_isOff.f a0 : Option (denR (outTys impl_isOff.g.rts impl_isOff.g.pms))) = evC (impl_isOff.E k) (fun κ s => lhOf k κ s impl_isOff.pts) b103 (OM.start impl_isOff.g.pms 0 (a0, ())) (OM.fin impl_isOff.g Try.f103.results.toList) := by kernel_rfl
theorem impl_isOff.ok (k : Nat) : SmOk Try.prog (impl_isOff.sm k) :=
  sm_ok mixed (E := impl_isOff.E) (pts := impl_isOff.pts) (fun k => ⟨⟨tysOk, by kernel_rfl⟩, forall_cons ⟨impl_within.ok k, e50⟩ (forall_nil)⟩) (fun _ => rfl) (fun _ => rfl)
    ⟨Try.func103, by kernel_rfl, by kernel_rfl, by kernel_rfl, by kernel_rfl, by kernel_rfl, by kernel_rfl⟩ (forall_nil) (fun k x => impl_isOff.hf k x.1) k
noncomputable def b87 : Code := Try.f87.body.getD .skip
theorem e87 : OM.Entry Try.prog 87 := ⟨_, Try.func87, by kernel_rfl, by kernel_rfl⟩
@[reducible] noncomputable def impl_PlaceOk.g : Sig := ⟨[.fz (.int .i64)], [.v .bool .z], []⟩
@[reducible] noncomputable def impl_PlaceOk.fk : Nat → denI impl_PlaceOk.g.pms → Option (denR (outTys impl_PlaceOk.g.rts impl_PlaceOk.g.pms)) := fun k x => impl_PlaceOk.f x.1
@[reducible] noncomputable def impl_PlaceOk.sm (k : Nat) : Sm := ⟨87, impl_PlaceOk.g.pms, impl_PlaceOk.g.rts, impl_PlaceOk.fk k⟩
noncomputable def impl_PlaceOk.E (k : Nat) : Env := ⟨tys, [impl_isEpoch.sm k, impl_isOff.sm k], [], [], []⟩
noncomputable def impl_PlaceOk.pts : List (Pt (denR (outTys impl_PlaceOk.g.rts impl_PlaceOk.g.pms))) := []
theorem impl_PlaceOk.hf (k : Nat) (a0 : Int) : (impl_PlaceOk.f a0 : Option (denR (outTys impl_PlaceOk.g.rts impl_PlaceOk.g.pms))) = evC (impl_PlaceOk.E k) (fun κ s => lhOf k κ s impl_PlaceOk.pts) b87 (OM.start impl_PlaceOk.g.pms 0 (a0, ())) (OM.fin impl_PlaceOk.g Try.f87.results.toList) := by kernel_rfl
theorem impl_PlaceOk.ok (k : Nat) : SmOk Try.prog (impl_PlaceOk.sm k) :=
  sm_ok mixed (E := impl_PlaceOk.E) (pts := impl_PlaceOk.pts) (fun k => ⟨⟨tysOk, by kernel_rfl⟩, forall_cons ⟨impl_isEpoch.ok k, e73⟩ (forall_cons ⟨impl_isOff.ok k, e103⟩ (forall_nil))⟩) (fun _ => rfl) (fun _ => rfl)
    ⟨Try.func87, by kernel_rfl, by kernel_rfl, by kernel_rfl, by kernel_rfl, by kernel_rfl, by kernel_rfl⟩ (forall_nil) (fun k x => impl_PlaceOk.hf k x.1) k
noncomputable def b51 : Code := Try.f51.body.getD .skip
theorem e51 : OM.Entry Try.prog 51 := ⟨_, Try.func51, by kernel_rfl, by kernel_rfl⟩
@[reducible] noncomputable def impl_EpochOf.g : Sig := ⟨[.fz (.int .i64)], [.v (.int .i64) .z], []⟩
@[reducible] noncomputable def impl_EpochOf.fk : Nat → denI impl_EpochOf.g.pms → Option (denR (outTys impl_EpochOf.g.rts impl_EpochOf.g.pms)) := fun k x => impl_EpochOf.f x.1
@[reducible] noncomputable def impl_EpochOf.sm (k : Nat) : Sm := ⟨51, impl_EpochOf.g.pms, impl_EpochOf.g.rts, impl_EpochOf.fk k⟩
noncomputable def impl_EpochOf.E (k : Nat) : Env := ⟨tys, [impl_PlaceOk.sm k], [], [], []⟩
noncomputable def impl_EpochOf.pts : List (Pt (denR (outTys impl_EpochOf.g.rts impl_EpochOf.g.pms))) := []
theorem impl_EpochOf.hf (k : Nat) (a0 : Int) : (impl_EpochOf.f a0 : Option (denR (outTys impl_EpochOf.g.rts impl_EpochOf.g.pms))) = evC (impl_EpochOf.E k) (fun κ s => lhOf k κ s impl_EpochOf.pts) b51 (OM.start impl_EpochOf.g.pms 0 (a0, ())) (OM.fin impl_EpochOf.g Try.f51.results.toList) := by kernel_rfl
theorem impl_EpochOf.ok (k : Nat) : SmOk Try.prog (impl_EpochOf.sm k) :=
  sm_ok mixed (E := impl_EpochOf.E) (pts := impl_EpochOf.pts) (fun k => ⟨⟨tysOk, by kernel_rfl⟩, forall_cons ⟨impl_PlaceOk.ok k, e87⟩ (forall_nil)⟩) (fun _ => rfl) (fun _ => rfl)
    ⟨Try.func51, by kernel_rfl, by kernel_rfl, by kernel_rfl, by kernel_rfl, by kernel_rfl, by kernel_rfl⟩ (forall_nil) (fun k x => impl_EpochOf.hf k x.1) k
noncomputable def b30 : Code := Try.f30.body.getD .skip
theorem e30 : OM.Entry Try.prog 30 := ⟨_, Try.func30, by kernel_rfl, by kernel_rfl⟩
@[reducible] noncomputable def impl_RegOk.g : Sig := ⟨[.fz tConfig, .fz tRegister], [.v .bool .z], []⟩
@[reducible] noncomputable def impl_RegOk.fk : Nat → denI impl_RegOk.g.pms → Option (denR (outTys impl_RegOk.g.rts impl_RegOk.g.pms)) := fun k x => impl_RegOk.f k x.1 x.2.1
@[reducible] noncomputable def impl_RegOk.sm (k : Nat) : Sm := ⟨30, impl_RegOk.g.pms, impl_RegOk.g.rts, impl_RegOk.fk k⟩
noncomputable def impl_RegOk.E (k : Nat) : Env := ⟨tys, [impl_within.sm k, impl_ConfigOk.sm k, impl_eraOk.sm k, impl_EpochOf.sm k], [15], [8], []⟩
@[reducible] noncomputable def impl_RegOk.s5 : List Slot := [.r 8 9 [] tConfig, .r 12 13 [] tRegister, .v 36 (.sl tEra) .z [] 0, .v 40 (.int .i64) .z [] 0, .v 44 (.int .i64) .z [] 0, .v 9 tConfig .z [] 0, .v 13 tRegister .z [] 0]
@[reducible] noncomputable def impl_RegOk.s16 : List Slot := [.r 8 9 [] tConfig, .r 12 13 [] tRegister, .v 28 .bool .z [] 0, .v 9 tConfig .z [] 0, .v 13 tRegister .z [] 0]
noncomputable def impl_RegOk.pts : List (Pt (denR (outTys impl_RegOk.g.rts impl_RegOk.g.pms))) := [⟨5, impl_RegOk.s5, fun k x => impl_RegOk.p5 k x.1 x.2.1 x.2.2.1 x.2.2.2.1 x.2.2.2.2.1⟩, ⟨16, impl_RegOk.s16, fun k x => impl_RegOk.p16 k x.1 x.2.1 x.2.2.1⟩]
theorem impl_RegOk.h5 (k : Nat) (x0 : (List Era)) (x1 : Int) (x2 : Int) (x3 : Config) (x4 : Register) : (impl_RegOk.p5 (k + 1) x0 x1 x2 x3 x4 : Option (denR (outTys impl_RegOk.g.rts impl_RegOk.g.pms))) = evAt (impl_RegOk.E k) (fun κ s => lhOf k κ s impl_RegOk.pts) 5 b30 (unproj impl_RegOk.s5 (x0, x1, x2, x3, x4, ())) (OM.fin impl_RegOk.g Try.f30.results.toList) := by kernel_rfl
theorem impl_RegOk.h16 (k : Nat) (x0 : Bool) (x1 : Config) (x2 : Register) : (impl_RegOk.p16 (k + 1) x0 x1 x2 : Option (denR (outTys impl_RegOk.g.rts impl_RegOk.g.pms))) = evAt (impl_RegOk.E k) (fun κ s => lhOf k κ s impl_RegOk.pts) 16 b30 (unproj impl_RegOk.s16 (x0, x1, x2, ())) (OM.fin impl_RegOk.g Try.f30.results.toList) := by kernel_rfl
theorem impl_RegOk.hf (k : Nat) (a0 : Config) (a1 : Register) : (impl_RegOk.f k a0 a1 : Option (denR (outTys impl_RegOk.g.rts impl_RegOk.g.pms))) = evC (impl_RegOk.E k) (fun κ s => lhOf k κ s impl_RegOk.pts) b30 (OM.start impl_RegOk.g.pms 0 (a0, a1, ())) (OM.fin impl_RegOk.g Try.f30.results.toList) := by kernel_rfl
theorem impl_RegOk.ok (k : Nat) : SmOk Try.prog (impl_RegOk.sm k) :=
  sm_ok mixed (E := impl_RegOk.E) (pts := impl_RegOk.pts) (fun k => ⟨⟨tysOk, by kernel_rfl⟩, forall_cons ⟨impl_within.ok k, e50⟩ (forall_cons ⟨impl_ConfigOk.ok k, e72⟩ (forall_cons ⟨impl_eraOk.ok k, e76⟩ (forall_cons ⟨impl_EpochOf.ok k, e51⟩ (forall_nil))))⟩) (fun _ => rfl) (fun _ => rfl)
    ⟨Try.func30, by kernel_rfl, by kernel_rfl, by kernel_rfl, by kernel_rfl, by kernel_rfl, by kernel_rfl⟩ (forall_cons (fun x => ⟨rfl, fun k => impl_RegOk.h5 k x.1 x.2.1 x.2.2.1 x.2.2.2.1 x.2.2.2.2.1⟩) (forall_cons (fun x => ⟨rfl, fun k => impl_RegOk.h16 k x.1 x.2.1 x.2.2.1⟩) (forall_nil))) (fun k x => impl_RegOk.hf k x.1 x.2.1) k
noncomputable def b84 : Code := Try.f84.body.getD .skip
theorem e84 : OM.Entry Try.prog 84 := ⟨_, Try.func84, by kernel_rfl, by kernel_rfl⟩
@[reducible] noncomputable def impl_copyInts.g : Sig := ⟨[.fz (.sl (.int .i64))], [.v (.sl (.int .i64)) (.own .z)], []⟩
@[reducible] noncomputable def impl_copyInts.fk : Nat → denI impl_copyInts.g.pms → Option (denR (outTys impl_copyInts.g.rts impl_copyInts.g.pms)) := fun k x => impl_copyInts.f x.1
@[reducible] noncomputable def impl_copyInts.sm (k : Nat) : Sm := ⟨84, impl_copyInts.g.pms, impl_copyInts.g.rts, impl_copyInts.fk k⟩
noncomputable def impl_copyInts.E (k : Nat) : Env := ⟨tys, [], [4], [], []⟩
noncomputable def impl_copyInts.pts : List (Pt (denR (outTys impl_copyInts.g.rts impl_copyInts.g.pms))) := []
theorem impl_copyInts.hf (k : Nat) (a0 : (List Int)) : (impl_copyInts.f a0 : Option (denR (outTys impl_copyInts.g.rts impl_copyInts.g.pms))) = evC (impl_copyInts.E k) (fun κ s => lhOf k κ s impl_copyInts.pts) b84 (OM.start impl_copyInts.g.pms 0 (a0, ())) (OM.fin impl_copyInts.g Try.f84.results.toList) := by kernel_rfl
theorem impl_copyInts.ok (k : Nat) : SmOk Try.prog (impl_copyInts.sm k) :=
  sm_ok mixed (E := impl_copyInts.E) (pts := impl_copyInts.pts) (fun k => ⟨⟨tysOk, by kernel_rfl⟩, forall_nil⟩) (fun _ => rfl) (fun _ => rfl)
    ⟨Try.func84, by kernel_rfl, by kernel_rfl, by kernel_rfl, by kernel_rfl, by kernel_rfl, by kernel_rfl⟩ (forall_nil) (fun k x => impl_copyInts.hf k x.1) k
noncomputable def b53 : Code := Try.f53.body.getD .skip
theorem e53 : OM.Entry Try.prog 53 := ⟨_, Try.func53, by kernel_rfl, by kernel_rfl⟩
@[reducible] noncomputable def impl_copyRegister.g : Sig := ⟨[.fz tRegister], [.v tRegister (.two (.own (.two (.own .z) .z)) .z)], []⟩
@[reducible] noncomputable def impl_copyRegister.fk : Nat → denI impl_copyRegister.g.pms → Option (denR (outTys impl_copyRegister.g.rts impl_copyRegister.g.pms)) := fun k x => impl_copyRegister.f k x.1
@[reducible] noncomputable def impl_copyRegister.sm (k : Nat) : Sm := ⟨53, impl_copyRegister.g.pms, impl_copyRegister.g.rts, impl_copyRegister.fk k⟩
noncomputable def impl_copyRegister.E (k : Nat) : Env := ⟨tys, [impl_copyInts.sm k], [15, 22], [], []⟩
@[reducible] noncomputable def impl_copyRegister.s7 : List Slot := [.r 8 9 [] tRegister, .r 12 13 [] tRegister, .v 40 (.sl tEra) .z [] 0, .v 44 (.int .i64) .z [] 0, .v 48 (.int .i64) .z [] 0, .v 9 tRegister (.two (.own .a) .z) [] 0, .v 13 tRegister (.two (.own (.two (.own .z) .z)) .z) [] 0]
noncomputable def impl_copyRegister.pts : List (Pt (denR (outTys impl_copyRegister.g.rts impl_copyRegister.g.pms))) := [⟨7, impl_copyRegister.s7, fun k x => impl_copyRegister.p7 k x.1 x.2.1 x.2.2.1 x.2.2.2.1 x.2.2.2.2.1⟩]
theorem impl_copyRegister.h7 (k : Nat) (x0 : (List Era)) (x1 : Int) (x2 : Int) (x3 : Register) (x4 : Register) : (impl_copyRegister.p7 (k + 1) x0 x1 x2 x3 x4 : Option (denR (outTys impl_copyRegister.g.rts impl_copyRegister.g.pms))) = evAt (impl_copyRegister.E k) (fun κ s => lhOf k κ s impl_copyRegister.pts) 7 b53 (unproj impl_copyRegister.s7 (x0, x1, x2, x3, x4, ())) (OM.fin impl_copyRegister.g Try.f53.results.toList) := by kernel_rfl
theorem impl_copyRegister.hf (k : Nat) (a0 : Register) : (impl_copyRegister.f k a0 : Option (denR (outTys impl_copyRegister.g.rts impl_copyRegister.g.pms))) = evC (impl_copyRegister.E k) (fun κ s => lhOf k κ s impl_copyRegister.pts) b53 (OM.start impl_copyRegister.g.pms 0 (a0, ())) (OM.fin impl_copyRegister.g Try.f53.results.toList) := by kernel_rfl
theorem impl_copyRegister.ok (k : Nat) : SmOk Try.prog (impl_copyRegister.sm k) :=
  sm_ok mixed (E := impl_copyRegister.E) (pts := impl_copyRegister.pts) (fun k => ⟨⟨tysOk, by kernel_rfl⟩, forall_cons ⟨impl_copyInts.ok k, e84⟩ (forall_nil)⟩) (fun _ => rfl) (fun _ => rfl)
    ⟨Try.func53, by kernel_rfl, by kernel_rfl, by kernel_rfl, by kernel_rfl, by kernel_rfl, by kernel_rfl⟩ (forall_cons (fun x => ⟨rfl, fun k => impl_copyRegister.h7 k x.1 x.2.1 x.2.2.1 x.2.2.2.1 x.2.2.2.2.1⟩) (forall_nil)) (fun k x => impl_copyRegister.hf k x.1) k
noncomputable def b52 : Code := Try.f52.body.getD .skip
theorem e52 : OM.Entry Try.prog 52 := ⟨_, Try.func52, by kernel_rfl, by kernel_rfl⟩
@[reducible] noncomputable def impl_regAsWas.g : Sig := ⟨[.fz tConfig, .fz tRegister], [.v tRegister (.two (.own (.two (.own .z) .z)) .z)], []⟩
@[reducible] noncomputable def impl_regAsWas.fk : Nat → denI impl_regAsWas.g.pms → Option (denR (outTys impl_regAsWas.g.rts impl_regAsWas.g.pms)) := fun k x => impl_regAsWas.f k x.1 x.2.1
@[reducible] noncomputable def impl_regAsWas.sm (k : Nat) : Sm := ⟨52, impl_regAsWas.g.pms, impl_regAsWas.g.rts, impl_regAsWas.fk k⟩
noncomputable def impl_regAsWas.E (k : Nat) : Env := ⟨tys, [impl_RegOk.sm k, impl_copyRegister.sm k], [], [], []⟩
noncomputable def impl_regAsWas.pts : List (Pt (denR (outTys impl_regAsWas.g.rts impl_regAsWas.g.pms))) := []
theorem impl_regAsWas.hf (k : Nat) (a0 : Config) (a1 : Register) : (impl_regAsWas.f k a0 a1 : Option (denR (outTys impl_regAsWas.g.rts impl_regAsWas.g.pms))) = evC (impl_regAsWas.E k) (fun κ s => lhOf k κ s impl_regAsWas.pts) b52 (OM.start impl_regAsWas.g.pms 0 (a0, a1, ())) (OM.fin impl_regAsWas.g Try.f52.results.toList) := by kernel_rfl
theorem impl_regAsWas.ok (k : Nat) : SmOk Try.prog (impl_regAsWas.sm k) :=
  sm_ok mixed (E := impl_regAsWas.E) (pts := impl_regAsWas.pts) (fun k => ⟨⟨tysOk, by kernel_rfl⟩, forall_cons ⟨impl_RegOk.ok k, e30⟩ (forall_cons ⟨impl_copyRegister.ok k, e53⟩ (forall_nil))⟩) (fun _ => rfl) (fun _ => rfl)
    ⟨Try.func52, by kernel_rfl, by kernel_rfl, by kernel_rfl, by kernel_rfl, by kernel_rfl, by kernel_rfl⟩ (forall_nil) (fun k x => impl_regAsWas.hf k x.1 x.2.1) k
noncomputable def b38 : Code := Try.f38.body.getD .skip
theorem e38 : OM.Entry Try.prog 38 := ⟨_, Try.func38, by kernel_rfl, by kernel_rfl⟩
@[reducible] noncomputable def impl_RegOpen.g : Sig := ⟨[.fz tConfig, .fz tRegister, .fz (.sl (.int .i64))], [.v tRegister (.two (.own (.two (.own .z) .z)) .z), .v (.int .i64) .z, .v .bool .z], []⟩
@[reducible] noncomputable def impl_RegOpen.fk : Nat → denI impl_RegOpen.g.pms → Option (denR (outTys impl_RegOpen.g.rts impl_RegOpen.g.pms)) := fun k x => impl_RegOpen.f k x.1 x.2.1 x.2.2.1
@[reducible] noncomputable def impl_RegOpen.sm (k : Nat) : Sm := ⟨38, impl_RegOpen.g.pms, impl_RegOpen.g.rts, impl_RegOpen.fk k⟩
noncomputable def impl_RegOpen.E (k : Nat) : Env := ⟨tys, [impl_Holds.sm k, impl_RegOk.sm k, impl_copyInts.sm k, impl_copyRegister.sm k, impl_regAsWas.sm k], [], [], []⟩
noncomputable def impl_RegOpen.pts : List (Pt (denR (outTys impl_RegOpen.g.rts impl_RegOpen.g.pms))) := []
theorem impl_RegOpen.hf (k : Nat) (a0 : Config) (a1 : Register) (a2 : (List Int)) : (impl_RegOpen.f k a0 a1 a2 : Option (denR (outTys impl_RegOpen.g.rts impl_RegOpen.g.pms))) = evC (impl_RegOpen.E k) (fun κ s => lhOf k κ s impl_RegOpen.pts) b38 (OM.start impl_RegOpen.g.pms 0 (a0, a1, a2, ())) (OM.fin impl_RegOpen.g Try.f38.results.toList) := by kernel_rfl
theorem impl_RegOpen.ok (k : Nat) : SmOk Try.prog (impl_RegOpen.sm k) :=
  sm_ok mixed (E := impl_RegOpen.E) (pts := impl_RegOpen.pts) (fun k => ⟨⟨tysOk, by kernel_rfl⟩, forall_cons ⟨impl_Holds.ok k, e70⟩ (forall_cons ⟨impl_RegOk.ok k, e30⟩ (forall_cons ⟨impl_copyInts.ok k, e84⟩ (forall_cons ⟨impl_copyRegister.ok k, e53⟩ (forall_cons ⟨impl_regAsWas.ok k, e52⟩ (forall_nil)))))⟩) (fun _ => rfl) (fun _ => rfl)
    ⟨Try.func38, by kernel_rfl, by kernel_rfl, by kernel_rfl, by kernel_rfl, by kernel_rfl, by kernel_rfl⟩ (forall_nil) (fun k x => impl_RegOpen.hf k x.1 x.2.1 x.2.2.1) k
noncomputable def b40 : Code := Try.f40.body.getD .skip
theorem e40 : OM.Entry Try.prog 40 := ⟨_, Try.func40, by kernel_rfl, by kernel_rfl⟩
@[reducible] noncomputable def impl_EraNodes.g : Sig := ⟨[.fz tRegister, .fz (.int .i64)], [.v (.sl (.int .i64)) (.own .z)], []⟩
@[reducible] noncomputable def impl_EraNodes.fk : Nat → denI impl_EraNodes.g.pms → Option (denR (outTys impl_EraNodes.g.rts impl_EraNodes.g.pms)) := fun k x => impl_EraNodes.f x.1 x.2.1
@[reducible] noncomputable def impl_EraNodes.sm (k : Nat) : Sm := ⟨40, impl_EraNodes.g.pms, impl_EraNodes.g.rts, impl_EraNodes.fk k⟩
noncomputable def impl_EraNodes.E (k : Nat) : Env := ⟨tys, [impl_within.sm k, impl_copyInts.sm k], [], [], []⟩
noncomputable def impl_EraNodes.pts : List (Pt (denR (outTys impl_EraNodes.g.rts impl_EraNodes.g.pms))) := []
theorem impl_EraNodes.hf (k : Nat) (a0 : Register) (a1 : Int) : (impl_EraNodes.f a0 a1 : Option (denR (outTys impl_EraNodes.g.rts impl_EraNodes.g.pms))) = evC (impl_EraNodes.E k) (fun κ s => lhOf k κ s impl_EraNodes.pts) b40 (OM.start impl_EraNodes.g.pms 0 (a0, a1, ())) (OM.fin impl_EraNodes.g Try.f40.results.toList) := by kernel_rfl
theorem impl_EraNodes.ok (k : Nat) : SmOk Try.prog (impl_EraNodes.sm k) :=
  sm_ok mixed (E := impl_EraNodes.E) (pts := impl_EraNodes.pts) (fun k => ⟨⟨tysOk, by kernel_rfl⟩, forall_cons ⟨impl_within.ok k, e50⟩ (forall_cons ⟨impl_copyInts.ok k, e84⟩ (forall_nil))⟩) (fun _ => rfl) (fun _ => rfl)
    ⟨Try.func40, by kernel_rfl, by kernel_rfl, by kernel_rfl, by kernel_rfl, by kernel_rfl, by kernel_rfl⟩ (forall_nil) (fun k x => impl_EraNodes.hf k x.1 x.2.1) k
noncomputable def b41 : Code := Try.f41.body.getD .skip
theorem e41 : OM.Entry Try.prog 41 := ⟨_, Try.func41, by kernel_rfl, by kernel_rfl⟩
@[reducible] noncomputable def spec_EraNodes.g : Sig := ⟨[.fz tRegister, .fz (.int .i64)], [.v (.sl (.int .i64)) (.own .z)], []⟩
@[reducible] noncomputable def spec_EraNodes.fk : Nat → denI spec_EraNodes.g.pms → Option (denR (outTys spec_EraNodes.g.rts spec_EraNodes.g.pms)) := fun k x => spec_EraNodes.f x.1 x.2.1
@[reducible] noncomputable def spec_EraNodes.sm (k : Nat) : Sm := ⟨41, spec_EraNodes.g.pms, spec_EraNodes.g.rts, spec_EraNodes.fk k⟩
noncomputable def spec_EraNodes.E (k : Nat) : Env := ⟨tys, [spec_l1In.sm k], [19], [], []⟩
noncomputable def spec_EraNodes.pts : List (Pt (denR (outTys spec_EraNodes.g.rts spec_EraNodes.g.pms))) := []
theorem spec_EraNodes.hf (k : Nat) (a0 : Register) (a1 : Int) : (spec_EraNodes.f a0 a1 : Option (denR (outTys spec_EraNodes.g.rts spec_EraNodes.g.pms))) = evC (spec_EraNodes.E k) (fun κ s => lhOf k κ s spec_EraNodes.pts) b41 (OM.start spec_EraNodes.g.pms 0 (a0, a1, ())) (OM.fin spec_EraNodes.g Try.f41.results.toList) := by kernel_rfl
theorem spec_EraNodes.ok (k : Nat) : SmOk Try.prog (spec_EraNodes.sm k) :=
  sm_ok mixed (E := spec_EraNodes.E) (pts := spec_EraNodes.pts) (fun k => ⟨⟨tysOk, by kernel_rfl⟩, forall_cons ⟨spec_l1In.ok k, e77⟩ (forall_nil)⟩) (fun _ => rfl) (fun _ => rfl)
    ⟨Try.func41, by kernel_rfl, by kernel_rfl, by kernel_rfl, by kernel_rfl, by kernel_rfl, by kernel_rfl⟩ (forall_nil) (fun k x => spec_EraNodes.hf k x.1 x.2.1) k
noncomputable def b24 : Code := Try.f24.body.getD .skip
theorem e24 : OM.Entry Try.prog 24 := ⟨_, Try.func24, by kernel_rfl, by kernel_rfl⟩
@[reducible] noncomputable def laws_sameInts.g : Sig := ⟨[.fz (.sl (.int .i64)), .fz (.sl (.int .i64))], [.v .bool .z], []⟩
@[reducible] noncomputable def laws_sameInts.fk : Nat → denI laws_sameInts.g.pms → Option (denR (outTys laws_sameInts.g.rts laws_sameInts.g.pms)) := fun k x => laws_sameInts.f k x.1 x.2.1
@[reducible] noncomputable def laws_sameInts.sm (k : Nat) : Sm := ⟨24, laws_sameInts.g.pms, laws_sameInts.g.rts, laws_sameInts.fk k⟩
noncomputable def laws_sameInts.E (k : Nat) : Env := ⟨tys, [], [], [], []⟩
@[reducible] noncomputable def laws_sameInts.s9 : List Slot := [.v 0 (.sl (.int .i64)) .z [] 0, .v 4 (.sl (.int .i64)) .z [] 0, .v 20 (.int .i64) .z [] 0]
noncomputable def laws_sameInts.pts : List (Pt (denR (outTys laws_sameInts.g.rts laws_sameInts.g.pms))) := [⟨9, laws_sameInts.s9, fun k x => laws_sameInts.p9 k x.1 x.2.1 x.2.2.1⟩]
theorem laws_sameInts.h9 (k : Nat) (x0 : (List Int)) (x1 : (List Int)) (x2 : Int) : (laws_sameInts.p9 (k + 1) x0 x1 x2 : Option (denR (outTys laws_sameInts.g.rts laws_sameInts.g.pms))) = evAt (laws_sameInts.E k) (fun κ s => lhOf k κ s laws_sameInts.pts) 9 b24 (unproj laws_sameInts.s9 (x0, x1, x2, ())) (OM.fin laws_sameInts.g Try.f24.results.toList) := by kernel_rfl
theorem laws_sameInts.hf (k : Nat) (a0 : (List Int)) (a1 : (List Int)) : (laws_sameInts.f k a0 a1 : Option (denR (outTys laws_sameInts.g.rts laws_sameInts.g.pms))) = evC (laws_sameInts.E k) (fun κ s => lhOf k κ s laws_sameInts.pts) b24 (OM.start laws_sameInts.g.pms 0 (a0, a1, ())) (OM.fin laws_sameInts.g Try.f24.results.toList) := by kernel_rfl
theorem laws_sameInts.ok (k : Nat) : SmOk Try.prog (laws_sameInts.sm k) :=
  sm_ok mixed (E := laws_sameInts.E) (pts := laws_sameInts.pts) (fun k => ⟨⟨tysOk, by kernel_rfl⟩, forall_nil⟩) (fun _ => rfl) (fun _ => rfl)
    ⟨Try.func24, by kernel_rfl, by kernel_rfl, by kernel_rfl, by kernel_rfl, by kernel_rfl, by kernel_rfl⟩ (forall_cons (fun x => ⟨rfl, fun k => laws_sameInts.h9 k x.1 x.2.1 x.2.2.1⟩) (forall_nil)) (fun k x => laws_sameInts.hf k x.1 x.2.1) k
noncomputable def b8 : Code := Try.f8.body.getD .skip
theorem e8 : OM.Entry Try.prog 8 := ⟨_, Try.func8, by kernel_rfl, by kernel_rfl⟩
@[reducible] noncomputable def laws_FnOpened.g : Sig := ⟨[.fz (.sl (.int .u8))], [.v .bool .z], []⟩
@[reducible] noncomputable def laws_FnOpened.fk : Nat → denI laws_FnOpened.g.pms → Option (denR (outTys laws_FnOpened.g.rts laws_FnOpened.g.pms)) := fun k x => laws_FnOpened.f k x.1
@[reducible] noncomputable def laws_FnOpened.sm (k : Nat) : Sm := ⟨8, laws_FnOpened.g.pms, laws_FnOpened.g.rts, laws_FnOpened.fk k⟩
noncomputable def laws_FnOpened.E (k : Nat) : Env := ⟨tys, [laws_big.sm k, spec_RegOpen.sm k, spec_DrawRegOpen.sm k, impl_RegOk.sm k, impl_RegOpen.sm k, impl_EraNodes.sm k, spec_EraNodes.sm k, laws_sameInts.sm k], [], [], [4]⟩
@[reducible] noncomputable def laws_FnOpened.s23 : List Slot := [.r 12 13 [] tConfig, .r 16 17 [] tRegister, .v 20 (.sl (.int .i64)) (.own .z) [] 0, .r 24 25 [] tRegister, .v 28 (.int .i64) .z [] 0, .v 48 (.int .i64) .z [] 0, .v 13 tConfig .z [] 0, .v 17 tRegister (.two (.own .z) .z) [] 0, .v 25 tRegister (.two (.own (.two (.own .z) .z)) .z) [] 0]
noncomputable def laws_FnOpened.pts : List (Pt (denR (outTys laws_FnOpened.g.rts laws_FnOpened.g.pms))) := [⟨23, laws_FnOpened.s23, fun k x => laws_FnOpened.p23 k x.1 x.2.1 x.2.2.1 x.2.2.2.1 x.2.2.2.2.1 x.2.2.2.2.2.1⟩]
theorem laws_FnOpened.h23 (k : Nat) (x0 : (List Int)) (x1 : Int) (x2 : Int) (x3 : Config) (x4 : Register) (x5 : Register) : (laws_FnOpened.p23 (k + 1) x0 x1 x2 x3 x4 x5 : Option (denR (outTys laws_FnOpened.g.rts laws_FnOpened.g.pms))) = evAt (laws_FnOpened.E k) (fun κ s => lhOf k κ s laws_FnOpened.pts) 23 b8 (unproj laws_FnOpened.s23 (x0, x1, x2, x3, x4, x5, ())) (OM.fin laws_FnOpened.g Try.f8.results.toList) := by kernel_rfl
theorem laws_FnOpened.hf (k : Nat) (a0 : (List Int)) : (laws_FnOpened.f k a0 : Option (denR (outTys laws_FnOpened.g.rts laws_FnOpened.g.pms))) = evC (laws_FnOpened.E k) (fun κ s => lhOf k κ s laws_FnOpened.pts) b8 (OM.start laws_FnOpened.g.pms 0 (a0, ())) (OM.fin laws_FnOpened.g Try.f8.results.toList) := by kernel_rfl
theorem laws_FnOpened.ok (k : Nat) : SmOk Try.prog (laws_FnOpened.sm k) :=
  sm_ok mixed (E := laws_FnOpened.E) (pts := laws_FnOpened.pts) (fun k => ⟨⟨tysOk, by kernel_rfl⟩, forall_cons ⟨laws_big.ok k, e20⟩ (forall_cons ⟨spec_RegOpen.ok k, e39⟩ (forall_cons ⟨spec_DrawRegOpen.ok k, e37⟩ (forall_cons ⟨impl_RegOk.ok k, e30⟩ (forall_cons ⟨impl_RegOpen.ok k, e38⟩ (forall_cons ⟨impl_EraNodes.ok k, e40⟩ (forall_cons ⟨spec_EraNodes.ok k, e41⟩ (forall_cons ⟨laws_sameInts.ok k, e24⟩ (forall_nil))))))))⟩) (fun _ => rfl) (fun _ => rfl)
    ⟨Try.func8, by kernel_rfl, by kernel_rfl, by kernel_rfl, by kernel_rfl, by kernel_rfl, by kernel_rfl⟩ (forall_cons (fun x => ⟨rfl, fun k => laws_FnOpened.h23 k x.1 x.2.1 x.2.2.1 x.2.2.2.1 x.2.2.2.2.1 x.2.2.2.2.2.1⟩) (forall_nil)) (fun k x => laws_FnOpened.hf k x.1) k
end Go.Proofs.Ytdkdhciogedoiac.OmFnOpened
