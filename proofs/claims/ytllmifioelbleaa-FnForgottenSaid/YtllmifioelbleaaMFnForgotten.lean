import Derived.Test.YtllmifioelbleaaFFnForgotten
import Derived.Test.YtllmifioelbleaaChecked
set_option maxRecDepth 1000000
set_option linter.unusedVariables false
namespace Go.Proofs.Ytllmifioelbleaa.OmFnForgotten
open Go Go.OM
noncomputable def tys : List (Option Ty) := [none, none, some (.int .i64), some (.int .i64), some .bool, some (.int .u8), some (.int .u8), some (.pair (.int .i64) (.pair (.int .i64) (.pair .bool (.pair (.int .u8) .unit)))), some (.pair (.int .i64) (.pair (.int .i64) (.pair .bool (.pair (.int .u8) .unit)))), some .str, some .str, some .str, some (.int .u64), some (.pair .str (.pair (.int .u64) .unit)), some (.pair .str (.pair (.int .u64) .unit)), none, none, none, none, none, none, some (.int .i32), some (.sl (.int .u8)), none, some (.sl (.int .i64)), some tConfig, some tConfig, some (.sl tEntry), some (.sl (.sl (.int .i64))), some tMend, some tMend, none, none, none, none, none, none, none, none, none, some tEntry, some tEntry, none, none, none, some tConfig, some (.sl tEra), some tRegister, some tRegister, none, none, some (.sl tEra), some tRegister, some tRegister, none, none, none, none, none, none, none, none, none, none, none, none, none, some tEra, some tEra, some tStore, some tStore, none, none, none, none, none, none, none, some (.sl tWord), some tWriter, some tWriter, none, none, none, none, some tWord, some tWord, none, none, none, none, none, none, none, none, none, none, none, none, none, none, none, none, none, none, none, none, none, none, none, none, none, none, none, none, none, none, none, none, none, none, none, none, none, none, none, none, some treader, some treader, none, none, none, none, none, none, none, none, none, none, none, none, none, none, none, some tl1Cur, some tl1Cur, none, none, some tEra, none, none, none, none, none, none, none, none, none, none, none, none, none, none, some (.sl .bool), some (.int .u64), none, none, none, none, none, none, some (.sl .str), none, none, none, none, none, none, none, none, none, none, none, none, none, none, none, none, none, none, none, some (.int .u32), some (.int .u8), some (.int .u8), none, none, some (.int .i32), some (.int .i32), none, none, none]
theorem tysOk : okTys Try.prog tys 0 tys = true := by kernel_rfl
theorem mixed : Try.prog.follows .mixedOrders = true := by kernel_rfl
noncomputable def b9 : Code := Try.f9.body.getD .skip
theorem e9 : OM.Entry Try.prog 9 := ⟨_, Try.func9, by kernel_rfl, by kernel_rfl⟩
@[reducible] noncomputable def laws_big.g : Sig := ⟨[.fz (.sl (.int .u8))], [.v .bool .z], []⟩
@[reducible] noncomputable def laws_big.fk : Nat → denI laws_big.g.pms → Option (denR (outTys laws_big.g.rts laws_big.g.pms)) := fun k x => laws_big.f x.1
@[reducible] noncomputable def laws_big.sm (k : Nat) : Sm := ⟨9, laws_big.g.pms, laws_big.g.rts, laws_big.fk k⟩
noncomputable def laws_big.E (k : Nat) : Env := ⟨tys, [], [], [], []⟩
noncomputable def laws_big.pts : List (Pt (denR (outTys laws_big.g.rts laws_big.g.pms))) := []
theorem laws_big.hf (k : Nat) (a0 : (List Int)) : (laws_big.f a0 : Option (denR (outTys laws_big.g.rts laws_big.g.pms))) = evC (laws_big.E k) (fun κ s => lhOf k κ s laws_big.pts) b9 (OM.start laws_big.g.pms 0 (a0, ())) (OM.fin laws_big.g Try.f9.results.toList) := by kernel_rfl
theorem laws_big.ok (k : Nat) : SmOk Try.prog (laws_big.sm k) :=
  sm_ok mixed (E := laws_big.E) (pts := laws_big.pts) (fun k => ⟨⟨tysOk, by kernel_rfl⟩, forall_nil⟩) (fun _ => rfl) (fun _ => rfl)
    ⟨Try.func9, by kernel_rfl, by kernel_rfl, by kernel_rfl, by kernel_rfl, by kernel_rfl, by kernel_rfl⟩ (forall_nil) (fun k x => laws_big.hf k x.1) k
noncomputable def b70 : Code := Try.f70.body.getD .skip
theorem e70 : OM.Entry Try.prog 70 := ⟨_, Try.func70, by kernel_rfl, by kernel_rfl⟩
@[reducible] noncomputable def spec_l1New.g : Sig := ⟨[.fz (.sl (.int .u8))], [.p tl1Cur .z], []⟩
@[reducible] noncomputable def spec_l1New.fk : Nat → denI spec_l1New.g.pms → Option (denR (outTys spec_l1New.g.rts spec_l1New.g.pms)) := fun k x => spec_l1New.f k x.1
@[reducible] noncomputable def spec_l1New.sm (k : Nat) : Sm := ⟨70, spec_l1New.g.pms, spec_l1New.g.rts, spec_l1New.fk k⟩
noncomputable def spec_l1New.E (k : Nat) : Env := ⟨tys, [], [28, 29], [], []⟩
@[reducible] noncomputable def spec_l1New.s7 : List Slot := [.v 0 (.sl (.int .u8)) .z [] 0, .v 12 (.int .i64) .z [] 0, .v 16 (.int .i64) .z [] 0]
noncomputable def spec_l1New.pts : List (Pt (denR (outTys spec_l1New.g.rts spec_l1New.g.pms))) := [⟨7, spec_l1New.s7, fun k x => spec_l1New.p7 k x.1 x.2.1 x.2.2.1⟩]
theorem spec_l1New.h7 (k : Nat) (x0 : (List Int)) (x1 : Int) (x2 : Int) : (spec_l1New.p7 (k + 1) x0 x1 x2 : Option (denR (outTys spec_l1New.g.rts spec_l1New.g.pms))) = evAt (spec_l1New.E k) (fun κ s => lhOf k κ s spec_l1New.pts) 7 b70 (unproj spec_l1New.s7 (x0, x1, x2, ())) (OM.fin spec_l1New.g Try.f70.results.toList) := by kernel_rfl
theorem spec_l1New.hf (k : Nat) (a0 : (List Int)) : (spec_l1New.f k a0 : Option (denR (outTys spec_l1New.g.rts spec_l1New.g.pms))) = evC (spec_l1New.E k) (fun κ s => lhOf k κ s spec_l1New.pts) b70 (OM.start spec_l1New.g.pms 0 (a0, ())) (OM.fin spec_l1New.g Try.f70.results.toList) := by kernel_rfl
theorem spec_l1New.ok (k : Nat) : SmOk Try.prog (spec_l1New.sm k) :=
  sm_ok mixed (E := spec_l1New.E) (pts := spec_l1New.pts) (fun k => ⟨⟨tysOk, by kernel_rfl⟩, forall_nil⟩) (fun _ => rfl) (fun _ => rfl)
    ⟨Try.func70, by kernel_rfl, by kernel_rfl, by kernel_rfl, by kernel_rfl, by kernel_rfl, by kernel_rfl⟩ (forall_cons (fun x => ⟨rfl, fun k => spec_l1New.h7 k x.1 x.2.1 x.2.2.1⟩) (forall_nil)) (fun k x => spec_l1New.hf k x.1) k
noncomputable def b125 : Code := Try.f125.body.getD .skip
theorem e125 : OM.Entry Try.prog 125 := ⟨_, Try.func125, by kernel_rfl, by kernel_rfl⟩
@[reducible] noncomputable def spec_l1Byte.g : Sig := ⟨[.ptr tl1Cur .z .z], [.v (.int .i64) .z], []⟩
@[reducible] noncomputable def spec_l1Byte.fk : Nat → denI spec_l1Byte.g.pms → Option (denR (outTys spec_l1Byte.g.rts spec_l1Byte.g.pms)) := fun k x => spec_l1Byte.f x.1
@[reducible] noncomputable def spec_l1Byte.sm (k : Nat) : Sm := ⟨125, spec_l1Byte.g.pms, spec_l1Byte.g.rts, spec_l1Byte.fk k⟩
noncomputable def spec_l1Byte.E (k : Nat) : Env := ⟨tys, [], [], [], []⟩
noncomputable def spec_l1Byte.pts : List (Pt (denR (outTys spec_l1Byte.g.rts spec_l1Byte.g.pms))) := []
theorem spec_l1Byte.hf (k : Nat) (a0 : l1Cur) : (spec_l1Byte.f a0 : Option (denR (outTys spec_l1Byte.g.rts spec_l1Byte.g.pms))) = evC (spec_l1Byte.E k) (fun κ s => lhOf k κ s spec_l1Byte.pts) b125 (OM.start spec_l1Byte.g.pms 0 (a0, ())) (OM.fin spec_l1Byte.g Try.f125.results.toList) := by kernel_rfl
theorem spec_l1Byte.ok (k : Nat) : SmOk Try.prog (spec_l1Byte.sm k) :=
  sm_ok mixed (E := spec_l1Byte.E) (pts := spec_l1Byte.pts) (fun k => ⟨⟨tysOk, by kernel_rfl⟩, forall_nil⟩) (fun _ => rfl) (fun _ => rfl)
    ⟨Try.func125, by kernel_rfl, by kernel_rfl, by kernel_rfl, by kernel_rfl, by kernel_rfl, by kernel_rfl⟩ (forall_nil) (fun k x => spec_l1Byte.hf k x.1) k
noncomputable def b71 : Code := Try.f71.body.getD .skip
theorem e71 : OM.Entry Try.prog 71 := ⟨_, Try.func71, by kernel_rfl, by kernel_rfl⟩
@[reducible] noncomputable def spec_l1Below.g : Sig := ⟨[.ptr tl1Cur .z .z, .fz (.int .i64)], [.v (.int .i64) .z], []⟩
@[reducible] noncomputable def spec_l1Below.fk : Nat → denI spec_l1Below.g.pms → Option (denR (outTys spec_l1Below.g.rts spec_l1Below.g.pms)) := fun k x => spec_l1Below.f x.1 x.2.1
@[reducible] noncomputable def spec_l1Below.sm (k : Nat) : Sm := ⟨71, spec_l1Below.g.pms, spec_l1Below.g.rts, spec_l1Below.fk k⟩
noncomputable def spec_l1Below.E (k : Nat) : Env := ⟨tys, [spec_l1Byte.sm k], [], [], []⟩
noncomputable def spec_l1Below.pts : List (Pt (denR (outTys spec_l1Below.g.rts spec_l1Below.g.pms))) := []
theorem spec_l1Below.hf (k : Nat) (a0 : l1Cur) (a1 : Int) : (spec_l1Below.f a0 a1 : Option (denR (outTys spec_l1Below.g.rts spec_l1Below.g.pms))) = evC (spec_l1Below.E k) (fun κ s => lhOf k κ s spec_l1Below.pts) b71 (OM.start spec_l1Below.g.pms 0 (a0, a1, ())) (OM.fin spec_l1Below.g Try.f71.results.toList) := by kernel_rfl
theorem spec_l1Below.ok (k : Nat) : SmOk Try.prog (spec_l1Below.sm k) :=
  sm_ok mixed (E := spec_l1Below.E) (pts := spec_l1Below.pts) (fun k => ⟨⟨tysOk, by kernel_rfl⟩, forall_cons ⟨spec_l1Byte.ok k, e125⟩ (forall_nil)⟩) (fun _ => rfl) (fun _ => rfl)
    ⟨Try.func71, by kernel_rfl, by kernel_rfl, by kernel_rfl, by kernel_rfl, by kernel_rfl, by kernel_rfl⟩ (forall_nil) (fun k x => spec_l1Below.hf k x.1 x.2.1) k
noncomputable def b54 : Code := Try.f54.body.getD .skip
theorem e54 : OM.Entry Try.prog 54 := ⟨_, Try.func54, by kernel_rfl, by kernel_rfl⟩
@[reducible] noncomputable def spec_l1Once.g : Sig := ⟨[.ptr tl1Cur .z .z, .fz (.int .i64)], [.v .bool .z], []⟩
@[reducible] noncomputable def spec_l1Once.fk : Nat → denI spec_l1Once.g.pms → Option (denR (outTys spec_l1Once.g.rts spec_l1Once.g.pms)) := fun k x => spec_l1Once.f x.1 x.2.1
@[reducible] noncomputable def spec_l1Once.sm (k : Nat) : Sm := ⟨54, spec_l1Once.g.pms, spec_l1Once.g.rts, spec_l1Once.fk k⟩
noncomputable def spec_l1Once.E (k : Nat) : Env := ⟨tys, [spec_l1Below.sm k], [], [], []⟩
noncomputable def spec_l1Once.pts : List (Pt (denR (outTys spec_l1Once.g.rts spec_l1Once.g.pms))) := []
theorem spec_l1Once.hf (k : Nat) (a0 : l1Cur) (a1 : Int) : (spec_l1Once.f a0 a1 : Option (denR (outTys spec_l1Once.g.rts spec_l1Once.g.pms))) = evC (spec_l1Once.E k) (fun κ s => lhOf k κ s spec_l1Once.pts) b54 (OM.start spec_l1Once.g.pms 0 (a0, a1, ())) (OM.fin spec_l1Once.g Try.f54.results.toList) := by kernel_rfl
theorem spec_l1Once.ok (k : Nat) : SmOk Try.prog (spec_l1Once.sm k) :=
  sm_ok mixed (E := spec_l1Once.E) (pts := spec_l1Once.pts) (fun k => ⟨⟨tysOk, by kernel_rfl⟩, forall_cons ⟨spec_l1Below.ok k, e71⟩ (forall_nil)⟩) (fun _ => rfl) (fun _ => rfl)
    ⟨Try.func54, by kernel_rfl, by kernel_rfl, by kernel_rfl, by kernel_rfl, by kernel_rfl, by kernel_rfl⟩ (forall_nil) (fun k x => spec_l1Once.hf k x.1 x.2.1) k
noncomputable def b116 : Code := Try.f116.body.getD .skip
theorem e116 : OM.Entry Try.prog 116 := ⟨_, Try.func116, by kernel_rfl, by kernel_rfl⟩
@[reducible] noncomputable def spec_l4DrawRight.g : Sig := ⟨[.ptr tl1Cur .z .z], [.v tConfig (.two (.own .z) .z)], []⟩
@[reducible] noncomputable def spec_l4DrawRight.fk : Nat → denI spec_l4DrawRight.g.pms → Option (denR (outTys spec_l4DrawRight.g.rts spec_l4DrawRight.g.pms)) := fun k x => spec_l4DrawRight.f k x.1
@[reducible] noncomputable def spec_l4DrawRight.sm (k : Nat) : Sm := ⟨116, spec_l4DrawRight.g.pms, spec_l4DrawRight.g.rts, spec_l4DrawRight.fk k⟩
noncomputable def spec_l4DrawRight.E (k : Nat) : Env := ⟨tys, [spec_l1Below.sm k, spec_l1Once.sm k], [], [], []⟩
@[reducible] noncomputable def spec_l4DrawRight.s9 : List Slot := [.r 0 36001 [] tl1Cur, .r 8 9 [] tConfig, .r 12 13 [] tConfig, .v 16 (.int .i64) .z [] 0, .v 20 (.int .i64) .z [] 0, .v 9 tConfig (.two (.own .a) .z) [] 0, .v 13 tConfig (.two (.own .z) .z) [] 0, .v 36001 tl1Cur .z [] 0]
noncomputable def spec_l4DrawRight.pts : List (Pt (denR (outTys spec_l4DrawRight.g.rts spec_l4DrawRight.g.pms))) := [⟨9, spec_l4DrawRight.s9, fun k x => spec_l4DrawRight.p9 k x.1 x.2.1 x.2.2.1 x.2.2.2.1 x.2.2.2.2.1⟩]
theorem spec_l4DrawRight.h9 (k : Nat) (x0 : Int) (x1 : Int) (x2 : Config) (x3 : Config) (x4 : l1Cur) : (spec_l4DrawRight.p9 (k + 1) x0 x1 x2 x3 x4 : Option (denR (outTys spec_l4DrawRight.g.rts spec_l4DrawRight.g.pms))) = evAt (spec_l4DrawRight.E k) (fun κ s => lhOf k κ s spec_l4DrawRight.pts) 9 b116 (unproj spec_l4DrawRight.s9 (x0, x1, x2, x3, x4, ())) (OM.fin spec_l4DrawRight.g Try.f116.results.toList) := by kernel_rfl
theorem spec_l4DrawRight.hf (k : Nat) (a0 : l1Cur) : (spec_l4DrawRight.f k a0 : Option (denR (outTys spec_l4DrawRight.g.rts spec_l4DrawRight.g.pms))) = evC (spec_l4DrawRight.E k) (fun κ s => lhOf k κ s spec_l4DrawRight.pts) b116 (OM.start spec_l4DrawRight.g.pms 0 (a0, ())) (OM.fin spec_l4DrawRight.g Try.f116.results.toList) := by kernel_rfl
theorem spec_l4DrawRight.ok (k : Nat) : SmOk Try.prog (spec_l4DrawRight.sm k) :=
  sm_ok mixed (E := spec_l4DrawRight.E) (pts := spec_l4DrawRight.pts) (fun k => ⟨⟨tysOk, by kernel_rfl⟩, forall_cons ⟨spec_l1Below.ok k, e71⟩ (forall_cons ⟨spec_l1Once.ok k, e54⟩ (forall_nil))⟩) (fun _ => rfl) (fun _ => rfl)
    ⟨Try.func116, by kernel_rfl, by kernel_rfl, by kernel_rfl, by kernel_rfl, by kernel_rfl, by kernel_rfl⟩ (forall_cons (fun x => ⟨rfl, fun k => spec_l4DrawRight.h9 k x.1 x.2.1 x.2.2.1 x.2.2.2.1 x.2.2.2.2.1⟩) (forall_nil)) (fun k x => spec_l4DrawRight.hf k x.1) k
noncomputable def b91 : Code := Try.f91.body.getD .skip
theorem e91 : OM.Entry Try.prog 91 := ⟨_, Try.func91, by kernel_rfl, by kernel_rfl⟩
@[reducible] noncomputable def spec_l1PickInt.g : Sig := ⟨[.ptr tl1Cur .z .z, .fz (.sl (.int .i64))], [.v (.int .i64) .z], []⟩
@[reducible] noncomputable def spec_l1PickInt.fk : Nat → denI spec_l1PickInt.g.pms → Option (denR (outTys spec_l1PickInt.g.rts spec_l1PickInt.g.pms)) := fun k x => spec_l1PickInt.f x.1 x.2.1
@[reducible] noncomputable def spec_l1PickInt.sm (k : Nat) : Sm := ⟨91, spec_l1PickInt.g.pms, spec_l1PickInt.g.rts, spec_l1PickInt.fk k⟩
noncomputable def spec_l1PickInt.E (k : Nat) : Env := ⟨tys, [spec_l1Below.sm k], [], [], []⟩
noncomputable def spec_l1PickInt.pts : List (Pt (denR (outTys spec_l1PickInt.g.rts spec_l1PickInt.g.pms))) := []
theorem spec_l1PickInt.hf (k : Nat) (a0 : l1Cur) (a1 : (List Int)) : (spec_l1PickInt.f a0 a1 : Option (denR (outTys spec_l1PickInt.g.rts spec_l1PickInt.g.pms))) = evC (spec_l1PickInt.E k) (fun κ s => lhOf k κ s spec_l1PickInt.pts) b91 (OM.start spec_l1PickInt.g.pms 0 (a0, a1, ())) (OM.fin spec_l1PickInt.g Try.f91.results.toList) := by kernel_rfl
theorem spec_l1PickInt.ok (k : Nat) : SmOk Try.prog (spec_l1PickInt.sm k) :=
  sm_ok mixed (E := spec_l1PickInt.E) (pts := spec_l1PickInt.pts) (fun k => ⟨⟨tysOk, by kernel_rfl⟩, forall_cons ⟨spec_l1Below.ok k, e71⟩ (forall_nil)⟩) (fun _ => rfl) (fun _ => rfl)
    ⟨Try.func91, by kernel_rfl, by kernel_rfl, by kernel_rfl, by kernel_rfl, by kernel_rfl, by kernel_rfl⟩ (forall_nil) (fun k x => spec_l1PickInt.hf k x.1 x.2.1) k
noncomputable def b89 : Code := Try.f89.body.getD .skip
theorem e89 : OM.Entry Try.prog 89 := ⟨_, Try.func89, by kernel_rfl, by kernel_rfl⟩
@[reducible] noncomputable def spec_l4Draw.g : Sig := ⟨[.ptr tl1Cur .z .z], [.v tConfig (.two (.own .z) .z)], []⟩
@[reducible] noncomputable def spec_l4Draw.fk : Nat → denI spec_l4Draw.g.pms → Option (denR (outTys spec_l4Draw.g.rts spec_l4Draw.g.pms)) := fun k x => spec_l4Draw.f k x.1
@[reducible] noncomputable def spec_l4Draw.sm (k : Nat) : Sm := ⟨89, spec_l4Draw.g.pms, spec_l4Draw.g.rts, spec_l4Draw.fk k⟩
noncomputable def spec_l4Draw.E (k : Nat) : Env := ⟨tys, [spec_l1Below.sm k, spec_l4DrawRight.sm k, spec_l1PickInt.sm k], [], [], []⟩
noncomputable def spec_l4Draw.pts : List (Pt (denR (outTys spec_l4Draw.g.rts spec_l4Draw.g.pms))) := []
theorem spec_l4Draw.hf (k : Nat) (a0 : l1Cur) : (spec_l4Draw.f k a0 : Option (denR (outTys spec_l4Draw.g.rts spec_l4Draw.g.pms))) = evC (spec_l4Draw.E k) (fun κ s => lhOf k κ s spec_l4Draw.pts) b89 (OM.start spec_l4Draw.g.pms 0 (a0, ())) (OM.fin spec_l4Draw.g Try.f89.results.toList) := by kernel_rfl
theorem spec_l4Draw.ok (k : Nat) : SmOk Try.prog (spec_l4Draw.sm k) :=
  sm_ok mixed (E := spec_l4Draw.E) (pts := spec_l4Draw.pts) (fun k => ⟨⟨tysOk, by kernel_rfl⟩, forall_cons ⟨spec_l1Below.ok k, e71⟩ (forall_cons ⟨spec_l4DrawRight.ok k, e116⟩ (forall_cons ⟨spec_l1PickInt.ok k, e91⟩ (forall_nil)))⟩) (fun _ => rfl) (fun _ => rfl)
    ⟨Try.func89, by kernel_rfl, by kernel_rfl, by kernel_rfl, by kernel_rfl, by kernel_rfl, by kernel_rfl⟩ (forall_nil) (fun k x => spec_l4Draw.hf k x.1) k
noncomputable def b164 : Code := Try.f164.body.getD .skip
theorem e164 : OM.Entry Try.prog 164 := ⟨_, Try.func164, by kernel_rfl, by kernel_rfl⟩
@[reducible] noncomputable def spec_l1Pick.g : Sig := ⟨[.ptr tl1Cur .z .z, .fz (.sl .str)], [.v .str .z], []⟩
@[reducible] noncomputable def spec_l1Pick.fk : Nat → denI spec_l1Pick.g.pms → Option (denR (outTys spec_l1Pick.g.rts spec_l1Pick.g.pms)) := fun k x => spec_l1Pick.f x.1 x.2.1
@[reducible] noncomputable def spec_l1Pick.sm (k : Nat) : Sm := ⟨164, spec_l1Pick.g.pms, spec_l1Pick.g.rts, spec_l1Pick.fk k⟩
noncomputable def spec_l1Pick.E (k : Nat) : Env := ⟨tys, [spec_l1Below.sm k], [], [], []⟩
noncomputable def spec_l1Pick.pts : List (Pt (denR (outTys spec_l1Pick.g.rts spec_l1Pick.g.pms))) := []
theorem spec_l1Pick.hf (k : Nat) (a0 : l1Cur) (a1 : (List ByteArray)) : (spec_l1Pick.f a0 a1 : Option (denR (outTys spec_l1Pick.g.rts spec_l1Pick.g.pms))) = evC (spec_l1Pick.E k) (fun κ s => lhOf k κ s spec_l1Pick.pts) b164 (OM.start spec_l1Pick.g.pms 0 (a0, a1, ())) (OM.fin spec_l1Pick.g Try.f164.results.toList) := by kernel_rfl
theorem spec_l1Pick.ok (k : Nat) : SmOk Try.prog (spec_l1Pick.sm k) :=
  sm_ok mixed (E := spec_l1Pick.E) (pts := spec_l1Pick.pts) (fun k => ⟨⟨tysOk, by kernel_rfl⟩, forall_cons ⟨spec_l1Below.ok k, e71⟩ (forall_nil)⟩) (fun _ => rfl) (fun _ => rfl)
    ⟨Try.func164, by kernel_rfl, by kernel_rfl, by kernel_rfl, by kernel_rfl, by kernel_rfl, by kernel_rfl⟩ (forall_nil) (fun k x => spec_l1Pick.hf k x.1 x.2.1) k
noncomputable def b63 : Code := Try.f63.body.getD .skip
theorem e63 : OM.Entry Try.prog 63 := ⟨_, Try.func63, by kernel_rfl, by kernel_rfl⟩
@[reducible] noncomputable def spec_l1In.g : Sig := ⟨[.fz (.int .i64), .fz (.int .i64), .fz (.int .i64)], [.v .bool .z], []⟩
@[reducible] noncomputable def spec_l1In.fk : Nat → denI spec_l1In.g.pms → Option (denR (outTys spec_l1In.g.rts spec_l1In.g.pms)) := fun k x => spec_l1In.f x.1 x.2.1 x.2.2.1
@[reducible] noncomputable def spec_l1In.sm (k : Nat) : Sm := ⟨63, spec_l1In.g.pms, spec_l1In.g.rts, spec_l1In.fk k⟩
noncomputable def spec_l1In.E (k : Nat) : Env := ⟨tys, [], [], [], []⟩
noncomputable def spec_l1In.pts : List (Pt (denR (outTys spec_l1In.g.rts spec_l1In.g.pms))) := []
theorem spec_l1In.hf (k : Nat) (a0 : Int) (a1 : Int) (a2 : Int) : (spec_l1In.f a0 a1 a2 : Option (denR (outTys spec_l1In.g.rts spec_l1In.g.pms))) = evC (spec_l1In.E k) (fun κ s => lhOf k κ s spec_l1In.pts) b63 (OM.start spec_l1In.g.pms 0 (a0, a1, a2, ())) (OM.fin spec_l1In.g Try.f63.results.toList) := by kernel_rfl
theorem spec_l1In.ok (k : Nat) : SmOk Try.prog (spec_l1In.sm k) :=
  sm_ok mixed (E := spec_l1In.E) (pts := spec_l1In.pts) (fun k => ⟨⟨tysOk, by kernel_rfl⟩, forall_nil⟩) (fun _ => rfl) (fun _ => rfl)
    ⟨Try.func63, by kernel_rfl, by kernel_rfl, by kernel_rfl, by kernel_rfl, by kernel_rfl, by kernel_rfl⟩ (forall_nil) (fun k x => spec_l1In.hf k x.1 x.2.1 x.2.2.1) k
noncomputable def b62 : Code := Try.f62.body.getD .skip
theorem e62 : OM.Entry Try.prog 62 := ⟨_, Try.func62, by kernel_rfl, by kernel_rfl⟩
@[reducible] noncomputable def spec_ConfigOk.g : Sig := ⟨[.fz tConfig], [.v .bool .z], []⟩
@[reducible] noncomputable def spec_ConfigOk.fk : Nat → denI spec_ConfigOk.g.pms → Option (denR (outTys spec_ConfigOk.g.rts spec_ConfigOk.g.pms)) := fun k x => spec_ConfigOk.f k x.1
@[reducible] noncomputable def spec_ConfigOk.sm (k : Nat) : Sm := ⟨62, spec_ConfigOk.g.pms, spec_ConfigOk.g.rts, spec_ConfigOk.fk k⟩
noncomputable def spec_ConfigOk.E (k : Nat) : Env := ⟨tys, [spec_l1In.sm k], [], [], []⟩
@[reducible] noncomputable def spec_ConfigOk.s9 : List Slot := [.r 4 5 [] tConfig, .v 12 (.int .i64) .z [] 0, .v 5 tConfig .z [] 0]
noncomputable def spec_ConfigOk.pts : List (Pt (denR (outTys spec_ConfigOk.g.rts spec_ConfigOk.g.pms))) := [⟨9, spec_ConfigOk.s9, fun k x => spec_ConfigOk.p9 k x.1 x.2.1⟩]
theorem spec_ConfigOk.h9 (k : Nat) (x0 : Int) (x1 : Config) : (spec_ConfigOk.p9 (k + 1) x0 x1 : Option (denR (outTys spec_ConfigOk.g.rts spec_ConfigOk.g.pms))) = evAt (spec_ConfigOk.E k) (fun κ s => lhOf k κ s spec_ConfigOk.pts) 9 b62 (unproj spec_ConfigOk.s9 (x0, x1, ())) (OM.fin spec_ConfigOk.g Try.f62.results.toList) := by kernel_rfl
theorem spec_ConfigOk.hf (k : Nat) (a0 : Config) : (spec_ConfigOk.f k a0 : Option (denR (outTys spec_ConfigOk.g.rts spec_ConfigOk.g.pms))) = evC (spec_ConfigOk.E k) (fun κ s => lhOf k κ s spec_ConfigOk.pts) b62 (OM.start spec_ConfigOk.g.pms 0 (a0, ())) (OM.fin spec_ConfigOk.g Try.f62.results.toList) := by kernel_rfl
theorem spec_ConfigOk.ok (k : Nat) : SmOk Try.prog (spec_ConfigOk.sm k) :=
  sm_ok mixed (E := spec_ConfigOk.E) (pts := spec_ConfigOk.pts) (fun k => ⟨⟨tysOk, by kernel_rfl⟩, forall_cons ⟨spec_l1In.ok k, e63⟩ (forall_nil)⟩) (fun _ => rfl) (fun _ => rfl)
    ⟨Try.func62, by kernel_rfl, by kernel_rfl, by kernel_rfl, by kernel_rfl, by kernel_rfl, by kernel_rfl⟩ (forall_cons (fun x => ⟨rfl, fun k => spec_ConfigOk.h9 k x.1 x.2.1⟩) (forall_nil)) (fun k x => spec_ConfigOk.hf k x.1) k
noncomputable def b122 : Code := Try.f122.body.getD .skip
theorem e122 : OM.Entry Try.prog 122 := ⟨_, Try.func122, by kernel_rfl, by kernel_rfl⟩
@[reducible] noncomputable def spec_l4Asc.g : Sig := ⟨[.fz (.sl (.int .i64)), .fz (.int .i64), .fz (.int .i64)], [.v .bool .z], []⟩
@[reducible] noncomputable def spec_l4Asc.fk : Nat → denI spec_l4Asc.g.pms → Option (denR (outTys spec_l4Asc.g.rts spec_l4Asc.g.pms)) := fun k x => spec_l4Asc.f k x.1 x.2.1 x.2.2.1
@[reducible] noncomputable def spec_l4Asc.sm (k : Nat) : Sm := ⟨122, spec_l4Asc.g.pms, spec_l4Asc.g.rts, spec_l4Asc.fk k⟩
noncomputable def spec_l4Asc.E (k : Nat) : Env := ⟨tys, [spec_l1In.sm k], [], [], []⟩
@[reducible] noncomputable def spec_l4Asc.s5 : List Slot := [.v 0 (.sl (.int .i64)) .z [] 0, .v 4 (.int .i64) .z [] 0, .v 8 (.int .i64) .z [] 0, .v 28 (.int .i64) .z [] 0]
noncomputable def spec_l4Asc.pts : List (Pt (denR (outTys spec_l4Asc.g.rts spec_l4Asc.g.pms))) := [⟨5, spec_l4Asc.s5, fun k x => spec_l4Asc.p5 k x.1 x.2.1 x.2.2.1 x.2.2.2.1⟩]
theorem spec_l4Asc.h5 (k : Nat) (x0 : (List Int)) (x1 : Int) (x2 : Int) (x3 : Int) : (spec_l4Asc.p5 (k + 1) x0 x1 x2 x3 : Option (denR (outTys spec_l4Asc.g.rts spec_l4Asc.g.pms))) = evAt (spec_l4Asc.E k) (fun κ s => lhOf k κ s spec_l4Asc.pts) 5 b122 (unproj spec_l4Asc.s5 (x0, x1, x2, x3, ())) (OM.fin spec_l4Asc.g Try.f122.results.toList) := by kernel_rfl
theorem spec_l4Asc.hf (k : Nat) (a0 : (List Int)) (a1 : Int) (a2 : Int) : (spec_l4Asc.f k a0 a1 a2 : Option (denR (outTys spec_l4Asc.g.rts spec_l4Asc.g.pms))) = evC (spec_l4Asc.E k) (fun κ s => lhOf k κ s spec_l4Asc.pts) b122 (OM.start spec_l4Asc.g.pms 0 (a0, a1, a2, ())) (OM.fin spec_l4Asc.g Try.f122.results.toList) := by kernel_rfl
theorem spec_l4Asc.ok (k : Nat) : SmOk Try.prog (spec_l4Asc.sm k) :=
  sm_ok mixed (E := spec_l4Asc.E) (pts := spec_l4Asc.pts) (fun k => ⟨⟨tysOk, by kernel_rfl⟩, forall_cons ⟨spec_l1In.ok k, e63⟩ (forall_nil)⟩) (fun _ => rfl) (fun _ => rfl)
    ⟨Try.func122, by kernel_rfl, by kernel_rfl, by kernel_rfl, by kernel_rfl, by kernel_rfl, by kernel_rfl⟩ (forall_cons (fun x => ⟨rfl, fun k => spec_l4Asc.h5 k x.1 x.2.1 x.2.2.1 x.2.2.2.1⟩) (forall_nil)) (fun k x => spec_l4Asc.hf k x.1 x.2.1 x.2.2.1) k
noncomputable def b64 : Code := Try.f64.body.getD .skip
theorem e64 : OM.Entry Try.prog 64 := ⟨_, Try.func64, by kernel_rfl, by kernel_rfl⟩
@[reducible] noncomputable def spec_NodesOk.g : Sig := ⟨[.fz tConfig, .fz (.sl (.int .i64))], [.v .bool .z], []⟩
@[reducible] noncomputable def spec_NodesOk.fk : Nat → denI spec_NodesOk.g.pms → Option (denR (outTys spec_NodesOk.g.rts spec_NodesOk.g.pms)) := fun k x => spec_NodesOk.f k x.1 x.2.1
@[reducible] noncomputable def spec_NodesOk.sm (k : Nat) : Sm := ⟨64, spec_NodesOk.g.pms, spec_NodesOk.g.rts, spec_NodesOk.fk k⟩
noncomputable def spec_NodesOk.E (k : Nat) : Env := ⟨tys, [spec_ConfigOk.sm k, spec_l4Asc.sm k], [], [], []⟩
noncomputable def spec_NodesOk.pts : List (Pt (denR (outTys spec_NodesOk.g.rts spec_NodesOk.g.pms))) := []
theorem spec_NodesOk.hf (k : Nat) (a0 : Config) (a1 : (List Int)) : (spec_NodesOk.f k a0 a1 : Option (denR (outTys spec_NodesOk.g.rts spec_NodesOk.g.pms))) = evC (spec_NodesOk.E k) (fun κ s => lhOf k κ s spec_NodesOk.pts) b64 (OM.start spec_NodesOk.g.pms 0 (a0, a1, ())) (OM.fin spec_NodesOk.g Try.f64.results.toList) := by kernel_rfl
theorem spec_NodesOk.ok (k : Nat) : SmOk Try.prog (spec_NodesOk.sm k) :=
  sm_ok mixed (E := spec_NodesOk.E) (pts := spec_NodesOk.pts) (fun k => ⟨⟨tysOk, by kernel_rfl⟩, forall_cons ⟨spec_ConfigOk.ok k, e62⟩ (forall_cons ⟨spec_l4Asc.ok k, e122⟩ (forall_nil))⟩) (fun _ => rfl) (fun _ => rfl)
    ⟨Try.func64, by kernel_rfl, by kernel_rfl, by kernel_rfl, by kernel_rfl, by kernel_rfl, by kernel_rfl⟩ (forall_nil) (fun k x => spec_NodesOk.hf k x.1 x.2.1) k
noncomputable def b118 : Code := Try.f118.body.getD .skip
theorem e118 : OM.Entry Try.prog 118 := ⟨_, Try.func118, by kernel_rfl, by kernel_rfl⟩
@[reducible] noncomputable def spec_l4Span.g : Sig := ⟨[.fz tConfig, .fz (.sl (.int .i64))], [.v (.int .i64) .z], []⟩
@[reducible] noncomputable def spec_l4Span.fk : Nat → denI spec_l4Span.g.pms → Option (denR (outTys spec_l4Span.g.rts spec_l4Span.g.pms)) := fun k x => spec_l4Span.f k x.1 x.2.1
@[reducible] noncomputable def spec_l4Span.sm (k : Nat) : Sm := ⟨118, spec_l4Span.g.pms, spec_l4Span.g.rts, spec_l4Span.fk k⟩
noncomputable def spec_l4Span.E (k : Nat) : Env := ⟨tys, [], [23], [], []⟩
@[reducible] noncomputable def spec_l4Span.s9 : List Slot := [.v 4 (.sl (.int .i64)) .z [] 0, .r 8 9 [] tConfig, .v 20 (.sl .bool) (.own .z) [] 0, .v 24 (.int .i64) .z [] 0, .v 28 (.int .i64) .z [] 0, .v 9 tConfig .z [] 0]
noncomputable def spec_l4Span.pts : List (Pt (denR (outTys spec_l4Span.g.rts spec_l4Span.g.pms))) := [⟨9, spec_l4Span.s9, fun k x => spec_l4Span.p9 k x.1 x.2.1 x.2.2.1 x.2.2.2.1 x.2.2.2.2.1⟩]
theorem spec_l4Span.h9 (k : Nat) (x0 : (List Int)) (x1 : (List Bool)) (x2 : Int) (x3 : Int) (x4 : Config) : (spec_l4Span.p9 (k + 1) x0 x1 x2 x3 x4 : Option (denR (outTys spec_l4Span.g.rts spec_l4Span.g.pms))) = evAt (spec_l4Span.E k) (fun κ s => lhOf k κ s spec_l4Span.pts) 9 b118 (unproj spec_l4Span.s9 (x0, x1, x2, x3, x4, ())) (OM.fin spec_l4Span.g Try.f118.results.toList) := by kernel_rfl
theorem spec_l4Span.hf (k : Nat) (a0 : Config) (a1 : (List Int)) : (spec_l4Span.f k a0 a1 : Option (denR (outTys spec_l4Span.g.rts spec_l4Span.g.pms))) = evC (spec_l4Span.E k) (fun κ s => lhOf k κ s spec_l4Span.pts) b118 (OM.start spec_l4Span.g.pms 0 (a0, a1, ())) (OM.fin spec_l4Span.g Try.f118.results.toList) := by kernel_rfl
theorem spec_l4Span.ok (k : Nat) : SmOk Try.prog (spec_l4Span.sm k) :=
  sm_ok mixed (E := spec_l4Span.E) (pts := spec_l4Span.pts) (fun k => ⟨⟨tysOk, by kernel_rfl⟩, forall_nil⟩) (fun _ => rfl) (fun _ => rfl)
    ⟨Try.func118, by kernel_rfl, by kernel_rfl, by kernel_rfl, by kernel_rfl, by kernel_rfl, by kernel_rfl⟩ (forall_cons (fun x => ⟨rfl, fun k => spec_l4Span.h9 k x.1 x.2.1 x.2.2.1 x.2.2.2.1 x.2.2.2.2.1⟩) (forall_nil)) (fun k x => spec_l4Span.hf k x.1 x.2.1) k
noncomputable def b55 : Code := Try.f55.body.getD .skip
theorem e55 : OM.Entry Try.prog 55 := ⟨_, Try.func55, by kernel_rfl, by kernel_rfl⟩
@[reducible] noncomputable def spec_Holds.g : Sig := ⟨[.fz tConfig, .fz (.sl (.int .i64))], [.v .bool .z], []⟩
@[reducible] noncomputable def spec_Holds.fk : Nat → denI spec_Holds.g.pms → Option (denR (outTys spec_Holds.g.rts spec_Holds.g.pms)) := fun k x => spec_Holds.f k x.1 x.2.1
@[reducible] noncomputable def spec_Holds.sm (k : Nat) : Sm := ⟨55, spec_Holds.g.pms, spec_Holds.g.rts, spec_Holds.fk k⟩
noncomputable def spec_Holds.E (k : Nat) : Env := ⟨tys, [spec_NodesOk.sm k, spec_l4Span.sm k], [], [], []⟩
noncomputable def spec_Holds.pts : List (Pt (denR (outTys spec_Holds.g.rts spec_Holds.g.pms))) := []
theorem spec_Holds.hf (k : Nat) (a0 : Config) (a1 : (List Int)) : (spec_Holds.f k a0 a1 : Option (denR (outTys spec_Holds.g.rts spec_Holds.g.pms))) = evC (spec_Holds.E k) (fun κ s => lhOf k κ s spec_Holds.pts) b55 (OM.start spec_Holds.g.pms 0 (a0, a1, ())) (OM.fin spec_Holds.g Try.f55.results.toList) := by kernel_rfl
theorem spec_Holds.ok (k : Nat) : SmOk Try.prog (spec_Holds.sm k) :=
  sm_ok mixed (E := spec_Holds.E) (pts := spec_Holds.pts) (fun k => ⟨⟨tysOk, by kernel_rfl⟩, forall_cons ⟨spec_NodesOk.ok k, e64⟩ (forall_cons ⟨spec_l4Span.ok k, e118⟩ (forall_nil))⟩) (fun _ => rfl) (fun _ => rfl)
    ⟨Try.func55, by kernel_rfl, by kernel_rfl, by kernel_rfl, by kernel_rfl, by kernel_rfl, by kernel_rfl⟩ (forall_nil) (fun k x => spec_Holds.hf k x.1 x.2.1) k
noncomputable def b111 : Code := Try.f111.body.getD .skip
theorem e111 : OM.Entry Try.prog 111 := ⟨_, Try.func111, by kernel_rfl, by kernel_rfl⟩
@[reducible] noncomputable def spec_WriterOk.g : Sig := ⟨[.fz tConfig, .fz tWriter], [.v .bool .z], []⟩
@[reducible] noncomputable def spec_WriterOk.fk : Nat → denI spec_WriterOk.g.pms → Option (denR (outTys spec_WriterOk.g.rts spec_WriterOk.g.pms)) := fun k x => spec_WriterOk.f k x.1 x.2.1
@[reducible] noncomputable def spec_WriterOk.sm (k : Nat) : Sm := ⟨111, spec_WriterOk.g.pms, spec_WriterOk.g.rts, spec_WriterOk.fk k⟩
noncomputable def spec_WriterOk.E (k : Nat) : Env := ⟨tys, [spec_l1In.sm k, spec_ConfigOk.sm k, spec_NodesOk.sm k, spec_Holds.sm k], [34], [], [4]⟩
@[reducible] noncomputable def spec_WriterOk.s11 : List Slot := [.r 8 9 [] tConfig, .r 12 13 [] tWriter, .v 20 (.int .i64) .z [] 0, .v 24 (.int .i64) .z [] 0, .v 9 tConfig .z [] 0, .v 13 tWriter .z [] 0]
noncomputable def spec_WriterOk.pts : List (Pt (denR (outTys spec_WriterOk.g.rts spec_WriterOk.g.pms))) := [⟨11, spec_WriterOk.s11, fun k x => spec_WriterOk.p11 k x.1 x.2.1 x.2.2.1 x.2.2.2.1⟩]
theorem spec_WriterOk.h11 (k : Nat) (x0 : Int) (x1 : Int) (x2 : Config) (x3 : Writer) : (spec_WriterOk.p11 (k + 1) x0 x1 x2 x3 : Option (denR (outTys spec_WriterOk.g.rts spec_WriterOk.g.pms))) = evAt (spec_WriterOk.E k) (fun κ s => lhOf k κ s spec_WriterOk.pts) 11 b111 (unproj spec_WriterOk.s11 (x0, x1, x2, x3, ())) (OM.fin spec_WriterOk.g Try.f111.results.toList) := by kernel_rfl
theorem spec_WriterOk.hf (k : Nat) (a0 : Config) (a1 : Writer) : (spec_WriterOk.f k a0 a1 : Option (denR (outTys spec_WriterOk.g.rts spec_WriterOk.g.pms))) = evC (spec_WriterOk.E k) (fun κ s => lhOf k κ s spec_WriterOk.pts) b111 (OM.start spec_WriterOk.g.pms 0 (a0, a1, ())) (OM.fin spec_WriterOk.g Try.f111.results.toList) := by kernel_rfl
theorem spec_WriterOk.ok (k : Nat) : SmOk Try.prog (spec_WriterOk.sm k) :=
  sm_ok mixed (E := spec_WriterOk.E) (pts := spec_WriterOk.pts) (fun k => ⟨⟨tysOk, by kernel_rfl⟩, forall_cons ⟨spec_l1In.ok k, e63⟩ (forall_cons ⟨spec_ConfigOk.ok k, e62⟩ (forall_cons ⟨spec_NodesOk.ok k, e64⟩ (forall_cons ⟨spec_Holds.ok k, e55⟩ (forall_nil))))⟩) (fun _ => rfl) (fun _ => rfl)
    ⟨Try.func111, by kernel_rfl, by kernel_rfl, by kernel_rfl, by kernel_rfl, by kernel_rfl, by kernel_rfl⟩ (forall_cons (fun x => ⟨rfl, fun k => spec_WriterOk.h11 k x.1 x.2.1 x.2.2.1 x.2.2.2.1⟩) (forall_nil)) (fun k x => spec_WriterOk.hf k x.1 x.2.1) k
noncomputable def b112 : Code := Try.f112.body.getD .skip
theorem e112 : OM.Entry Try.prog 112 := ⟨_, Try.func112, by kernel_rfl, by kernel_rfl⟩
@[reducible] noncomputable def spec_l8Copy.g : Sig := ⟨[.fz tWriter], [.v tWriter (.two .z (.two (.own (.two .z (.two (.own .z) .z))) .z))], []⟩
@[reducible] noncomputable def spec_l8Copy.fk : Nat → denI spec_l8Copy.g.pms → Option (denR (outTys spec_l8Copy.g.rts spec_l8Copy.g.pms)) := fun k x => spec_l8Copy.f k x.1
@[reducible] noncomputable def spec_l8Copy.sm (k : Nat) : Sm := ⟨112, spec_l8Copy.g.pms, spec_l8Copy.g.rts, spec_l8Copy.fk k⟩
noncomputable def spec_l8Copy.E (k : Nat) : Env := ⟨tys, [], [20, 28], [], []⟩
@[reducible] noncomputable def spec_l8Copy.s7 : List Slot := [.r 4 5 [] tWriter, .r 8 9 [] tWriter, .r 12 13 [] tWriter, .v 16 (.int .i64) .z [] 0, .v 5 tWriter .z [] 0, .v 9 tWriter (.two .z (.two (.own .a) .z)) [] 0, .v 13 tWriter (.two .z (.two (.own (.two .z (.two (.own .z) .z))) .z)) [] 0]
noncomputable def spec_l8Copy.pts : List (Pt (denR (outTys spec_l8Copy.g.rts spec_l8Copy.g.pms))) := [⟨7, spec_l8Copy.s7, fun k x => spec_l8Copy.p7 k x.1 x.2.1 x.2.2.1 x.2.2.2.1⟩]
theorem spec_l8Copy.h7 (k : Nat) (x0 : Int) (x1 : Writer) (x2 : Writer) (x3 : Writer) : (spec_l8Copy.p7 (k + 1) x0 x1 x2 x3 : Option (denR (outTys spec_l8Copy.g.rts spec_l8Copy.g.pms))) = evAt (spec_l8Copy.E k) (fun κ s => lhOf k κ s spec_l8Copy.pts) 7 b112 (unproj spec_l8Copy.s7 (x0, x1, x2, x3, ())) (OM.fin spec_l8Copy.g Try.f112.results.toList) := by kernel_rfl
theorem spec_l8Copy.hf (k : Nat) (a0 : Writer) : (spec_l8Copy.f k a0 : Option (denR (outTys spec_l8Copy.g.rts spec_l8Copy.g.pms))) = evC (spec_l8Copy.E k) (fun κ s => lhOf k κ s spec_l8Copy.pts) b112 (OM.start spec_l8Copy.g.pms 0 (a0, ())) (OM.fin spec_l8Copy.g Try.f112.results.toList) := by kernel_rfl
theorem spec_l8Copy.ok (k : Nat) : SmOk Try.prog (spec_l8Copy.sm k) :=
  sm_ok mixed (E := spec_l8Copy.E) (pts := spec_l8Copy.pts) (fun k => ⟨⟨tysOk, by kernel_rfl⟩, forall_nil⟩) (fun _ => rfl) (fun _ => rfl)
    ⟨Try.func112, by kernel_rfl, by kernel_rfl, by kernel_rfl, by kernel_rfl, by kernel_rfl, by kernel_rfl⟩ (forall_cons (fun x => ⟨rfl, fun k => spec_l8Copy.h7 k x.1 x.2.1 x.2.2.1 x.2.2.2.1⟩) (forall_nil)) (fun k x => spec_l8Copy.hf k x.1) k
noncomputable def b166 : Code := Try.f166.body.getD .skip
theorem e166 : OM.Entry Try.prog 166 := ⟨_, Try.func166, by kernel_rfl, by kernel_rfl⟩
@[reducible] noncomputable def spec_WriterAdd.g : Sig := ⟨[.fz tConfig, .fz tWriter, .fz .str], [.v tWriter (.two .z (.two (.own (.two .z (.two (.own .z) .z))) .z)), .v (.int .i64) .z, .v .bool .z], []⟩
@[reducible] noncomputable def spec_WriterAdd.fk : Nat → denI spec_WriterAdd.g.pms → Option (denR (outTys spec_WriterAdd.g.rts spec_WriterAdd.g.pms)) := fun k x => spec_WriterAdd.f k x.1 x.2.1 x.2.2.1
@[reducible] noncomputable def spec_WriterAdd.sm (k : Nat) : Sm := ⟨166, spec_WriterAdd.g.pms, spec_WriterAdd.g.rts, spec_WriterAdd.fk k⟩
noncomputable def spec_WriterAdd.E (k : Nat) : Env := ⟨tys, [spec_WriterOk.sm k, spec_l8Copy.sm k], [19], [], []⟩
noncomputable def spec_WriterAdd.pts : List (Pt (denR (outTys spec_WriterAdd.g.rts spec_WriterAdd.g.pms))) := []
theorem spec_WriterAdd.hf (k : Nat) (a0 : Config) (a1 : Writer) (a2 : ByteArray) : (spec_WriterAdd.f k a0 a1 a2 : Option (denR (outTys spec_WriterAdd.g.rts spec_WriterAdd.g.pms))) = evC (spec_WriterAdd.E k) (fun κ s => lhOf k κ s spec_WriterAdd.pts) b166 (OM.start spec_WriterAdd.g.pms 0 (a0, a1, a2, ())) (OM.fin spec_WriterAdd.g Try.f166.results.toList) := by kernel_rfl
theorem spec_WriterAdd.ok (k : Nat) : SmOk Try.prog (spec_WriterAdd.sm k) :=
  sm_ok mixed (E := spec_WriterAdd.E) (pts := spec_WriterAdd.pts) (fun k => ⟨⟨tysOk, by kernel_rfl⟩, forall_cons ⟨spec_WriterOk.ok k, e111⟩ (forall_cons ⟨spec_l8Copy.ok k, e112⟩ (forall_nil))⟩) (fun _ => rfl) (fun _ => rfl)
    ⟨Try.func166, by kernel_rfl, by kernel_rfl, by kernel_rfl, by kernel_rfl, by kernel_rfl, by kernel_rfl⟩ (forall_nil) (fun k x => spec_WriterAdd.hf k x.1 x.2.1 x.2.2.1) k
noncomputable def b161 : Code := Try.f161.body.getD .skip
theorem e161 : OM.Entry Try.prog 161 := ⟨_, Try.func161, by kernel_rfl, by kernel_rfl⟩
@[reducible] noncomputable def spec_l1Max.g : Sig := ⟨[.fz (.int .i64), .fz (.int .i64)], [.v (.int .i64) .z], []⟩
@[reducible] noncomputable def spec_l1Max.fk : Nat → denI spec_l1Max.g.pms → Option (denR (outTys spec_l1Max.g.rts spec_l1Max.g.pms)) := fun k x => spec_l1Max.f x.1 x.2.1
@[reducible] noncomputable def spec_l1Max.sm (k : Nat) : Sm := ⟨161, spec_l1Max.g.pms, spec_l1Max.g.rts, spec_l1Max.fk k⟩
noncomputable def spec_l1Max.E (k : Nat) : Env := ⟨tys, [], [], [], []⟩
noncomputable def spec_l1Max.pts : List (Pt (denR (outTys spec_l1Max.g.rts spec_l1Max.g.pms))) := []
theorem spec_l1Max.hf (k : Nat) (a0 : Int) (a1 : Int) : (spec_l1Max.f a0 a1 : Option (denR (outTys spec_l1Max.g.rts spec_l1Max.g.pms))) = evC (spec_l1Max.E k) (fun κ s => lhOf k κ s spec_l1Max.pts) b161 (OM.start spec_l1Max.g.pms 0 (a0, a1, ())) (OM.fin spec_l1Max.g Try.f161.results.toList) := by kernel_rfl
theorem spec_l1Max.ok (k : Nat) : SmOk Try.prog (spec_l1Max.sm k) :=
  sm_ok mixed (E := spec_l1Max.E) (pts := spec_l1Max.pts) (fun k => ⟨⟨tysOk, by kernel_rfl⟩, forall_nil⟩) (fun _ => rfl) (fun _ => rfl)
    ⟨Try.func161, by kernel_rfl, by kernel_rfl, by kernel_rfl, by kernel_rfl, by kernel_rfl, by kernel_rfl⟩ (forall_nil) (fun k x => spec_l1Max.hf k x.1 x.2.1) k
noncomputable def b155 : Code := Try.f155.body.getD .skip
theorem e155 : OM.Entry Try.prog 155 := ⟨_, Try.func155, by kernel_rfl, by kernel_rfl⟩
@[reducible] noncomputable def spec_l4Has.g : Sig := ⟨[.fz (.sl (.int .i64)), .fz (.int .i64)], [.v .bool .z], []⟩
@[reducible] noncomputable def spec_l4Has.fk : Nat → denI spec_l4Has.g.pms → Option (denR (outTys spec_l4Has.g.rts spec_l4Has.g.pms)) := fun k x => spec_l4Has.f k x.1 x.2.1
@[reducible] noncomputable def spec_l4Has.sm (k : Nat) : Sm := ⟨155, spec_l4Has.g.pms, spec_l4Has.g.rts, spec_l4Has.fk k⟩
noncomputable def spec_l4Has.E (k : Nat) : Env := ⟨tys, [], [], [], []⟩
@[reducible] noncomputable def spec_l4Has.s5 : List Slot := [.v 0 (.sl (.int .i64)) .z [] 0, .v 4 (.int .i64) .z [] 0, .v 20 (.int .i64) .z [] 0]
noncomputable def spec_l4Has.pts : List (Pt (denR (outTys spec_l4Has.g.rts spec_l4Has.g.pms))) := [⟨5, spec_l4Has.s5, fun k x => spec_l4Has.p5 k x.1 x.2.1 x.2.2.1⟩]
theorem spec_l4Has.h5 (k : Nat) (x0 : (List Int)) (x1 : Int) (x2 : Int) : (spec_l4Has.p5 (k + 1) x0 x1 x2 : Option (denR (outTys spec_l4Has.g.rts spec_l4Has.g.pms))) = evAt (spec_l4Has.E k) (fun κ s => lhOf k κ s spec_l4Has.pts) 5 b155 (unproj spec_l4Has.s5 (x0, x1, x2, ())) (OM.fin spec_l4Has.g Try.f155.results.toList) := by kernel_rfl
theorem spec_l4Has.hf (k : Nat) (a0 : (List Int)) (a1 : Int) : (spec_l4Has.f k a0 a1 : Option (denR (outTys spec_l4Has.g.rts spec_l4Has.g.pms))) = evC (spec_l4Has.E k) (fun κ s => lhOf k κ s spec_l4Has.pts) b155 (OM.start spec_l4Has.g.pms 0 (a0, a1, ())) (OM.fin spec_l4Has.g Try.f155.results.toList) := by kernel_rfl
theorem spec_l4Has.ok (k : Nat) : SmOk Try.prog (spec_l4Has.sm k) :=
  sm_ok mixed (E := spec_l4Has.E) (pts := spec_l4Has.pts) (fun k => ⟨⟨tysOk, by kernel_rfl⟩, forall_nil⟩) (fun _ => rfl) (fun _ => rfl)
    ⟨Try.func155, by kernel_rfl, by kernel_rfl, by kernel_rfl, by kernel_rfl, by kernel_rfl, by kernel_rfl⟩ (forall_cons (fun x => ⟨rfl, fun k => spec_l4Has.h5 k x.1 x.2.1 x.2.2.1⟩) (forall_nil)) (fun k x => spec_l4Has.hf k x.1 x.2.1) k
noncomputable def b160 : Code := Try.f160.body.getD .skip
theorem e160 : OM.Entry Try.prog 160 := ⟨_, Try.func160, by kernel_rfl, by kernel_rfl⟩
@[reducible] noncomputable def spec_l4Put.g : Sig := ⟨[.fz (.sl (.int .i64)), .fz (.int .i64)], [.v (.sl (.int .i64)) (.own .z)], []⟩
@[reducible] noncomputable def spec_l4Put.fk : Nat → denI spec_l4Put.g.pms → Option (denR (outTys spec_l4Put.g.rts spec_l4Put.g.pms)) := fun k x => spec_l4Put.f k x.1 x.2.1
@[reducible] noncomputable def spec_l4Put.sm (k : Nat) : Sm := ⟨160, spec_l4Put.g.pms, spec_l4Put.g.rts, spec_l4Put.fk k⟩
noncomputable def spec_l4Put.E (k : Nat) : Env := ⟨tys, [spec_l4Has.sm k], [36, 42], [], []⟩
@[reducible] noncomputable def spec_l4Put.s9 : List Slot := [.v 0 (.sl (.int .i64)) .z [] 0, .v 4 (.int .i64) .z [] 0, .v 20 (.sl (.int .i64)) (.own .z) [] 0, .v 24 .bool .z [] 0, .v 28 (.int .i64) .z [] 0]
noncomputable def spec_l4Put.pts : List (Pt (denR (outTys spec_l4Put.g.rts spec_l4Put.g.pms))) := [⟨9, spec_l4Put.s9, fun k x => spec_l4Put.p9 k x.1 x.2.1 x.2.2.1 x.2.2.2.1 x.2.2.2.2.1⟩]
theorem spec_l4Put.h9 (k : Nat) (x0 : (List Int)) (x1 : Int) (x2 : (List Int)) (x3 : Bool) (x4 : Int) : (spec_l4Put.p9 (k + 1) x0 x1 x2 x3 x4 : Option (denR (outTys spec_l4Put.g.rts spec_l4Put.g.pms))) = evAt (spec_l4Put.E k) (fun κ s => lhOf k κ s spec_l4Put.pts) 9 b160 (unproj spec_l4Put.s9 (x0, x1, x2, x3, x4, ())) (OM.fin spec_l4Put.g Try.f160.results.toList) := by kernel_rfl
theorem spec_l4Put.hf (k : Nat) (a0 : (List Int)) (a1 : Int) : (spec_l4Put.f k a0 a1 : Option (denR (outTys spec_l4Put.g.rts spec_l4Put.g.pms))) = evC (spec_l4Put.E k) (fun κ s => lhOf k κ s spec_l4Put.pts) b160 (OM.start spec_l4Put.g.pms 0 (a0, a1, ())) (OM.fin spec_l4Put.g Try.f160.results.toList) := by kernel_rfl
theorem spec_l4Put.ok (k : Nat) : SmOk Try.prog (spec_l4Put.sm k) :=
  sm_ok mixed (E := spec_l4Put.E) (pts := spec_l4Put.pts) (fun k => ⟨⟨tysOk, by kernel_rfl⟩, forall_cons ⟨spec_l4Has.ok k, e155⟩ (forall_nil)⟩) (fun _ => rfl) (fun _ => rfl)
    ⟨Try.func160, by kernel_rfl, by kernel_rfl, by kernel_rfl, by kernel_rfl, by kernel_rfl, by kernel_rfl⟩ (forall_cons (fun x => ⟨rfl, fun k => spec_l4Put.h9 k x.1 x.2.1 x.2.2.1 x.2.2.2.1 x.2.2.2.2.1⟩) (forall_nil)) (fun k x => spec_l4Put.hf k x.1 x.2.1) k
noncomputable def b167 : Code := Try.f167.body.getD .skip
theorem e167 : OM.Entry Try.prog 167 := ⟨_, Try.func167, by kernel_rfl, by kernel_rfl⟩
@[reducible] noncomputable def spec_WriterAck.g : Sig := ⟨[.fz tConfig, .fz tWriter, .fz (.int .i64), .fz (.int .i64)], [.v tWriter (.two .z (.two (.own (.two .z (.two (.own .z) .z))) .z)), .v .bool .z], []⟩
@[reducible] noncomputable def spec_WriterAck.fk : Nat → denI spec_WriterAck.g.pms → Option (denR (outTys spec_WriterAck.g.rts spec_WriterAck.g.pms)) := fun k x => spec_WriterAck.f k x.1 x.2.1 x.2.2.1 x.2.2.2.1
@[reducible] noncomputable def spec_WriterAck.sm (k : Nat) : Sm := ⟨167, spec_WriterAck.g.pms, spec_WriterAck.g.rts, spec_WriterAck.fk k⟩
noncomputable def spec_WriterAck.E (k : Nat) : Env := ⟨tys, [spec_l1In.sm k, spec_Holds.sm k, spec_WriterOk.sm k, spec_l8Copy.sm k, spec_l4Put.sm k], [], [], []⟩
noncomputable def spec_WriterAck.pts : List (Pt (denR (outTys spec_WriterAck.g.rts spec_WriterAck.g.pms))) := []
theorem spec_WriterAck.hf (k : Nat) (a0 : Config) (a1 : Writer) (a2 : Int) (a3 : Int) : (spec_WriterAck.f k a0 a1 a2 a3 : Option (denR (outTys spec_WriterAck.g.rts spec_WriterAck.g.pms))) = evC (spec_WriterAck.E k) (fun κ s => lhOf k κ s spec_WriterAck.pts) b167 (OM.start spec_WriterAck.g.pms 0 (a0, a1, a2, a3, ())) (OM.fin spec_WriterAck.g Try.f167.results.toList) := by kernel_rfl
theorem spec_WriterAck.ok (k : Nat) : SmOk Try.prog (spec_WriterAck.sm k) :=
  sm_ok mixed (E := spec_WriterAck.E) (pts := spec_WriterAck.pts) (fun k => ⟨⟨tysOk, by kernel_rfl⟩, forall_cons ⟨spec_l1In.ok k, e63⟩ (forall_cons ⟨spec_Holds.ok k, e55⟩ (forall_cons ⟨spec_WriterOk.ok k, e111⟩ (forall_cons ⟨spec_l8Copy.ok k, e112⟩ (forall_cons ⟨spec_l4Put.ok k, e160⟩ (forall_nil)))))⟩) (fun _ => rfl) (fun _ => rfl)
    ⟨Try.func167, by kernel_rfl, by kernel_rfl, by kernel_rfl, by kernel_rfl, by kernel_rfl, by kernel_rfl⟩ (forall_nil) (fun k x => spec_WriterAck.hf k x.1 x.2.1 x.2.2.1 x.2.2.2.1) k
noncomputable def b152 : Code := Try.f152.body.getD .skip
theorem e152 : OM.Entry Try.prog 152 := ⟨_, Try.func152, by kernel_rfl, by kernel_rfl⟩
@[reducible] noncomputable def spec_l8DrawRight.g : Sig := ⟨[.ptr tl1Cur .z .z, .fz tConfig], [.v tWriter (.two .z (.two (.own .z) .z))], []⟩
@[reducible] noncomputable def spec_l8DrawRight.fk : Nat → denI spec_l8DrawRight.g.pms → Option (denR (outTys spec_l8DrawRight.g.rts spec_l8DrawRight.g.pms)) := fun k x => spec_l8DrawRight.f k x.1 x.2.1
@[reducible] noncomputable def spec_l8DrawRight.sm (k : Nat) : Sm := ⟨152, spec_l8DrawRight.g.pms, spec_l8DrawRight.g.rts, spec_l8DrawRight.fk k⟩
noncomputable def spec_l8DrawRight.E (k : Nat) : Env := ⟨tys, [spec_l1Below.sm k, spec_l1Once.sm k, spec_l1Pick.sm k, spec_WriterAdd.sm k, spec_l1Max.sm k, spec_WriterAck.sm k], [51], [], []⟩
@[reducible] noncomputable def spec_l8DrawRight.s7 : List Slot := [.r 0 36001 [] tl1Cur, .r 12 13 [] tConfig, .r 16 17 [] tWriter, .r 20 21 [] tWriter, .v 24 (.int .i64) .z [] 0, .v 13 tConfig .z [] 0, .v 17 tWriter (.two .z (.two (.own .a) .z)) [] 0, .v 21 tWriter (.two .z (.two (.own (.two .z (.two (.own .z) .z))) .z)) [] 0, .v 36001 tl1Cur .z [] 0]
noncomputable def spec_l8DrawRight.pts : List (Pt (denR (outTys spec_l8DrawRight.g.rts spec_l8DrawRight.g.pms))) := [⟨7, spec_l8DrawRight.s7, fun k x => spec_l8DrawRight.p7 k x.1 x.2.1 x.2.2.1 x.2.2.2.1 x.2.2.2.2.1⟩]
theorem spec_l8DrawRight.h7 (k : Nat) (x0 : Int) (x1 : Config) (x2 : Writer) (x3 : Writer) (x4 : l1Cur) : (spec_l8DrawRight.p7 (k + 1) x0 x1 x2 x3 x4 : Option (denR (outTys spec_l8DrawRight.g.rts spec_l8DrawRight.g.pms))) = evAt (spec_l8DrawRight.E k) (fun κ s => lhOf k κ s spec_l8DrawRight.pts) 7 b152 (unproj spec_l8DrawRight.s7 (x0, x1, x2, x3, x4, ())) (OM.fin spec_l8DrawRight.g Try.f152.results.toList) := by kernel_rfl
theorem spec_l8DrawRight.hf (k : Nat) (a0 : l1Cur) (a1 : Config) : (spec_l8DrawRight.f k a0 a1 : Option (denR (outTys spec_l8DrawRight.g.rts spec_l8DrawRight.g.pms))) = evC (spec_l8DrawRight.E k) (fun κ s => lhOf k κ s spec_l8DrawRight.pts) b152 (OM.start spec_l8DrawRight.g.pms 0 (a0, a1, ())) (OM.fin spec_l8DrawRight.g Try.f152.results.toList) := by kernel_rfl
theorem spec_l8DrawRight.ok (k : Nat) : SmOk Try.prog (spec_l8DrawRight.sm k) :=
  sm_ok mixed (E := spec_l8DrawRight.E) (pts := spec_l8DrawRight.pts) (fun k => ⟨⟨tysOk, by kernel_rfl⟩, forall_cons ⟨spec_l1Below.ok k, e71⟩ (forall_cons ⟨spec_l1Once.ok k, e54⟩ (forall_cons ⟨spec_l1Pick.ok k, e164⟩ (forall_cons ⟨spec_WriterAdd.ok k, e166⟩ (forall_cons ⟨spec_l1Max.ok k, e161⟩ (forall_cons ⟨spec_WriterAck.ok k, e167⟩ (forall_nil))))))⟩) (fun _ => rfl) (fun _ => rfl)
    ⟨Try.func152, by kernel_rfl, by kernel_rfl, by kernel_rfl, by kernel_rfl, by kernel_rfl, by kernel_rfl⟩ (forall_cons (fun x => ⟨rfl, fun k => spec_l8DrawRight.h7 k x.1 x.2.1 x.2.2.1 x.2.2.2.1 x.2.2.2.2.1⟩) (forall_nil)) (fun k x => spec_l8DrawRight.hf k x.1 x.2.1) k
noncomputable def b108 : Code := Try.f108.body.getD .skip
theorem e108 : OM.Entry Try.prog 108 := ⟨_, Try.func108, by kernel_rfl, by kernel_rfl⟩
@[reducible] noncomputable def spec_l8Draw.g : Sig := ⟨[.ptr tl1Cur .z .z, .fz tConfig], [.v tWriter (.two .z (.two (.own .z) .z))], []⟩
@[reducible] noncomputable def spec_l8Draw.fk : Nat → denI spec_l8Draw.g.pms → Option (denR (outTys spec_l8Draw.g.rts spec_l8Draw.g.pms)) := fun k x => spec_l8Draw.f k x.1 x.2.1
@[reducible] noncomputable def spec_l8Draw.sm (k : Nat) : Sm := ⟨108, spec_l8Draw.g.pms, spec_l8Draw.g.rts, spec_l8Draw.fk k⟩
noncomputable def spec_l8Draw.E (k : Nat) : Env := ⟨tys, [spec_l1Below.sm k, spec_l1PickInt.sm k, spec_l8DrawRight.sm k], [63], [], []⟩
@[reducible] noncomputable def spec_l8Draw.s23 : List Slot := [.r 0 36001 [] tl1Cur, .r 16 17 [] tWriter, .r 20 21 [] tWriter, .v 17 tWriter (.two .z (.two (.own .a) .z)) [] 0, .v 21 tWriter (.two .z (.two (.own .z) .z)) [] 0, .v 36001 tl1Cur .z [] 0]
noncomputable def spec_l8Draw.pts : List (Pt (denR (outTys spec_l8Draw.g.rts spec_l8Draw.g.pms))) := [⟨23, spec_l8Draw.s23, fun k x => spec_l8Draw.p23 k x.1 x.2.1 x.2.2.1⟩]
theorem spec_l8Draw.h23 (k : Nat) (x0 : Writer) (x1 : Writer) (x2 : l1Cur) : (spec_l8Draw.p23 (k + 1) x0 x1 x2 : Option (denR (outTys spec_l8Draw.g.rts spec_l8Draw.g.pms))) = evAt (spec_l8Draw.E k) (fun κ s => lhOf k κ s spec_l8Draw.pts) 23 b108 (unproj spec_l8Draw.s23 (x0, x1, x2, ())) (OM.fin spec_l8Draw.g Try.f108.results.toList) := by kernel_rfl
theorem spec_l8Draw.hf (k : Nat) (a0 : l1Cur) (a1 : Config) : (spec_l8Draw.f k a0 a1 : Option (denR (outTys spec_l8Draw.g.rts spec_l8Draw.g.pms))) = evC (spec_l8Draw.E k) (fun κ s => lhOf k κ s spec_l8Draw.pts) b108 (OM.start spec_l8Draw.g.pms 0 (a0, a1, ())) (OM.fin spec_l8Draw.g Try.f108.results.toList) := by kernel_rfl
theorem spec_l8Draw.ok (k : Nat) : SmOk Try.prog (spec_l8Draw.sm k) :=
  sm_ok mixed (E := spec_l8Draw.E) (pts := spec_l8Draw.pts) (fun k => ⟨⟨tysOk, by kernel_rfl⟩, forall_cons ⟨spec_l1Below.ok k, e71⟩ (forall_cons ⟨spec_l1PickInt.ok k, e91⟩ (forall_cons ⟨spec_l8DrawRight.ok k, e152⟩ (forall_nil)))⟩) (fun _ => rfl) (fun _ => rfl)
    ⟨Try.func108, by kernel_rfl, by kernel_rfl, by kernel_rfl, by kernel_rfl, by kernel_rfl, by kernel_rfl⟩ (forall_cons (fun x => ⟨rfl, fun k => spec_l8Draw.h23 k x.1 x.2.1 x.2.2.1⟩) (forall_nil)) (fun k x => spec_l8Draw.hf k x.1 x.2.1) k
noncomputable def b45 : Code := Try.f45.body.getD .skip
theorem e45 : OM.Entry Try.prog 45 := ⟨_, Try.func45, by kernel_rfl, by kernel_rfl⟩
@[reducible] noncomputable def spec_DrawWriterForget.g : Sig := ⟨[.fz (.sl (.int .u8))], [.v tConfig .z, .v tWriter (.two .z (.two (.own .z) .z)), .v (.int .i64) .z], []⟩
@[reducible] noncomputable def spec_DrawWriterForget.fk : Nat → denI spec_DrawWriterForget.g.pms → Option (denR (outTys spec_DrawWriterForget.g.rts spec_DrawWriterForget.g.pms)) := fun k x => spec_DrawWriterForget.f k x.1
@[reducible] noncomputable def spec_DrawWriterForget.sm (k : Nat) : Sm := ⟨45, spec_DrawWriterForget.g.pms, spec_DrawWriterForget.g.rts, spec_DrawWriterForget.fk k⟩
noncomputable def spec_DrawWriterForget.E (k : Nat) : Env := ⟨tys, [spec_l1New.sm k, spec_l1Below.sm k, spec_l4Draw.sm k, spec_l8Draw.sm k], [], [], []⟩
noncomputable def spec_DrawWriterForget.pts : List (Pt (denR (outTys spec_DrawWriterForget.g.rts spec_DrawWriterForget.g.pms))) := []
theorem spec_DrawWriterForget.hf (k : Nat) (a0 : (List Int)) : (spec_DrawWriterForget.f k a0 : Option (denR (outTys spec_DrawWriterForget.g.rts spec_DrawWriterForget.g.pms))) = evC (spec_DrawWriterForget.E k) (fun κ s => lhOf k κ s spec_DrawWriterForget.pts) b45 (OM.start spec_DrawWriterForget.g.pms 0 (a0, ())) (OM.fin spec_DrawWriterForget.g Try.f45.results.toList) := by kernel_rfl
theorem spec_DrawWriterForget.ok (k : Nat) : SmOk Try.prog (spec_DrawWriterForget.sm k) :=
  sm_ok mixed (E := spec_DrawWriterForget.E) (pts := spec_DrawWriterForget.pts) (fun k => ⟨⟨tysOk, by kernel_rfl⟩, forall_cons ⟨spec_l1New.ok k, e70⟩ (forall_cons ⟨spec_l1Below.ok k, e71⟩ (forall_cons ⟨spec_l4Draw.ok k, e89⟩ (forall_cons ⟨spec_l8Draw.ok k, e108⟩ (forall_nil))))⟩) (fun _ => rfl) (fun _ => rfl)
    ⟨Try.func45, by kernel_rfl, by kernel_rfl, by kernel_rfl, by kernel_rfl, by kernel_rfl, by kernel_rfl⟩ (forall_nil) (fun k x => spec_DrawWriterForget.hf k x.1) k
noncomputable def b114 : Code := Try.f114.body.getD .skip
theorem e114 : OM.Entry Try.prog 114 := ⟨_, Try.func114, by kernel_rfl, by kernel_rfl⟩
@[reducible] noncomputable def impl_dataOk.g : Sig := ⟨[.fz .str], [.v .bool .z], []⟩
@[reducible] noncomputable def impl_dataOk.fk : Nat → denI impl_dataOk.g.pms → Option (denR (outTys impl_dataOk.g.rts impl_dataOk.g.pms)) := fun k x => impl_dataOk.f x.1
@[reducible] noncomputable def impl_dataOk.sm (k : Nat) : Sm := ⟨114, impl_dataOk.g.pms, impl_dataOk.g.rts, impl_dataOk.fk k⟩
noncomputable def impl_dataOk.E (k : Nat) : Env := ⟨tys, [], [], [], []⟩
noncomputable def impl_dataOk.pts : List (Pt (denR (outTys impl_dataOk.g.rts impl_dataOk.g.pms))) := []
theorem impl_dataOk.hf (k : Nat) (a0 : ByteArray) : (impl_dataOk.f a0 : Option (denR (outTys impl_dataOk.g.rts impl_dataOk.g.pms))) = evC (impl_dataOk.E k) (fun κ s => lhOf k κ s impl_dataOk.pts) b114 (OM.start impl_dataOk.g.pms 0 (a0, ())) (OM.fin impl_dataOk.g Try.f114.results.toList) := by kernel_rfl
theorem impl_dataOk.ok (k : Nat) : SmOk Try.prog (impl_dataOk.sm k) :=
  sm_ok mixed (E := impl_dataOk.E) (pts := impl_dataOk.pts) (fun k => ⟨⟨tysOk, by kernel_rfl⟩, forall_nil⟩) (fun _ => rfl) (fun _ => rfl)
    ⟨Try.func114, by kernel_rfl, by kernel_rfl, by kernel_rfl, by kernel_rfl, by kernel_rfl, by kernel_rfl⟩ (forall_nil) (fun k x => impl_dataOk.hf k x.1) k
noncomputable def b59 : Code := Try.f59.body.getD .skip
theorem e59 : OM.Entry Try.prog 59 := ⟨_, Try.func59, by kernel_rfl, by kernel_rfl⟩
@[reducible] noncomputable def impl_within.g : Sig := ⟨[.fz (.int .i64), .fz (.int .i64), .fz (.int .i64)], [.v .bool .z], []⟩
@[reducible] noncomputable def impl_within.fk : Nat → denI impl_within.g.pms → Option (denR (outTys impl_within.g.rts impl_within.g.pms)) := fun k x => impl_within.f x.1 x.2.1 x.2.2.1
@[reducible] noncomputable def impl_within.sm (k : Nat) : Sm := ⟨59, impl_within.g.pms, impl_within.g.rts, impl_within.fk k⟩
noncomputable def impl_within.E (k : Nat) : Env := ⟨tys, [], [], [], []⟩
noncomputable def impl_within.pts : List (Pt (denR (outTys impl_within.g.rts impl_within.g.pms))) := []
theorem impl_within.hf (k : Nat) (a0 : Int) (a1 : Int) (a2 : Int) : (impl_within.f a0 a1 a2 : Option (denR (outTys impl_within.g.rts impl_within.g.pms))) = evC (impl_within.E k) (fun κ s => lhOf k κ s impl_within.pts) b59 (OM.start impl_within.g.pms 0 (a0, a1, a2, ())) (OM.fin impl_within.g Try.f59.results.toList) := by kernel_rfl
theorem impl_within.ok (k : Nat) : SmOk Try.prog (impl_within.sm k) :=
  sm_ok mixed (E := impl_within.E) (pts := impl_within.pts) (fun k => ⟨⟨tysOk, by kernel_rfl⟩, forall_nil⟩) (fun _ => rfl) (fun _ => rfl)
    ⟨Try.func59, by kernel_rfl, by kernel_rfl, by kernel_rfl, by kernel_rfl, by kernel_rfl, by kernel_rfl⟩ (forall_nil) (fun k x => impl_within.hf k x.1 x.2.1 x.2.2.1) k
noncomputable def b60 : Code := Try.f60.body.getD .skip
theorem e60 : OM.Entry Try.prog 60 := ⟨_, Try.func60, by kernel_rfl, by kernel_rfl⟩
@[reducible] noncomputable def impl_ConfigOk.g : Sig := ⟨[.fz tConfig], [.v .bool .z], []⟩
@[reducible] noncomputable def impl_ConfigOk.fk : Nat → denI impl_ConfigOk.g.pms → Option (denR (outTys impl_ConfigOk.g.rts impl_ConfigOk.g.pms)) := fun k x => impl_ConfigOk.f k x.1
@[reducible] noncomputable def impl_ConfigOk.sm (k : Nat) : Sm := ⟨60, impl_ConfigOk.g.pms, impl_ConfigOk.g.rts, impl_ConfigOk.fk k⟩
noncomputable def impl_ConfigOk.E (k : Nat) : Env := ⟨tys, [impl_within.sm k], [11], [], []⟩
@[reducible] noncomputable def impl_ConfigOk.s5 : List Slot := [.r 4 5 [] tConfig, .v 24 (.sl (.int .i64)) .z [] 0, .v 28 (.int .i64) .z [] 0, .v 32 (.int .i64) .z [] 0, .v 5 tConfig .z [] 0]
noncomputable def impl_ConfigOk.pts : List (Pt (denR (outTys impl_ConfigOk.g.rts impl_ConfigOk.g.pms))) := [⟨5, impl_ConfigOk.s5, fun k x => impl_ConfigOk.p5 k x.1 x.2.1 x.2.2.1 x.2.2.2.1⟩]
theorem impl_ConfigOk.h5 (k : Nat) (x0 : (List Int)) (x1 : Int) (x2 : Int) (x3 : Config) : (impl_ConfigOk.p5 (k + 1) x0 x1 x2 x3 : Option (denR (outTys impl_ConfigOk.g.rts impl_ConfigOk.g.pms))) = evAt (impl_ConfigOk.E k) (fun κ s => lhOf k κ s impl_ConfigOk.pts) 5 b60 (unproj impl_ConfigOk.s5 (x0, x1, x2, x3, ())) (OM.fin impl_ConfigOk.g Try.f60.results.toList) := by kernel_rfl
theorem impl_ConfigOk.hf (k : Nat) (a0 : Config) : (impl_ConfigOk.f k a0 : Option (denR (outTys impl_ConfigOk.g.rts impl_ConfigOk.g.pms))) = evC (impl_ConfigOk.E k) (fun κ s => lhOf k κ s impl_ConfigOk.pts) b60 (OM.start impl_ConfigOk.g.pms 0 (a0, ())) (OM.fin impl_ConfigOk.g Try.f60.results.toList) := by kernel_rfl
theorem impl_ConfigOk.ok (k : Nat) : SmOk Try.prog (impl_ConfigOk.sm k) :=
  sm_ok mixed (E := impl_ConfigOk.E) (pts := impl_ConfigOk.pts) (fun k => ⟨⟨tysOk, by kernel_rfl⟩, forall_cons ⟨impl_within.ok k, e59⟩ (forall_nil)⟩) (fun _ => rfl) (fun _ => rfl)
    ⟨Try.func60, by kernel_rfl, by kernel_rfl, by kernel_rfl, by kernel_rfl, by kernel_rfl, by kernel_rfl⟩ (forall_cons (fun x => ⟨rfl, fun k => impl_ConfigOk.h5 k x.1 x.2.1 x.2.2.1 x.2.2.2.1⟩) (forall_nil)) (fun k x => impl_ConfigOk.hf k x.1) k
noncomputable def b119 : Code := Try.f119.body.getD .skip
theorem e119 : OM.Entry Try.prog 119 := ⟨_, Try.func119, by kernel_rfl, by kernel_rfl⟩
@[reducible] noncomputable def impl_ascends.g : Sig := ⟨[.fz (.sl (.int .i64)), .fz (.int .i64)], [.v .bool .z], []⟩
@[reducible] noncomputable def impl_ascends.fk : Nat → denI impl_ascends.g.pms → Option (denR (outTys impl_ascends.g.rts impl_ascends.g.pms)) := fun k x => impl_ascends.f k x.1 x.2.1
@[reducible] noncomputable def impl_ascends.sm (k : Nat) : Sm := ⟨119, impl_ascends.g.pms, impl_ascends.g.rts, impl_ascends.fk k⟩
noncomputable def impl_ascends.E (k : Nat) : Env := ⟨tys, [impl_within.sm k], [13], [], []⟩
@[reducible] noncomputable def impl_ascends.s5 : List Slot := [.v 0 (.sl (.int .i64)) .z [] 0, .v 4 (.int .i64) .z [] 0, .v 28 (.sl (.int .i64)) .z [] 0, .v 32 (.int .i64) .z [] 0, .v 36 (.int .i64) .z [] 0]
noncomputable def impl_ascends.pts : List (Pt (denR (outTys impl_ascends.g.rts impl_ascends.g.pms))) := [⟨5, impl_ascends.s5, fun k x => impl_ascends.p5 k x.1 x.2.1 x.2.2.1 x.2.2.2.1 x.2.2.2.2.1⟩]
theorem impl_ascends.h5 (k : Nat) (x0 : (List Int)) (x1 : Int) (x2 : (List Int)) (x3 : Int) (x4 : Int) : (impl_ascends.p5 (k + 1) x0 x1 x2 x3 x4 : Option (denR (outTys impl_ascends.g.rts impl_ascends.g.pms))) = evAt (impl_ascends.E k) (fun κ s => lhOf k κ s impl_ascends.pts) 5 b119 (unproj impl_ascends.s5 (x0, x1, x2, x3, x4, ())) (OM.fin impl_ascends.g Try.f119.results.toList) := by kernel_rfl
theorem impl_ascends.hf (k : Nat) (a0 : (List Int)) (a1 : Int) : (impl_ascends.f k a0 a1 : Option (denR (outTys impl_ascends.g.rts impl_ascends.g.pms))) = evC (impl_ascends.E k) (fun κ s => lhOf k κ s impl_ascends.pts) b119 (OM.start impl_ascends.g.pms 0 (a0, a1, ())) (OM.fin impl_ascends.g Try.f119.results.toList) := by kernel_rfl
theorem impl_ascends.ok (k : Nat) : SmOk Try.prog (impl_ascends.sm k) :=
  sm_ok mixed (E := impl_ascends.E) (pts := impl_ascends.pts) (fun k => ⟨⟨tysOk, by kernel_rfl⟩, forall_cons ⟨impl_within.ok k, e59⟩ (forall_nil)⟩) (fun _ => rfl) (fun _ => rfl)
    ⟨Try.func119, by kernel_rfl, by kernel_rfl, by kernel_rfl, by kernel_rfl, by kernel_rfl, by kernel_rfl⟩ (forall_cons (fun x => ⟨rfl, fun k => impl_ascends.h5 k x.1 x.2.1 x.2.2.1 x.2.2.2.1 x.2.2.2.2.1⟩) (forall_nil)) (fun k x => impl_ascends.hf k x.1 x.2.1) k
noncomputable def b56 : Code := Try.f56.body.getD .skip
theorem e56 : OM.Entry Try.prog 56 := ⟨_, Try.func56, by kernel_rfl, by kernel_rfl⟩
@[reducible] noncomputable def impl_NodesOk.g : Sig := ⟨[.fz tConfig, .fz (.sl (.int .i64))], [.v .bool .z], []⟩
@[reducible] noncomputable def impl_NodesOk.fk : Nat → denI impl_NodesOk.g.pms → Option (denR (outTys impl_NodesOk.g.rts impl_NodesOk.g.pms)) := fun k x => impl_NodesOk.f k x.1 x.2.1
@[reducible] noncomputable def impl_NodesOk.sm (k : Nat) : Sm := ⟨56, impl_NodesOk.g.pms, impl_NodesOk.g.rts, impl_NodesOk.fk k⟩
noncomputable def impl_NodesOk.E (k : Nat) : Env := ⟨tys, [impl_ConfigOk.sm k, impl_ascends.sm k], [], [], []⟩
noncomputable def impl_NodesOk.pts : List (Pt (denR (outTys impl_NodesOk.g.rts impl_NodesOk.g.pms))) := []
theorem impl_NodesOk.hf (k : Nat) (a0 : Config) (a1 : (List Int)) : (impl_NodesOk.f k a0 a1 : Option (denR (outTys impl_NodesOk.g.rts impl_NodesOk.g.pms))) = evC (impl_NodesOk.E k) (fun κ s => lhOf k κ s impl_NodesOk.pts) b56 (OM.start impl_NodesOk.g.pms 0 (a0, a1, ())) (OM.fin impl_NodesOk.g Try.f56.results.toList) := by kernel_rfl
theorem impl_NodesOk.ok (k : Nat) : SmOk Try.prog (impl_NodesOk.sm k) :=
  sm_ok mixed (E := impl_NodesOk.E) (pts := impl_NodesOk.pts) (fun k => ⟨⟨tysOk, by kernel_rfl⟩, forall_cons ⟨impl_ConfigOk.ok k, e60⟩ (forall_cons ⟨impl_ascends.ok k, e119⟩ (forall_nil))⟩) (fun _ => rfl) (fun _ => rfl)
    ⟨Try.func56, by kernel_rfl, by kernel_rfl, by kernel_rfl, by kernel_rfl, by kernel_rfl, by kernel_rfl⟩ (forall_nil) (fun k x => impl_NodesOk.hf k x.1 x.2.1) k
noncomputable def b157 : Code := Try.f157.body.getD .skip
theorem e157 : OM.Entry Try.prog 157 := ⟨_, Try.func157, by kernel_rfl, by kernel_rfl⟩
@[reducible] noncomputable def slices_Index_int_int.g : Sig := ⟨[.fz (.sl (.int .i64)), .fz (.int .i64)], [.v (.int .i64) .z], []⟩
@[reducible] noncomputable def slices_Index_int_int.fk : Nat → denI slices_Index_int_int.g.pms → Option (denR (outTys slices_Index_int_int.g.rts slices_Index_int_int.g.pms)) := fun k x => slices_Index_int_int.f k x.1 x.2.1
@[reducible] noncomputable def slices_Index_int_int.sm (k : Nat) : Sm := ⟨157, slices_Index_int_int.g.pms, slices_Index_int_int.g.rts, slices_Index_int_int.fk k⟩
noncomputable def slices_Index_int_int.E (k : Nat) : Env := ⟨tys, [], [], [], []⟩
@[reducible] noncomputable def slices_Index_int_int.s5 : List Slot := [.v 0 (.sl (.int .i64)) .z [] 0, .v 4 (.int .i64) .z [] 0, .v 28 (.int .i64) .z [] 0, .v 32 (.int .i64) .z [] 0]
noncomputable def slices_Index_int_int.pts : List (Pt (denR (outTys slices_Index_int_int.g.rts slices_Index_int_int.g.pms))) := [⟨5, slices_Index_int_int.s5, fun k x => slices_Index_int_int.p5 k x.1 x.2.1 x.2.2.1 x.2.2.2.1⟩]
theorem slices_Index_int_int.h5 (k : Nat) (x0 : (List Int)) (x1 : Int) (x2 : Int) (x3 : Int) : (slices_Index_int_int.p5 (k + 1) x0 x1 x2 x3 : Option (denR (outTys slices_Index_int_int.g.rts slices_Index_int_int.g.pms))) = evAt (slices_Index_int_int.E k) (fun κ s => lhOf k κ s slices_Index_int_int.pts) 5 b157 (unproj slices_Index_int_int.s5 (x0, x1, x2, x3, ())) (OM.fin slices_Index_int_int.g Try.f157.results.toList) := by kernel_rfl
theorem slices_Index_int_int.hf (k : Nat) (a0 : (List Int)) (a1 : Int) : (slices_Index_int_int.f k a0 a1 : Option (denR (outTys slices_Index_int_int.g.rts slices_Index_int_int.g.pms))) = evC (slices_Index_int_int.E k) (fun κ s => lhOf k κ s slices_Index_int_int.pts) b157 (OM.start slices_Index_int_int.g.pms 0 (a0, a1, ())) (OM.fin slices_Index_int_int.g Try.f157.results.toList) := by kernel_rfl
theorem slices_Index_int_int.ok (k : Nat) : SmOk Try.prog (slices_Index_int_int.sm k) :=
  sm_ok mixed (E := slices_Index_int_int.E) (pts := slices_Index_int_int.pts) (fun k => ⟨⟨tysOk, by kernel_rfl⟩, forall_nil⟩) (fun _ => rfl) (fun _ => rfl)
    ⟨Try.func157, by kernel_rfl, by kernel_rfl, by kernel_rfl, by kernel_rfl, by kernel_rfl, by kernel_rfl⟩ (forall_cons (fun x => ⟨rfl, fun k => slices_Index_int_int.h5 k x.1 x.2.1 x.2.2.1 x.2.2.2.1⟩) (forall_nil)) (fun k x => slices_Index_int_int.hf k x.1 x.2.1) k
noncomputable def b124 : Code := Try.f124.body.getD .skip
theorem e124 : OM.Entry Try.prog 124 := ⟨_, Try.func124, by kernel_rfl, by kernel_rfl⟩
@[reducible] noncomputable def slices_Contains_int_int.g : Sig := ⟨[.fz (.sl (.int .i64)), .fz (.int .i64)], [.v .bool .z], []⟩
@[reducible] noncomputable def slices_Contains_int_int.fk : Nat → denI slices_Contains_int_int.g.pms → Option (denR (outTys slices_Contains_int_int.g.rts slices_Contains_int_int.g.pms)) := fun k x => slices_Contains_int_int.f k x.1 x.2.1
@[reducible] noncomputable def slices_Contains_int_int.sm (k : Nat) : Sm := ⟨124, slices_Contains_int_int.g.pms, slices_Contains_int_int.g.rts, slices_Contains_int_int.fk k⟩
noncomputable def slices_Contains_int_int.E (k : Nat) : Env := ⟨tys, [slices_Index_int_int.sm k], [], [], []⟩
noncomputable def slices_Contains_int_int.pts : List (Pt (denR (outTys slices_Contains_int_int.g.rts slices_Contains_int_int.g.pms))) := []
theorem slices_Contains_int_int.hf (k : Nat) (a0 : (List Int)) (a1 : Int) : (slices_Contains_int_int.f k a0 a1 : Option (denR (outTys slices_Contains_int_int.g.rts slices_Contains_int_int.g.pms))) = evC (slices_Contains_int_int.E k) (fun κ s => lhOf k κ s slices_Contains_int_int.pts) b124 (OM.start slices_Contains_int_int.g.pms 0 (a0, a1, ())) (OM.fin slices_Contains_int_int.g Try.f124.results.toList) := by kernel_rfl
theorem slices_Contains_int_int.ok (k : Nat) : SmOk Try.prog (slices_Contains_int_int.sm k) :=
  sm_ok mixed (E := slices_Contains_int_int.E) (pts := slices_Contains_int_int.pts) (fun k => ⟨⟨tysOk, by kernel_rfl⟩, forall_cons ⟨slices_Index_int_int.ok k, e157⟩ (forall_nil)⟩) (fun _ => rfl) (fun _ => rfl)
    ⟨Try.func124, by kernel_rfl, by kernel_rfl, by kernel_rfl, by kernel_rfl, by kernel_rfl, by kernel_rfl⟩ (forall_nil) (fun k x => slices_Contains_int_int.hf k x.1 x.2.1) k
noncomputable def b69 : Code := Try.f69.body.getD .skip
theorem e69 : OM.Entry Try.prog 69 := ⟨_, Try.func69, by kernel_rfl, by kernel_rfl⟩
@[reducible] noncomputable def impl_SpanOf.g : Sig := ⟨[.fz tConfig, .fz (.sl (.int .i64))], [.v (.int .i64) .z], []⟩
@[reducible] noncomputable def impl_SpanOf.fk : Nat → denI impl_SpanOf.g.pms → Option (denR (outTys impl_SpanOf.g.rts impl_SpanOf.g.pms)) := fun k x => impl_SpanOf.f k x.1 x.2.1
@[reducible] noncomputable def impl_SpanOf.sm (k : Nat) : Sm := ⟨69, impl_SpanOf.g.pms, impl_SpanOf.g.rts, impl_SpanOf.fk k⟩
noncomputable def impl_SpanOf.E (k : Nat) : Env := ⟨tys, [impl_NodesOk.sm k, slices_Contains_int_int.sm k], [18, 32], [], []⟩
@[reducible] noncomputable def impl_SpanOf.s11 : List Slot := [.r 8 9 [] tConfig, .v 20 (.sl (.int .i64)) (.own .z) [] 0, .v 52 (.sl (.int .i64)) .z [] 0, .v 56 (.int .i64) .z [] 0, .v 60 (.int .i64) .z [] 0, .v 9 tConfig .z [] 0]
noncomputable def impl_SpanOf.pts : List (Pt (denR (outTys impl_SpanOf.g.rts impl_SpanOf.g.pms))) := [⟨11, impl_SpanOf.s11, fun k x => impl_SpanOf.p11 k x.1 x.2.1 x.2.2.1 x.2.2.2.1 x.2.2.2.2.1⟩]
theorem impl_SpanOf.h11 (k : Nat) (x0 : (List Int)) (x1 : (List Int)) (x2 : Int) (x3 : Int) (x4 : Config) : (impl_SpanOf.p11 (k + 1) x0 x1 x2 x3 x4 : Option (denR (outTys impl_SpanOf.g.rts impl_SpanOf.g.pms))) = evAt (impl_SpanOf.E k) (fun κ s => lhOf k κ s impl_SpanOf.pts) 11 b69 (unproj impl_SpanOf.s11 (x0, x1, x2, x3, x4, ())) (OM.fin impl_SpanOf.g Try.f69.results.toList) := by kernel_rfl
theorem impl_SpanOf.hf (k : Nat) (a0 : Config) (a1 : (List Int)) : (impl_SpanOf.f k a0 a1 : Option (denR (outTys impl_SpanOf.g.rts impl_SpanOf.g.pms))) = evC (impl_SpanOf.E k) (fun κ s => lhOf k κ s impl_SpanOf.pts) b69 (OM.start impl_SpanOf.g.pms 0 (a0, a1, ())) (OM.fin impl_SpanOf.g Try.f69.results.toList) := by kernel_rfl
theorem impl_SpanOf.ok (k : Nat) : SmOk Try.prog (impl_SpanOf.sm k) :=
  sm_ok mixed (E := impl_SpanOf.E) (pts := impl_SpanOf.pts) (fun k => ⟨⟨tysOk, by kernel_rfl⟩, forall_cons ⟨impl_NodesOk.ok k, e56⟩ (forall_cons ⟨slices_Contains_int_int.ok k, e124⟩ (forall_nil))⟩) (fun _ => rfl) (fun _ => rfl)
    ⟨Try.func69, by kernel_rfl, by kernel_rfl, by kernel_rfl, by kernel_rfl, by kernel_rfl, by kernel_rfl⟩ (forall_cons (fun x => ⟨rfl, fun k => impl_SpanOf.h11 k x.1 x.2.1 x.2.2.1 x.2.2.2.1 x.2.2.2.2.1⟩) (forall_nil)) (fun k x => impl_SpanOf.hf k x.1 x.2.1) k
noncomputable def b15 : Code := Try.f15.body.getD .skip
theorem e15 : OM.Entry Try.prog 15 := ⟨_, Try.func15, by kernel_rfl, by kernel_rfl⟩
@[reducible] noncomputable def impl_Holds.g : Sig := ⟨[.fz tConfig, .fz (.sl (.int .i64))], [.v .bool .z], []⟩
@[reducible] noncomputable def impl_Holds.fk : Nat → denI impl_Holds.g.pms → Option (denR (outTys impl_Holds.g.rts impl_Holds.g.pms)) := fun k x => impl_Holds.f k x.1 x.2.1
@[reducible] noncomputable def impl_Holds.sm (k : Nat) : Sm := ⟨15, impl_Holds.g.pms, impl_Holds.g.rts, impl_Holds.fk k⟩
noncomputable def impl_Holds.E (k : Nat) : Env := ⟨tys, [impl_NodesOk.sm k, impl_SpanOf.sm k], [], [], []⟩
noncomputable def impl_Holds.pts : List (Pt (denR (outTys impl_Holds.g.rts impl_Holds.g.pms))) := []
theorem impl_Holds.hf (k : Nat) (a0 : Config) (a1 : (List Int)) : (impl_Holds.f k a0 a1 : Option (denR (outTys impl_Holds.g.rts impl_Holds.g.pms))) = evC (impl_Holds.E k) (fun κ s => lhOf k κ s impl_Holds.pts) b15 (OM.start impl_Holds.g.pms 0 (a0, a1, ())) (OM.fin impl_Holds.g Try.f15.results.toList) := by kernel_rfl
theorem impl_Holds.ok (k : Nat) : SmOk Try.prog (impl_Holds.sm k) :=
  sm_ok mixed (E := impl_Holds.E) (pts := impl_Holds.pts) (fun k => ⟨⟨tysOk, by kernel_rfl⟩, forall_cons ⟨impl_NodesOk.ok k, e56⟩ (forall_cons ⟨impl_SpanOf.ok k, e69⟩ (forall_nil))⟩) (fun _ => rfl) (fun _ => rfl)
    ⟨Try.func15, by kernel_rfl, by kernel_rfl, by kernel_rfl, by kernel_rfl, by kernel_rfl, by kernel_rfl⟩ (forall_nil) (fun k x => impl_Holds.hf k x.1 x.2.1) k
noncomputable def b115 : Code := Try.f115.body.getD .skip
theorem e115 : OM.Entry Try.prog 115 := ⟨_, Try.func115, by kernel_rfl, by kernel_rfl⟩
@[reducible] noncomputable def impl_flagNum.g : Sig := ⟨[.fz .bool], [.v (.int .i64) .z], []⟩
@[reducible] noncomputable def impl_flagNum.fk : Nat → denI impl_flagNum.g.pms → Option (denR (outTys impl_flagNum.g.rts impl_flagNum.g.pms)) := fun k x => impl_flagNum.f x.1
@[reducible] noncomputable def impl_flagNum.sm (k : Nat) : Sm := ⟨115, impl_flagNum.g.pms, impl_flagNum.g.rts, impl_flagNum.fk k⟩
noncomputable def impl_flagNum.E (k : Nat) : Env := ⟨tys, [], [], [], []⟩
noncomputable def impl_flagNum.pts : List (Pt (denR (outTys impl_flagNum.g.rts impl_flagNum.g.pms))) := []
theorem impl_flagNum.hf (k : Nat) (a0 : Bool) : (impl_flagNum.f a0 : Option (denR (outTys impl_flagNum.g.rts impl_flagNum.g.pms))) = evC (impl_flagNum.E k) (fun κ s => lhOf k κ s impl_flagNum.pts) b115 (OM.start impl_flagNum.g.pms 0 (a0, ())) (OM.fin impl_flagNum.g Try.f115.results.toList) := by kernel_rfl
theorem impl_flagNum.ok (k : Nat) : SmOk Try.prog (impl_flagNum.sm k) :=
  sm_ok mixed (E := impl_flagNum.E) (pts := impl_flagNum.pts) (fun k => ⟨⟨tysOk, by kernel_rfl⟩, forall_nil⟩) (fun _ => rfl) (fun _ => rfl)
    ⟨Try.func115, by kernel_rfl, by kernel_rfl, by kernel_rfl, by kernel_rfl, by kernel_rfl, by kernel_rfl⟩ (forall_nil) (fun k x => impl_flagNum.hf k x.1) k
noncomputable def b58 : Code := Try.f58.body.getD .skip
theorem e58 : OM.Entry Try.prog 58 := ⟨_, Try.func58, by kernel_rfl, by kernel_rfl⟩
@[reducible] noncomputable def impl_isEpoch.g : Sig := ⟨[.fz (.int .i64)], [.v .bool .z], []⟩
@[reducible] noncomputable def impl_isEpoch.fk : Nat → denI impl_isEpoch.g.pms → Option (denR (outTys impl_isEpoch.g.rts impl_isEpoch.g.pms)) := fun k x => impl_isEpoch.f x.1
@[reducible] noncomputable def impl_isEpoch.sm (k : Nat) : Sm := ⟨58, impl_isEpoch.g.pms, impl_isEpoch.g.rts, impl_isEpoch.fk k⟩
noncomputable def impl_isEpoch.E (k : Nat) : Env := ⟨tys, [impl_within.sm k], [], [], []⟩
noncomputable def impl_isEpoch.pts : List (Pt (denR (outTys impl_isEpoch.g.rts impl_isEpoch.g.pms))) := []
theorem impl_isEpoch.hf (k : Nat) (a0 : Int) : (impl_isEpoch.f a0 : Option (denR (outTys impl_isEpoch.g.rts impl_isEpoch.g.pms))) = evC (impl_isEpoch.E k) (fun κ s => lhOf k κ s impl_isEpoch.pts) b58 (OM.start impl_isEpoch.g.pms 0 (a0, ())) (OM.fin impl_isEpoch.g Try.f58.results.toList) := by kernel_rfl
theorem impl_isEpoch.ok (k : Nat) : SmOk Try.prog (impl_isEpoch.sm k) :=
  sm_ok mixed (E := impl_isEpoch.E) (pts := impl_isEpoch.pts) (fun k => ⟨⟨tysOk, by kernel_rfl⟩, forall_cons ⟨impl_within.ok k, e59⟩ (forall_nil)⟩) (fun _ => rfl) (fun _ => rfl)
    ⟨Try.func58, by kernel_rfl, by kernel_rfl, by kernel_rfl, by kernel_rfl, by kernel_rfl, by kernel_rfl⟩ (forall_nil) (fun k x => impl_isEpoch.hf k x.1) k
noncomputable def b52 : Code := Try.f52.body.getD .skip
theorem e52 : OM.Entry Try.prog 52 := ⟨_, Try.func52, by kernel_rfl, by kernel_rfl⟩
@[reducible] noncomputable def impl_WriterOk.g : Sig := ⟨[.fz tConfig, .fz tWriter], [.v .bool .z], []⟩
@[reducible] noncomputable def impl_WriterOk.fk : Nat → denI impl_WriterOk.g.pms → Option (denR (outTys impl_WriterOk.g.rts impl_WriterOk.g.pms)) := fun k x => impl_WriterOk.f k x.1 x.2.1
@[reducible] noncomputable def impl_WriterOk.sm (k : Nat) : Sm := ⟨52, impl_WriterOk.g.pms, impl_WriterOk.g.rts, impl_WriterOk.fk k⟩
noncomputable def impl_WriterOk.E (k : Nat) : Env := ⟨tys, [impl_dataOk.sm k, impl_ConfigOk.sm k, impl_NodesOk.sm k, impl_Holds.sm k, impl_flagNum.sm k, impl_isEpoch.sm k], [14], [], [4]⟩
@[reducible] noncomputable def impl_WriterOk.s7 : List Slot := [.r 8 9 [] tConfig, .r 12 13 [] tWriter, .v 20 (.int .i64) .z [] 0, .v 36 (.sl tWord) .z [] 0, .v 40 (.int .i64) .z [] 0, .v 44 (.int .i64) .z [] 0, .v 9 tConfig .z [] 0, .v 13 tWriter .z [] 0]
noncomputable def impl_WriterOk.pts : List (Pt (denR (outTys impl_WriterOk.g.rts impl_WriterOk.g.pms))) := [⟨7, impl_WriterOk.s7, fun k x => impl_WriterOk.p7 k x.1 x.2.1 x.2.2.1 x.2.2.2.1 x.2.2.2.2.1 x.2.2.2.2.2.1⟩]
theorem impl_WriterOk.h7 (k : Nat) (x0 : Int) (x1 : (List Word)) (x2 : Int) (x3 : Int) (x4 : Config) (x5 : Writer) : (impl_WriterOk.p7 (k + 1) x0 x1 x2 x3 x4 x5 : Option (denR (outTys impl_WriterOk.g.rts impl_WriterOk.g.pms))) = evAt (impl_WriterOk.E k) (fun κ s => lhOf k κ s impl_WriterOk.pts) 7 b52 (unproj impl_WriterOk.s7 (x0, x1, x2, x3, x4, x5, ())) (OM.fin impl_WriterOk.g Try.f52.results.toList) := by kernel_rfl
theorem impl_WriterOk.hf (k : Nat) (a0 : Config) (a1 : Writer) : (impl_WriterOk.f k a0 a1 : Option (denR (outTys impl_WriterOk.g.rts impl_WriterOk.g.pms))) = evC (impl_WriterOk.E k) (fun κ s => lhOf k κ s impl_WriterOk.pts) b52 (OM.start impl_WriterOk.g.pms 0 (a0, a1, ())) (OM.fin impl_WriterOk.g Try.f52.results.toList) := by kernel_rfl
theorem impl_WriterOk.ok (k : Nat) : SmOk Try.prog (impl_WriterOk.sm k) :=
  sm_ok mixed (E := impl_WriterOk.E) (pts := impl_WriterOk.pts) (fun k => ⟨⟨tysOk, by kernel_rfl⟩, forall_cons ⟨impl_dataOk.ok k, e114⟩ (forall_cons ⟨impl_ConfigOk.ok k, e60⟩ (forall_cons ⟨impl_NodesOk.ok k, e56⟩ (forall_cons ⟨impl_Holds.ok k, e15⟩ (forall_cons ⟨impl_flagNum.ok k, e115⟩ (forall_cons ⟨impl_isEpoch.ok k, e58⟩ (forall_nil))))))⟩) (fun _ => rfl) (fun _ => rfl)
    ⟨Try.func52, by kernel_rfl, by kernel_rfl, by kernel_rfl, by kernel_rfl, by kernel_rfl, by kernel_rfl⟩ (forall_cons (fun x => ⟨rfl, fun k => impl_WriterOk.h7 k x.1 x.2.1 x.2.2.1 x.2.2.2.1 x.2.2.2.2.1 x.2.2.2.2.2.1⟩) (forall_nil)) (fun k x => impl_WriterOk.hf k x.1 x.2.1) k
noncomputable def b129 : Code := Try.f129.body.getD .skip
theorem e129 : OM.Entry Try.prog 129 := ⟨_, Try.func129, by kernel_rfl, by kernel_rfl⟩
@[reducible] noncomputable def impl_copyInts.g : Sig := ⟨[.fz (.sl (.int .i64))], [.v (.sl (.int .i64)) (.own .z)], []⟩
@[reducible] noncomputable def impl_copyInts.fk : Nat → denI impl_copyInts.g.pms → Option (denR (outTys impl_copyInts.g.rts impl_copyInts.g.pms)) := fun k x => impl_copyInts.f x.1
@[reducible] noncomputable def impl_copyInts.sm (k : Nat) : Sm := ⟨129, impl_copyInts.g.pms, impl_copyInts.g.rts, impl_copyInts.fk k⟩
noncomputable def impl_copyInts.E (k : Nat) : Env := ⟨tys, [], [4], [], []⟩
noncomputable def impl_copyInts.pts : List (Pt (denR (outTys impl_copyInts.g.rts impl_copyInts.g.pms))) := []
theorem impl_copyInts.hf (k : Nat) (a0 : (List Int)) : (impl_copyInts.f a0 : Option (denR (outTys impl_copyInts.g.rts impl_copyInts.g.pms))) = evC (impl_copyInts.E k) (fun κ s => lhOf k κ s impl_copyInts.pts) b129 (OM.start impl_copyInts.g.pms 0 (a0, ())) (OM.fin impl_copyInts.g Try.f129.results.toList) := by kernel_rfl
theorem impl_copyInts.ok (k : Nat) : SmOk Try.prog (impl_copyInts.sm k) :=
  sm_ok mixed (E := impl_copyInts.E) (pts := impl_copyInts.pts) (fun k => ⟨⟨tysOk, by kernel_rfl⟩, forall_nil⟩) (fun _ => rfl) (fun _ => rfl)
    ⟨Try.func129, by kernel_rfl, by kernel_rfl, by kernel_rfl, by kernel_rfl, by kernel_rfl, by kernel_rfl⟩ (forall_nil) (fun k x => impl_copyInts.hf k x.1) k
noncomputable def b109 : Code := Try.f109.body.getD .skip
theorem e109 : OM.Entry Try.prog 109 := ⟨_, Try.func109, by kernel_rfl, by kernel_rfl⟩
@[reducible] noncomputable def impl_copyWriter.g : Sig := ⟨[.fz tWriter], [.v tWriter (.two .z (.two (.own (.two .z (.two (.own .z) .z))) .z))], []⟩
@[reducible] noncomputable def impl_copyWriter.fk : Nat → denI impl_copyWriter.g.pms → Option (denR (outTys impl_copyWriter.g.rts impl_copyWriter.g.pms)) := fun k x => impl_copyWriter.f k x.1
@[reducible] noncomputable def impl_copyWriter.sm (k : Nat) : Sm := ⟨109, impl_copyWriter.g.pms, impl_copyWriter.g.rts, impl_copyWriter.fk k⟩
noncomputable def impl_copyWriter.E (k : Nat) : Env := ⟨tys, [impl_copyInts.sm k], [15, 22], [], []⟩
@[reducible] noncomputable def impl_copyWriter.s7 : List Slot := [.r 8 9 [] tWriter, .r 12 13 [] tWriter, .v 40 (.sl tWord) .z [] 0, .v 44 (.int .i64) .z [] 0, .v 48 (.int .i64) .z [] 0, .v 9 tWriter (.two .z (.two (.own .a) .z)) [] 0, .v 13 tWriter (.two .z (.two (.own (.two .z (.two (.own .z) .z))) .z)) [] 0]
noncomputable def impl_copyWriter.pts : List (Pt (denR (outTys impl_copyWriter.g.rts impl_copyWriter.g.pms))) := [⟨7, impl_copyWriter.s7, fun k x => impl_copyWriter.p7 k x.1 x.2.1 x.2.2.1 x.2.2.2.1 x.2.2.2.2.1⟩]
theorem impl_copyWriter.h7 (k : Nat) (x0 : (List Word)) (x1 : Int) (x2 : Int) (x3 : Writer) (x4 : Writer) : (impl_copyWriter.p7 (k + 1) x0 x1 x2 x3 x4 : Option (denR (outTys impl_copyWriter.g.rts impl_copyWriter.g.pms))) = evAt (impl_copyWriter.E k) (fun κ s => lhOf k κ s impl_copyWriter.pts) 7 b109 (unproj impl_copyWriter.s7 (x0, x1, x2, x3, x4, ())) (OM.fin impl_copyWriter.g Try.f109.results.toList) := by kernel_rfl
theorem impl_copyWriter.hf (k : Nat) (a0 : Writer) : (impl_copyWriter.f k a0 : Option (denR (outTys impl_copyWriter.g.rts impl_copyWriter.g.pms))) = evC (impl_copyWriter.E k) (fun κ s => lhOf k κ s impl_copyWriter.pts) b109 (OM.start impl_copyWriter.g.pms 0 (a0, ())) (OM.fin impl_copyWriter.g Try.f109.results.toList) := by kernel_rfl
theorem impl_copyWriter.ok (k : Nat) : SmOk Try.prog (impl_copyWriter.sm k) :=
  sm_ok mixed (E := impl_copyWriter.E) (pts := impl_copyWriter.pts) (fun k => ⟨⟨tysOk, by kernel_rfl⟩, forall_cons ⟨impl_copyInts.ok k, e129⟩ (forall_nil)⟩) (fun _ => rfl) (fun _ => rfl)
    ⟨Try.func109, by kernel_rfl, by kernel_rfl, by kernel_rfl, by kernel_rfl, by kernel_rfl, by kernel_rfl⟩ (forall_cons (fun x => ⟨rfl, fun k => impl_copyWriter.h7 k x.1 x.2.1 x.2.2.1 x.2.2.2.1 x.2.2.2.2.1⟩) (forall_nil)) (fun k x => impl_copyWriter.hf k x.1) k
noncomputable def b153 : Code := Try.f153.body.getD .skip
theorem e153 : OM.Entry Try.prog 153 := ⟨_, Try.func153, by kernel_rfl, by kernel_rfl⟩
noncomputable def slices_DeleteFunc_int_int_impl_withoutNode_1.rho : Shelf.Ren := ⟨fun n => cond (Nat.beq n 6) 168 (cond (Nat.beq n 10) 153 (n)), fun n => cond (Nat.beq n 22) 24 (cond (Nat.beq n 23) 3 (cond (Nat.beq n 25) 96 (cond (Nat.beq n 0) 0 (cond (Nat.beq n 3) 3 (cond (Nat.beq n 4) 4 (n)))))), fun n => n⟩
theorem slices_DeleteFunc_int_int_impl_withoutNode_1.lay : Proofs.SlLaysH.n10 Try.prog slices_DeleteFunc_int_int_impl_withoutNode_1.rho := { mixed := mixed, f6 := ⟨"slices.IndexFunc[[]int,int]", by kernel_rfl, (Try.func168).trans (congrArg some (by kernel_rfl))⟩, f10 := ⟨"slices.DeleteFunc[[]int,int]", by kernel_rfl, (Try.func153).trans (congrArg some (by kernel_rfl))⟩, t0 := Try.underlying0, a0 := Try.isAgg0, z0 := Try.sizeOf0, v0 := Try.zeroValue0, t3 := Try.underlying3, a3 := Try.isAgg3, z3 := Try.sizeOf3, v3 := Try.zeroValue3, t4 := Try.underlying4, a4 := Try.isAgg4, z4 := Try.sizeOf4, v4 := Try.zeroValue4, t22 := Try.underlying24, a22 := Try.isAgg24, z22 := Try.sizeOf24, v22 := Try.zeroValue24, a23 := Try.isAgg3, z23 := Try.sizeOf3, t25 := Try.underlying96, a25 := Try.isAgg96, z25 := Try.sizeOf96, v25 := Try.zeroValue96 }
theorem slices_DeleteFunc_int_int_impl_withoutNode_1.gives (w : Go.World) (S : Nat → Prop) (y : (Int × Unit)) (cap : List Value) (x : Int) (hy : slices_DeleteFunc_int_int_impl_withoutNode_1.okp y) (h : Rp w S (.pair (.fp (.int .i64)) .unit) .z y cap (fun _ => False)) : Proofs.FnGives Try.prog 154 cap.toArray #[.int .i64 x] (.bool (slices_DeleteFunc_int_int_impl_withoutNode_1.pred y x)) w := by
  obtain ⟨b, off, c1, rfl, h1, h2⟩ := cap_one h
  have hcell := intAt h1 h2
  unfold slices_DeleteFunc_int_int_impl_withoutNode_1.pred
  generalize y.1 = u at hcell ⊢
  clear h h1 h2 hy
  show Calls Try.prog 154 #[.int .i64 x, .pointer (some ⟨b, off, none⟩)] w _
  go_enter Try.func154, Try.ntmps154
  go_wp2
  all_goals (go_ret; exact ⟨by first | (simp_all; done) | (by_cases h : x = u <;> simp [h]; done) | (simp; by_cases h : x = u <;> simp [h]), 0, rfl⟩)
@[reducible] noncomputable def slices_DeleteFunc_int_int_impl_withoutNode_1.g : Sig := ⟨[.own (.sl (.int .i64)) (.own .z), .fz (.fn 154 (.pair (.fp (.int .i64)) .unit))], [.v (.sl (.int .i64)) (.own .z)], []⟩
@[reducible] noncomputable def slices_DeleteFunc_int_int_impl_withoutNode_1.fk : Nat → denI slices_DeleteFunc_int_int_impl_withoutNode_1.g.pms → Option (denR (outTys slices_DeleteFunc_int_int_impl_withoutNode_1.g.rts slices_DeleteFunc_int_int_impl_withoutNode_1.g.pms)) := fun k x => slices_DeleteFunc_int_int_impl_withoutNode_1.f x.1 x.2.1
@[reducible] noncomputable def slices_DeleteFunc_int_int_impl_withoutNode_1.sm (k : Nat) : Sm := ⟨153, slices_DeleteFunc_int_int_impl_withoutNode_1.g.pms, slices_DeleteFunc_int_int_impl_withoutNode_1.g.rts, slices_DeleteFunc_int_int_impl_withoutNode_1.fk k⟩
theorem slices_DeleteFunc_int_int_impl_withoutNode_1.ok (k : Nat) : SmOk Try.prog (slices_DeleteFunc_int_int_impl_withoutNode_1.sm k) :=
  del_ok (t := (.pair (.fp (.int .i64)) .unit)) slices_DeleteFunc_int_int_impl_withoutNode_1.lay Try.zeroValue3 (Proofs.enters_of Try.func154 (by kernel_rfl) rfl) slices_DeleteFunc_int_int_impl_withoutNode_1.pred slices_DeleteFunc_int_int_impl_withoutNode_1.okp slices_DeleteFunc_int_int_impl_withoutNode_1.gives

noncomputable def b110 : Code := Try.f110.body.getD .skip
theorem e110 : OM.Entry Try.prog 110 := ⟨_, Try.func110, by kernel_rfl, by kernel_rfl⟩
@[reducible] noncomputable def impl_withoutNode.g : Sig := ⟨[.fz (.sl (.int .i64)), .fz (.int .i64)], [.v (.sl (.int .i64)) (.own .z)], []⟩
@[reducible] noncomputable def impl_withoutNode.fk : Nat → denI impl_withoutNode.g.pms → Option (denR (outTys impl_withoutNode.g.rts impl_withoutNode.g.pms)) := fun k x => impl_withoutNode.f x.1 x.2.1
@[reducible] noncomputable def impl_withoutNode.sm (k : Nat) : Sm := ⟨110, impl_withoutNode.g.pms, impl_withoutNode.g.rts, impl_withoutNode.fk k⟩
noncomputable def impl_withoutNode.E (k : Nat) : Env := ⟨tys, [impl_copyInts.sm k, slices_DeleteFunc_int_int_impl_withoutNode_1.sm k], [], [], []⟩
noncomputable def impl_withoutNode.pts : List (Pt (denR (outTys impl_withoutNode.g.rts impl_withoutNode.g.pms))) := []
theorem impl_withoutNode.hf (k : Nat) (a0 : (List Int)) (a1 : Int) : (impl_withoutNode.f a0 a1 : Option (denR (outTys impl_withoutNode.g.rts impl_withoutNode.g.pms))) = evC (impl_withoutNode.E k) (fun κ s => lhOf k κ s impl_withoutNode.pts) b110 (OM.start impl_withoutNode.g.pms 0 (a0, a1, ())) (OM.fin impl_withoutNode.g Try.f110.results.toList) := by kernel_rfl
theorem impl_withoutNode.ok (k : Nat) : SmOk Try.prog (impl_withoutNode.sm k) :=
  sm_ok mixed (E := impl_withoutNode.E) (pts := impl_withoutNode.pts) (fun k => ⟨⟨tysOk, by kernel_rfl⟩, forall_cons ⟨impl_copyInts.ok k, e129⟩ (forall_cons ⟨slices_DeleteFunc_int_int_impl_withoutNode_1.ok k, e153⟩ (forall_nil))⟩) (fun _ => rfl) (fun _ => rfl)
    ⟨Try.func110, by kernel_rfl, by kernel_rfl, by kernel_rfl, by kernel_rfl, by kernel_rfl, by kernel_rfl⟩ (forall_nil) (fun k x => impl_withoutNode.hf k x.1 x.2.1) k
noncomputable def b46 : Code := Try.f46.body.getD .skip
theorem e46 : OM.Entry Try.prog 46 := ⟨_, Try.func46, by kernel_rfl, by kernel_rfl⟩
@[reducible] noncomputable def impl_WriterForget.g : Sig := ⟨[.fz tConfig, .fz tWriter, .fz (.int .i64)], [.v tWriter (.two .z (.two (.own (.two .z (.two (.own .z) .z))) .z)), .v .bool .z], []⟩
@[reducible] noncomputable def impl_WriterForget.fk : Nat → denI impl_WriterForget.g.pms → Option (denR (outTys impl_WriterForget.g.rts impl_WriterForget.g.pms)) := fun k x => impl_WriterForget.f k x.1 x.2.1 x.2.2.1
@[reducible] noncomputable def impl_WriterForget.sm (k : Nat) : Sm := ⟨46, impl_WriterForget.g.pms, impl_WriterForget.g.rts, impl_WriterForget.fk k⟩
noncomputable def impl_WriterForget.E (k : Nat) : Env := ⟨tys, [impl_WriterOk.sm k, impl_copyWriter.sm k, impl_withoutNode.sm k], [25], [], []⟩
@[reducible] noncomputable def impl_WriterForget.s11 : List Slot := [.v 8 (.int .i64) .z [] 0, .r 24 25 [] tWriter, .r 32 33 [] tWriter, .v 76 (.sl tWord) .z [] 0, .v 80 (.int .i64) .z [] 0, .v 84 (.int .i64) .z [] 0, .v 25 tWriter (.two .z (.two (.own .a) .z)) [] 0, .v 33 tWriter (.two .z (.two (.own (.two .z (.two (.own .z) .z))) .z)) [] 0]
noncomputable def impl_WriterForget.pts : List (Pt (denR (outTys impl_WriterForget.g.rts impl_WriterForget.g.pms))) := [⟨11, impl_WriterForget.s11, fun k x => impl_WriterForget.p11 k x.1 x.2.1 x.2.2.1 x.2.2.2.1 x.2.2.2.2.1 x.2.2.2.2.2.1⟩]
theorem impl_WriterForget.h11 (k : Nat) (x0 : Int) (x1 : (List Word)) (x2 : Int) (x3 : Int) (x4 : Writer) (x5 : Writer) : (impl_WriterForget.p11 (k + 1) x0 x1 x2 x3 x4 x5 : Option (denR (outTys impl_WriterForget.g.rts impl_WriterForget.g.pms))) = evAt (impl_WriterForget.E k) (fun κ s => lhOf k κ s impl_WriterForget.pts) 11 b46 (unproj impl_WriterForget.s11 (x0, x1, x2, x3, x4, x5, ())) (OM.fin impl_WriterForget.g Try.f46.results.toList) := by kernel_rfl
theorem impl_WriterForget.hf (k : Nat) (a0 : Config) (a1 : Writer) (a2 : Int) : (impl_WriterForget.f k a0 a1 a2 : Option (denR (outTys impl_WriterForget.g.rts impl_WriterForget.g.pms))) = evC (impl_WriterForget.E k) (fun κ s => lhOf k κ s impl_WriterForget.pts) b46 (OM.start impl_WriterForget.g.pms 0 (a0, a1, a2, ())) (OM.fin impl_WriterForget.g Try.f46.results.toList) := by kernel_rfl
theorem impl_WriterForget.ok (k : Nat) : SmOk Try.prog (impl_WriterForget.sm k) :=
  sm_ok mixed (E := impl_WriterForget.E) (pts := impl_WriterForget.pts) (fun k => ⟨⟨tysOk, by kernel_rfl⟩, forall_cons ⟨impl_WriterOk.ok k, e52⟩ (forall_cons ⟨impl_copyWriter.ok k, e109⟩ (forall_cons ⟨impl_withoutNode.ok k, e110⟩ (forall_nil)))⟩) (fun _ => rfl) (fun _ => rfl)
    ⟨Try.func46, by kernel_rfl, by kernel_rfl, by kernel_rfl, by kernel_rfl, by kernel_rfl, by kernel_rfl⟩ (forall_cons (fun x => ⟨rfl, fun k => impl_WriterForget.h11 k x.1 x.2.1 x.2.2.1 x.2.2.2.1 x.2.2.2.2.1 x.2.2.2.2.2.1⟩) (forall_nil)) (fun k x => impl_WriterForget.hf k x.1 x.2.1 x.2.2.1) k
noncomputable def b113 : Code := Try.f113.body.getD .skip
theorem e113 : OM.Entry Try.prog 113 := ⟨_, Try.func113, by kernel_rfl, by kernel_rfl⟩
@[reducible] noncomputable def spec_l4Less.g : Sig := ⟨[.fz (.sl (.int .i64)), .fz (.sl (.int .i64))], [.v (.sl (.int .i64)) (.own .z)], []⟩
@[reducible] noncomputable def spec_l4Less.fk : Nat → denI spec_l4Less.g.pms → Option (denR (outTys spec_l4Less.g.rts spec_l4Less.g.pms)) := fun k x => spec_l4Less.f k x.1 x.2.1
@[reducible] noncomputable def spec_l4Less.sm (k : Nat) : Sm := ⟨113, spec_l4Less.g.pms, spec_l4Less.g.rts, spec_l4Less.fk k⟩
noncomputable def spec_l4Less.E (k : Nat) : Env := ⟨tys, [spec_l4Has.sm k], [25], [], []⟩
@[reducible] noncomputable def spec_l4Less.s7 : List Slot := [.v 0 (.sl (.int .i64)) .z [] 0, .v 4 (.sl (.int .i64)) .z [] 0, .v 20 (.sl (.int .i64)) (.own .z) [] 0, .v 24 (.int .i64) .z [] 0]
noncomputable def spec_l4Less.pts : List (Pt (denR (outTys spec_l4Less.g.rts spec_l4Less.g.pms))) := [⟨7, spec_l4Less.s7, fun k x => spec_l4Less.p7 k x.1 x.2.1 x.2.2.1 x.2.2.2.1⟩]
theorem spec_l4Less.h7 (k : Nat) (x0 : (List Int)) (x1 : (List Int)) (x2 : (List Int)) (x3 : Int) : (spec_l4Less.p7 (k + 1) x0 x1 x2 x3 : Option (denR (outTys spec_l4Less.g.rts spec_l4Less.g.pms))) = evAt (spec_l4Less.E k) (fun κ s => lhOf k κ s spec_l4Less.pts) 7 b113 (unproj spec_l4Less.s7 (x0, x1, x2, x3, ())) (OM.fin spec_l4Less.g Try.f113.results.toList) := by kernel_rfl
theorem spec_l4Less.hf (k : Nat) (a0 : (List Int)) (a1 : (List Int)) : (spec_l4Less.f k a0 a1 : Option (denR (outTys spec_l4Less.g.rts spec_l4Less.g.pms))) = evC (spec_l4Less.E k) (fun κ s => lhOf k κ s spec_l4Less.pts) b113 (OM.start spec_l4Less.g.pms 0 (a0, a1, ())) (OM.fin spec_l4Less.g Try.f113.results.toList) := by kernel_rfl
theorem spec_l4Less.ok (k : Nat) : SmOk Try.prog (spec_l4Less.sm k) :=
  sm_ok mixed (E := spec_l4Less.E) (pts := spec_l4Less.pts) (fun k => ⟨⟨tysOk, by kernel_rfl⟩, forall_cons ⟨spec_l4Has.ok k, e155⟩ (forall_nil)⟩) (fun _ => rfl) (fun _ => rfl)
    ⟨Try.func113, by kernel_rfl, by kernel_rfl, by kernel_rfl, by kernel_rfl, by kernel_rfl, by kernel_rfl⟩ (forall_cons (fun x => ⟨rfl, fun k => spec_l4Less.h7 k x.1 x.2.1 x.2.2.1 x.2.2.2.1⟩) (forall_nil)) (fun k x => spec_l4Less.hf k x.1 x.2.1) k
noncomputable def b47 : Code := Try.f47.body.getD .skip
theorem e47 : OM.Entry Try.prog 47 := ⟨_, Try.func47, by kernel_rfl, by kernel_rfl⟩
@[reducible] noncomputable def spec_WriterForget.g : Sig := ⟨[.fz tConfig, .fz tWriter, .fz (.int .i64)], [.v tWriter (.two .z (.two (.own (.two .z (.two (.own .z) .z))) .z)), .v .bool .z], []⟩
@[reducible] noncomputable def spec_WriterForget.fk : Nat → denI spec_WriterForget.g.pms → Option (denR (outTys spec_WriterForget.g.rts spec_WriterForget.g.pms)) := fun k x => spec_WriterForget.f k x.1 x.2.1 x.2.2.1
@[reducible] noncomputable def spec_WriterForget.sm (k : Nat) : Sm := ⟨47, spec_WriterForget.g.pms, spec_WriterForget.g.rts, spec_WriterForget.fk k⟩
noncomputable def spec_WriterForget.E (k : Nat) : Env := ⟨tys, [spec_WriterOk.sm k, spec_l8Copy.sm k, spec_l4Less.sm k], [], [], []⟩
@[reducible] noncomputable def spec_WriterForget.s11 : List Slot := [.v 8 (.int .i64) .z [] 0, .r 24 25 [] tWriter, .r 32 33 [] tWriter, .v 36 (.int .i64) .z [] 0, .v 25 tWriter (.two .z (.two (.own .a) .z)) [] 0, .v 33 tWriter (.two .z (.two (.own (.two .z (.two (.own .z) .z))) .z)) [] 0]
noncomputable def spec_WriterForget.pts : List (Pt (denR (outTys spec_WriterForget.g.rts spec_WriterForget.g.pms))) := [⟨11, spec_WriterForget.s11, fun k x => spec_WriterForget.p11 k x.1 x.2.1 x.2.2.1 x.2.2.2.1⟩]
theorem spec_WriterForget.h11 (k : Nat) (x0 : Int) (x1 : Int) (x2 : Writer) (x3 : Writer) : (spec_WriterForget.p11 (k + 1) x0 x1 x2 x3 : Option (denR (outTys spec_WriterForget.g.rts spec_WriterForget.g.pms))) = evAt (spec_WriterForget.E k) (fun κ s => lhOf k κ s spec_WriterForget.pts) 11 b47 (unproj spec_WriterForget.s11 (x0, x1, x2, x3, ())) (OM.fin spec_WriterForget.g Try.f47.results.toList) := by kernel_rfl
theorem spec_WriterForget.hf (k : Nat) (a0 : Config) (a1 : Writer) (a2 : Int) : (spec_WriterForget.f k a0 a1 a2 : Option (denR (outTys spec_WriterForget.g.rts spec_WriterForget.g.pms))) = evC (spec_WriterForget.E k) (fun κ s => lhOf k κ s spec_WriterForget.pts) b47 (OM.start spec_WriterForget.g.pms 0 (a0, a1, a2, ())) (OM.fin spec_WriterForget.g Try.f47.results.toList) := by kernel_rfl
theorem spec_WriterForget.ok (k : Nat) : SmOk Try.prog (spec_WriterForget.sm k) :=
  sm_ok mixed (E := spec_WriterForget.E) (pts := spec_WriterForget.pts) (fun k => ⟨⟨tysOk, by kernel_rfl⟩, forall_cons ⟨spec_WriterOk.ok k, e111⟩ (forall_cons ⟨spec_l8Copy.ok k, e112⟩ (forall_cons ⟨spec_l4Less.ok k, e113⟩ (forall_nil)))⟩) (fun _ => rfl) (fun _ => rfl)
    ⟨Try.func47, by kernel_rfl, by kernel_rfl, by kernel_rfl, by kernel_rfl, by kernel_rfl, by kernel_rfl⟩ (forall_cons (fun x => ⟨rfl, fun k => spec_WriterForget.h11 k x.1 x.2.1 x.2.2.1 x.2.2.2.1⟩) (forall_nil)) (fun k x => spec_WriterForget.hf k x.1 x.2.1 x.2.2.1) k
noncomputable def b48 : Code := Try.f48.body.getD .skip
theorem e48 : OM.Entry Try.prog 48 := ⟨_, Try.func48, by kernel_rfl, by kernel_rfl⟩
@[reducible] noncomputable def laws_sameInts.g : Sig := ⟨[.fz (.sl (.int .i64)), .fz (.sl (.int .i64))], [.v .bool .z], []⟩
@[reducible] noncomputable def laws_sameInts.fk : Nat → denI laws_sameInts.g.pms → Option (denR (outTys laws_sameInts.g.rts laws_sameInts.g.pms)) := fun k x => laws_sameInts.f k x.1 x.2.1
@[reducible] noncomputable def laws_sameInts.sm (k : Nat) : Sm := ⟨48, laws_sameInts.g.pms, laws_sameInts.g.rts, laws_sameInts.fk k⟩
noncomputable def laws_sameInts.E (k : Nat) : Env := ⟨tys, [], [], [], []⟩
@[reducible] noncomputable def laws_sameInts.s9 : List Slot := [.v 0 (.sl (.int .i64)) .z [] 0, .v 4 (.sl (.int .i64)) .z [] 0, .v 20 (.int .i64) .z [] 0]
noncomputable def laws_sameInts.pts : List (Pt (denR (outTys laws_sameInts.g.rts laws_sameInts.g.pms))) := [⟨9, laws_sameInts.s9, fun k x => laws_sameInts.p9 k x.1 x.2.1 x.2.2.1⟩]
theorem laws_sameInts.h9 (k : Nat) (x0 : (List Int)) (x1 : (List Int)) (x2 : Int) : (laws_sameInts.p9 (k + 1) x0 x1 x2 : Option (denR (outTys laws_sameInts.g.rts laws_sameInts.g.pms))) = evAt (laws_sameInts.E k) (fun κ s => lhOf k κ s laws_sameInts.pts) 9 b48 (unproj laws_sameInts.s9 (x0, x1, x2, ())) (OM.fin laws_sameInts.g Try.f48.results.toList) := by kernel_rfl
theorem laws_sameInts.hf (k : Nat) (a0 : (List Int)) (a1 : (List Int)) : (laws_sameInts.f k a0 a1 : Option (denR (outTys laws_sameInts.g.rts laws_sameInts.g.pms))) = evC (laws_sameInts.E k) (fun κ s => lhOf k κ s laws_sameInts.pts) b48 (OM.start laws_sameInts.g.pms 0 (a0, a1, ())) (OM.fin laws_sameInts.g Try.f48.results.toList) := by kernel_rfl
theorem laws_sameInts.ok (k : Nat) : SmOk Try.prog (laws_sameInts.sm k) :=
  sm_ok mixed (E := laws_sameInts.E) (pts := laws_sameInts.pts) (fun k => ⟨⟨tysOk, by kernel_rfl⟩, forall_nil⟩) (fun _ => rfl) (fun _ => rfl)
    ⟨Try.func48, by kernel_rfl, by kernel_rfl, by kernel_rfl, by kernel_rfl, by kernel_rfl, by kernel_rfl⟩ (forall_cons (fun x => ⟨rfl, fun k => laws_sameInts.h9 k x.1 x.2.1 x.2.2.1⟩) (forall_nil)) (fun k x => laws_sameInts.hf k x.1 x.2.1) k
noncomputable def b49 : Code := Try.f49.body.getD .skip
theorem e49 : OM.Entry Try.prog 49 := ⟨_, Try.func49, by kernel_rfl, by kernel_rfl⟩
@[reducible] noncomputable def laws_within.g : Sig := ⟨[.fz (.sl (.int .i64)), .fz (.int .i64)], [.v .bool .z], []⟩
@[reducible] noncomputable def laws_within.fk : Nat → denI laws_within.g.pms → Option (denR (outTys laws_within.g.rts laws_within.g.pms)) := fun k x => laws_within.f k x.1 x.2.1
@[reducible] noncomputable def laws_within.sm (k : Nat) : Sm := ⟨49, laws_within.g.pms, laws_within.g.rts, laws_within.fk k⟩
noncomputable def laws_within.E (k : Nat) : Env := ⟨tys, [], [], [], []⟩
@[reducible] noncomputable def laws_within.s5 : List Slot := [.v 0 (.sl (.int .i64)) .z [] 0, .v 4 (.int .i64) .z [] 0, .v 20 (.int .i64) .z [] 0]
noncomputable def laws_within.pts : List (Pt (denR (outTys laws_within.g.rts laws_within.g.pms))) := [⟨5, laws_within.s5, fun k x => laws_within.p5 k x.1 x.2.1 x.2.2.1⟩]
theorem laws_within.h5 (k : Nat) (x0 : (List Int)) (x1 : Int) (x2 : Int) : (laws_within.p5 (k + 1) x0 x1 x2 : Option (denR (outTys laws_within.g.rts laws_within.g.pms))) = evAt (laws_within.E k) (fun κ s => lhOf k κ s laws_within.pts) 5 b49 (unproj laws_within.s5 (x0, x1, x2, ())) (OM.fin laws_within.g Try.f49.results.toList) := by kernel_rfl
theorem laws_within.hf (k : Nat) (a0 : (List Int)) (a1 : Int) : (laws_within.f k a0 a1 : Option (denR (outTys laws_within.g.rts laws_within.g.pms))) = evC (laws_within.E k) (fun κ s => lhOf k κ s laws_within.pts) b49 (OM.start laws_within.g.pms 0 (a0, a1, ())) (OM.fin laws_within.g Try.f49.results.toList) := by kernel_rfl
theorem laws_within.ok (k : Nat) : SmOk Try.prog (laws_within.sm k) :=
  sm_ok mixed (E := laws_within.E) (pts := laws_within.pts) (fun k => ⟨⟨tysOk, by kernel_rfl⟩, forall_nil⟩) (fun _ => rfl) (fun _ => rfl)
    ⟨Try.func49, by kernel_rfl, by kernel_rfl, by kernel_rfl, by kernel_rfl, by kernel_rfl, by kernel_rfl⟩ (forall_cons (fun x => ⟨rfl, fun k => laws_within.h5 k x.1 x.2.1 x.2.2.1⟩) (forall_nil)) (fun k x => laws_within.hf k x.1 x.2.1) k
noncomputable def b50 : Code := Try.f50.body.getD .skip
theorem e50 : OM.Entry Try.prog 50 := ⟨_, Try.func50, by kernel_rfl, by kernel_rfl⟩
@[reducible] noncomputable def impl_WriterSure.g : Sig := ⟨[.fz tWriter], [.v (.int .i64) .z], []⟩
@[reducible] noncomputable def impl_WriterSure.fk : Nat → denI impl_WriterSure.g.pms → Option (denR (outTys impl_WriterSure.g.rts impl_WriterSure.g.pms)) := fun k x => impl_WriterSure.f k x.1
@[reducible] noncomputable def impl_WriterSure.sm (k : Nat) : Sm := ⟨50, impl_WriterSure.g.pms, impl_WriterSure.g.rts, impl_WriterSure.fk k⟩
noncomputable def impl_WriterSure.E (k : Nat) : Env := ⟨tys, [], [12], [], []⟩
@[reducible] noncomputable def impl_WriterSure.s5 : List Slot := [.r 4 5 [] tWriter, .v 24 (.sl tWord) .z [] 0, .v 28 (.int .i64) .z [] 0, .v 32 (.int .i64) .z [] 0, .v 5 tWriter .z [] 0]
noncomputable def impl_WriterSure.pts : List (Pt (denR (outTys impl_WriterSure.g.rts impl_WriterSure.g.pms))) := [⟨5, impl_WriterSure.s5, fun k x => impl_WriterSure.p5 k x.1 x.2.1 x.2.2.1 x.2.2.2.1⟩]
theorem impl_WriterSure.h5 (k : Nat) (x0 : (List Word)) (x1 : Int) (x2 : Int) (x3 : Writer) : (impl_WriterSure.p5 (k + 1) x0 x1 x2 x3 : Option (denR (outTys impl_WriterSure.g.rts impl_WriterSure.g.pms))) = evAt (impl_WriterSure.E k) (fun κ s => lhOf k κ s impl_WriterSure.pts) 5 b50 (unproj impl_WriterSure.s5 (x0, x1, x2, x3, ())) (OM.fin impl_WriterSure.g Try.f50.results.toList) := by kernel_rfl
theorem impl_WriterSure.hf (k : Nat) (a0 : Writer) : (impl_WriterSure.f k a0 : Option (denR (outTys impl_WriterSure.g.rts impl_WriterSure.g.pms))) = evC (impl_WriterSure.E k) (fun κ s => lhOf k κ s impl_WriterSure.pts) b50 (OM.start impl_WriterSure.g.pms 0 (a0, ())) (OM.fin impl_WriterSure.g Try.f50.results.toList) := by kernel_rfl
theorem impl_WriterSure.ok (k : Nat) : SmOk Try.prog (impl_WriterSure.sm k) :=
  sm_ok mixed (E := impl_WriterSure.E) (pts := impl_WriterSure.pts) (fun k => ⟨⟨tysOk, by kernel_rfl⟩, forall_nil⟩) (fun _ => rfl) (fun _ => rfl)
    ⟨Try.func50, by kernel_rfl, by kernel_rfl, by kernel_rfl, by kernel_rfl, by kernel_rfl, by kernel_rfl⟩ (forall_cons (fun x => ⟨rfl, fun k => impl_WriterSure.h5 k x.1 x.2.1 x.2.2.1 x.2.2.2.1⟩) (forall_nil)) (fun k x => impl_WriterSure.hf k x.1) k
noncomputable def b51 : Code := Try.f51.body.getD .skip
theorem e51 : OM.Entry Try.prog 51 := ⟨_, Try.func51, by kernel_rfl, by kernel_rfl⟩
@[reducible] noncomputable def spec_WriterSure.g : Sig := ⟨[.fz tWriter], [.v (.int .i64) .z], []⟩
@[reducible] noncomputable def spec_WriterSure.fk : Nat → denI spec_WriterSure.g.pms → Option (denR (outTys spec_WriterSure.g.rts spec_WriterSure.g.pms)) := fun k x => spec_WriterSure.f k x.1
@[reducible] noncomputable def spec_WriterSure.sm (k : Nat) : Sm := ⟨51, spec_WriterSure.g.pms, spec_WriterSure.g.rts, spec_WriterSure.fk k⟩
noncomputable def spec_WriterSure.E (k : Nat) : Env := ⟨tys, [], [], [], []⟩
@[reducible] noncomputable def spec_WriterSure.s5 : List Slot := [.r 4 5 [] tWriter, .v 12 (.int .i64) .z [] 0, .v 5 tWriter .z [] 0]
noncomputable def spec_WriterSure.pts : List (Pt (denR (outTys spec_WriterSure.g.rts spec_WriterSure.g.pms))) := [⟨5, spec_WriterSure.s5, fun k x => spec_WriterSure.p5 k x.1 x.2.1⟩]
theorem spec_WriterSure.h5 (k : Nat) (x0 : Int) (x1 : Writer) : (spec_WriterSure.p5 (k + 1) x0 x1 : Option (denR (outTys spec_WriterSure.g.rts spec_WriterSure.g.pms))) = evAt (spec_WriterSure.E k) (fun κ s => lhOf k κ s spec_WriterSure.pts) 5 b51 (unproj spec_WriterSure.s5 (x0, x1, ())) (OM.fin spec_WriterSure.g Try.f51.results.toList) := by kernel_rfl
theorem spec_WriterSure.hf (k : Nat) (a0 : Writer) : (spec_WriterSure.f k a0 : Option (denR (outTys spec_WriterSure.g.rts spec_WriterSure.g.pms))) = evC (spec_WriterSure.E k) (fun κ s => lhOf k κ s spec_WriterSure.pts) b51 (OM.start spec_WriterSure.g.pms 0 (a0, ())) (OM.fin spec_WriterSure.g Try.f51.results.toList) := by kernel_rfl
theorem spec_WriterSure.ok (k : Nat) : SmOk Try.prog (spec_WriterSure.sm k) :=
  sm_ok mixed (E := spec_WriterSure.E) (pts := spec_WriterSure.pts) (fun k => ⟨⟨tysOk, by kernel_rfl⟩, forall_nil⟩) (fun _ => rfl) (fun _ => rfl)
    ⟨Try.func51, by kernel_rfl, by kernel_rfl, by kernel_rfl, by kernel_rfl, by kernel_rfl, by kernel_rfl⟩ (forall_cons (fun x => ⟨rfl, fun k => spec_WriterSure.h5 k x.1 x.2.1⟩) (forall_nil)) (fun k x => spec_WriterSure.hf k x.1) k
noncomputable def b8 : Code := Try.f8.body.getD .skip
theorem e8 : OM.Entry Try.prog 8 := ⟨_, Try.func8, by kernel_rfl, by kernel_rfl⟩
@[reducible] noncomputable def laws_FnForgotten.g : Sig := ⟨[.fz (.sl (.int .u8))], [.v .bool .z], []⟩
@[reducible] noncomputable def laws_FnForgotten.fk : Nat → denI laws_FnForgotten.g.pms → Option (denR (outTys laws_FnForgotten.g.rts laws_FnForgotten.g.pms)) := fun k x => laws_FnForgotten.f k x.1
@[reducible] noncomputable def laws_FnForgotten.sm (k : Nat) : Sm := ⟨8, laws_FnForgotten.g.pms, laws_FnForgotten.g.rts, laws_FnForgotten.fk k⟩
noncomputable def laws_FnForgotten.E (k : Nat) : Env := ⟨tys, [laws_big.sm k, spec_DrawWriterForget.sm k, impl_WriterOk.sm k, impl_WriterForget.sm k, spec_WriterForget.sm k, laws_sameInts.sm k, laws_within.sm k, impl_WriterSure.sm k, spec_WriterSure.sm k], [55, 60], [], [4]⟩
@[reducible] noncomputable def laws_FnForgotten.s23 : List Slot := [.r 12 13 [] tConfig, .r 16 17 [] tWriter, .v 20 (.int .i64) .z [] 0, .r 24 25 [] tWriter, .v 40 (.int .i64) .z [] 0, .v 13 tConfig .z [] 0, .v 17 tWriter (.two .z (.two (.own .z) .z)) [] 0, .v 25 tWriter (.two .z (.two (.own (.two .z (.two (.own .z) .z))) .z)) [] 0]
noncomputable def laws_FnForgotten.pts : List (Pt (denR (outTys laws_FnForgotten.g.rts laws_FnForgotten.g.pms))) := [⟨23, laws_FnForgotten.s23, fun k x => laws_FnForgotten.p23 k x.1 x.2.1 x.2.2.1 x.2.2.2.1 x.2.2.2.2.1⟩]
theorem laws_FnForgotten.h23 (k : Nat) (x0 : Int) (x1 : Int) (x2 : Config) (x3 : Writer) (x4 : Writer) : (laws_FnForgotten.p23 (k + 1) x0 x1 x2 x3 x4 : Option (denR (outTys laws_FnForgotten.g.rts laws_FnForgotten.g.pms))) = evAt (laws_FnForgotten.E k) (fun κ s => lhOf k κ s laws_FnForgotten.pts) 23 b8 (unproj laws_FnForgotten.s23 (x0, x1, x2, x3, x4, ())) (OM.fin laws_FnForgotten.g Try.f8.results.toList) := by kernel_rfl
theorem laws_FnForgotten.hf (k : Nat) (a0 : (List Int)) : (laws_FnForgotten.f k a0 : Option (denR (outTys laws_FnForgotten.g.rts laws_FnForgotten.g.pms))) = evC (laws_FnForgotten.E k) (fun κ s => lhOf k κ s laws_FnForgotten.pts) b8 (OM.start laws_FnForgotten.g.pms 0 (a0, ())) (OM.fin laws_FnForgotten.g Try.f8.results.toList) := by kernel_rfl
theorem laws_FnForgotten.ok (k : Nat) : SmOk Try.prog (laws_FnForgotten.sm k) :=
  sm_ok mixed (E := laws_FnForgotten.E) (pts := laws_FnForgotten.pts) (fun k => ⟨⟨tysOk, by kernel_rfl⟩, forall_cons ⟨laws_big.ok k, e9⟩ (forall_cons ⟨spec_DrawWriterForget.ok k, e45⟩ (forall_cons ⟨impl_WriterOk.ok k, e52⟩ (forall_cons ⟨impl_WriterForget.ok k, e46⟩ (forall_cons ⟨spec_WriterForget.ok k, e47⟩ (forall_cons ⟨laws_sameInts.ok k, e48⟩ (forall_cons ⟨laws_within.ok k, e49⟩ (forall_cons ⟨impl_WriterSure.ok k, e50⟩ (forall_cons ⟨spec_WriterSure.ok k, e51⟩ (forall_nil)))))))))⟩) (fun _ => rfl) (fun _ => rfl)
    ⟨Try.func8, by kernel_rfl, by kernel_rfl, by kernel_rfl, by kernel_rfl, by kernel_rfl, by kernel_rfl⟩ (forall_cons (fun x => ⟨rfl, fun k => laws_FnForgotten.h23 k x.1 x.2.1 x.2.2.1 x.2.2.2.1 x.2.2.2.2.1⟩) (forall_nil)) (fun k x => laws_FnForgotten.hf k x.1) k
end Go.Proofs.Ytllmifioelbleaa.OmFnForgotten
