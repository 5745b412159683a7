import Derived.Test.YtllmifioelbleaaFFnClosed
import Derived.Test.YtllmifioelbleaaChecked
set_option maxRecDepth 1000000
set_option linter.unusedVariables false
namespace Go.Proofs.Ytllmifioelbleaa.OmFnClosed
open Go Go.OM
noncomputable def tys : List (Option Ty) := [none, none, some (.int .i64), some (.int .i64), some .bool, some (.int .u8), some (.int .u8), some (.pair (.int .i64) (.pair (.int .i64) (.pair .bool (.pair (.int .u8) .unit)))), some (.pair (.int .i64) (.pair (.int .i64) (.pair .bool (.pair (.int .u8) .unit)))), some .str, some .str, some .str, some (.int .u64), some (.pair .str (.pair (.int .u64) .unit)), some (.pair .str (.pair (.int .u64) .unit)), none, none, none, none, none, none, some (.int .i32), some (.sl (.int .u8)), none, some (.sl (.int .i64)), some tConfig, some tConfig, some (.sl tEntry), some (.sl (.sl (.int .i64))), some tMend, some tMend, none, none, none, none, none, none, none, none, none, some tEntry, some tEntry, none, none, none, some tConfig, some (.sl tEra), some tRegister, some tRegister, none, none, some (.sl tEra), some tRegister, some tRegister, none, none, none, none, none, none, none, none, none, none, none, none, none, some tEra, some tEra, some tStore, some tStore, none, none, none, none, none, none, none, some (.sl tWord), some tWriter, some tWriter, none, none, none, none, some tWord, some tWord, none, none, none, none, none, none, none, none, none, none, none, none, none, none, none, none, none, none, none, none, none, none, none, none, none, none, none, none, none, none, none, none, none, none, none, none, none, none, none, none, some treader, some treader, none, none, none, none, none, none, none, none, none, none, none, none, none, none, none, some tl1Cur, some tl1Cur, none, none, some tEra, none, none, none, none, none, none, none, none, none, none, none, none, none, none, some (.sl .bool), some (.int .u64), none, none, none, none, none, none, some (.sl .str), none, none, none, none, none, none, none, none, none, none, none, none, none, none, none, none, none, none, none, some (.int .u32), some (.int .u8), some (.int .u8), none, none, some (.int .i32), some (.int .i32), none, none, none]
theorem tysOk : okTys Try.prog tys 0 tys = true := by kernel_rfl
theorem mixed : Try.prog.follows .mixedOrders = true := by kernel_rfl
noncomputable def b9 : Code := Try.f9.body.getD .skip
theorem e9 : OM.Entry Try.prog 9 := ⟨_, Try.func9, by kernel_rfl, by kernel_rfl⟩
@[reducible] noncomputable def laws_big.g : Sig := ⟨[.fz (.sl (.int .u8))], [.v .bool .z], []⟩
@[reducible] noncomputable def laws_big.fk : Nat → denI laws_big.g.pms → Option (denR (outTys laws_big.g.rts laws_big.g.pms)) := fun k x => laws_big.f x.1
@[reducible] noncomputable def laws_big.sm (k : Nat) : Sm := ⟨9, laws_big.g.pms, laws_big.g.rts, laws_big.fk k⟩
noncomputable def laws_big.E (k : Nat) : Env := ⟨tys, [], [], [], []⟩
noncomputable def laws_big.pts : List (Pt (denR (outTys laws_big.g.rts laws_big.g.pms))) := []
theorem laws_big.hf (k : Nat) (a0 : (List Int)) : (laws_big.f a0 : Option (denR (outTys laws_big.g.rts laws_big.g.pms))) = evC (laws_big.E k) (fun κ s => lhOf k κ s laws_big.pts) b9 (OM.start laws_big.g.pms 0 (a0, ())) (OM.fin laws_big.g Try.f9.results.toList) := by kernel_rfl
theorem laws_big.ok (k : Nat) : SmOk Try.prog (laws_big.sm k) :=
  sm_ok mixed (E := laws_big.E) (pts := laws_big.pts) (fun k => ⟨⟨tysOk, by kernel_rfl⟩, forall_nil⟩) (fun _ => rfl) (fun _ => rfl)
    ⟨Try.func9, by kernel_rfl, by kernel_rfl, by kernel_rfl, by kernel_rfl, by kernel_rfl, by kernel_rfl⟩ (forall_nil) (fun k x => laws_big.hf k x.1) k
noncomputable def b70 : Code := Try.f70.body.getD .skip
theorem e70 : OM.Entry Try.prog 70 := ⟨_, Try.func70, by kernel_rfl, by kernel_rfl⟩
@[reducible] noncomputable def spec_l1New.g : Sig := ⟨[.fz (.sl (.int .u8))], [.p tl1Cur .z], []⟩
@[reducible] noncomputable def spec_l1New.fk : Nat → denI spec_l1New.g.pms → Option (denR (outTys spec_l1New.g.rts spec_l1New.g.pms)) := fun k x => spec_l1New.f k x.1
@[reducible] noncomputable def spec_l1New.sm (k : Nat) : Sm := ⟨70, spec_l1New.g.pms, spec_l1New.g.rts, spec_l1New.fk k⟩
noncomputable def spec_l1New.E (k : Nat) : Env := ⟨tys, [], [28, 29], [], []⟩
@[reducible] noncomputable def spec_l1New.s7 : List Slot := [.v 0 (.sl (.int .u8)) .z [] 0, .v 12 (.int .i64) .z [] 0, .v 16 (.int .i64) .z [] 0]
noncomputable def spec_l1New.pts : List (Pt (denR (outTys spec_l1New.g.rts spec_l1New.g.pms))) := [⟨7, spec_l1New.s7, fun k x => spec_l1New.p7 k x.1 x.2.1 x.2.2.1⟩]
theorem spec_l1New.h7 (k : Nat) (x0 : (List Int)) (x1 : Int) (x2 : Int) : (spec_l1New.p7 (k + 1) x0 x1 x2 : Option (denR (outTys spec_l1New.g.rts spec_l1New.g.pms))) = evAt (spec_l1New.E k) (fun κ s => lhOf k κ s spec_l1New.pts) 7 b70 (unproj spec_l1New.s7 (x0, x1, x2, ())) (OM.fin spec_l1New.g Try.f70.results.toList) := by kernel_rfl
theorem spec_l1New.hf (k : Nat) (a0 : (List Int)) : (spec_l1New.f k a0 : Option (denR (outTys spec_l1New.g.rts spec_l1New.g.pms))) = evC (spec_l1New.E k) (fun κ s => lhOf k κ s spec_l1New.pts) b70 (OM.start spec_l1New.g.pms 0 (a0, ())) (OM.fin spec_l1New.g Try.f70.results.toList) := by kernel_rfl
theorem spec_l1New.ok (k : Nat) : SmOk Try.prog (spec_l1New.sm k) :=
  sm_ok mixed (E := spec_l1New.E) (pts := spec_l1New.pts) (fun k => ⟨⟨tysOk, by kernel_rfl⟩, forall_nil⟩) (fun _ => rfl) (fun _ => rfl)
    ⟨Try.func70, by kernel_rfl, by kernel_rfl, by kernel_rfl, by kernel_rfl, by kernel_rfl, by kernel_rfl⟩ (forall_cons (fun x => ⟨rfl, fun k => spec_l1New.h7 k x.1 x.2.1 x.2.2.1⟩) (forall_nil)) (fun k x => spec_l1New.hf k x.1) k
noncomputable def b125 : Code := Try.f125.body.getD .skip
theorem e125 : OM.Entry Try.prog 125 := ⟨_, Try.func125, by kernel_rfl, by kernel_rfl⟩
@[reducible] noncomputable def spec_l1Byte.g : Sig := ⟨[.ptr tl1Cur .z .z], [.v (.int .i64) .z], []⟩
@[reducible] noncomputable def spec_l1Byte.fk : Nat → denI spec_l1Byte.g.pms → Option (denR (outTys spec_l1Byte.g.rts spec_l1Byte.g.pms)) := fun k x => spec_l1Byte.f x.1
@[reducible] noncomputable def spec_l1Byte.sm (k : Nat) : Sm := ⟨125, spec_l1Byte.g.pms, spec_l1Byte.g.rts, spec_l1Byte.fk k⟩
noncomputable def spec_l1Byte.E (k : Nat) : Env := ⟨tys, [], [], [], []⟩
noncomputable def spec_l1Byte.pts : List (Pt (denR (outTys spec_l1Byte.g.rts spec_l1Byte.g.pms))) := []
theorem spec_l1Byte.hf (k : Nat) (a0 : l1Cur) : (spec_l1Byte.f a0 : Option (denR (outTys spec_l1Byte.g.rts spec_l1Byte.g.pms))) = evC (spec_l1Byte.E k) (fun κ s => lhOf k κ s spec_l1Byte.pts) b125 (OM.start spec_l1Byte.g.pms 0 (a0, ())) (OM.fin spec_l1Byte.g Try.f125.results.toList) := by kernel_rfl
theorem spec_l1Byte.ok (k : Nat) : SmOk Try.prog (spec_l1Byte.sm k) :=
  sm_ok mixed (E := spec_l1Byte.E) (pts := spec_l1Byte.pts) (fun k => ⟨⟨tysOk, by kernel_rfl⟩, forall_nil⟩) (fun _ => rfl) (fun _ => rfl)
    ⟨Try.func125, by kernel_rfl, by kernel_rfl, by kernel_rfl, by kernel_rfl, by kernel_rfl, by kernel_rfl⟩ (forall_nil) (fun k x => spec_l1Byte.hf k x.1) k
noncomputable def b71 : Code := Try.f71.body.getD .skip
theorem e71 : OM.Entry Try.prog 71 := ⟨_, Try.func71, by kernel_rfl, by kernel_rfl⟩
@[reducible] noncomputable def spec_l1Below.g : Sig := ⟨[.ptr tl1Cur .z .z, .fz (.int .i64)], [.v (.int .i64) .z], []⟩
@[reducible] noncomputable def spec_l1Below.fk : Nat → denI spec_l1Below.g.pms → Option (denR (outTys spec_l1Below.g.rts spec_l1Below.g.pms)) := fun k x => spec_l1Below.f x.1 x.2.1
@[reducible] noncomputable def spec_l1Below.sm (k : Nat) : Sm := ⟨71, spec_l1Below.g.pms, spec_l1Below.g.rts, spec_l1Below.fk k⟩
noncomputable def spec_l1Below.E (k : Nat) : Env := ⟨tys, [spec_l1Byte.sm k], [], [], []⟩
noncomputable def spec_l1Below.pts : List (Pt (denR (outTys spec_l1Below.g.rts spec_l1Below.g.pms))) := []
theorem spec_l1Below.hf (k : Nat) (a0 : l1Cur) (a1 : Int) : (spec_l1Below.f a0 a1 : Option (denR (outTys spec_l1Below.g.rts spec_l1Below.g.pms))) = evC (spec_l1Below.E k) (fun κ s => lhOf k κ s spec_l1Below.pts) b71 (OM.start spec_l1Below.g.pms 0 (a0, a1, ())) (OM.fin spec_l1Below.g Try.f71.results.toList) := by kernel_rfl
theorem spec_l1Below.ok (k : Nat) : SmOk Try.prog (spec_l1Below.sm k) :=
  sm_ok mixed (E := spec_l1Below.E) (pts := spec_l1Below.pts) (fun k => ⟨⟨tysOk, by kernel_rfl⟩, forall_cons ⟨spec_l1Byte.ok k, e125⟩ (forall_nil)⟩) (fun _ => rfl) (fun _ => rfl)
    ⟨Try.func71, by kernel_rfl, by kernel_rfl, by kernel_rfl, by kernel_rfl, by kernel_rfl, by kernel_rfl⟩ (forall_nil) (fun k x => spec_l1Below.hf k x.1 x.2.1) k
noncomputable def b54 : Code := Try.f54.body.getD .skip
theorem e54 : OM.Entry Try.prog 54 := ⟨_, Try.func54, by kernel_rfl, by kernel_rfl⟩
@[reducible] noncomputable def spec_l1Once.g : Sig := ⟨[.ptr tl1Cur .z .z, .fz (.int .i64)], [.v .bool .z], []⟩
@[reducible] noncomputable def spec_l1Once.fk : Nat → denI spec_l1Once.g.pms → Option (denR (outTys spec_l1Once.g.rts spec_l1Once.g.pms)) := fun k x => spec_l1Once.f x.1 x.2.1
@[reducible] noncomputable def spec_l1Once.sm (k : Nat) : Sm := ⟨54, spec_l1Once.g.pms, spec_l1Once.g.rts, spec_l1Once.fk k⟩
noncomputable def spec_l1Once.E (k : Nat) : Env := ⟨tys, [spec_l1Below.sm k], [], [], []⟩
noncomputable def spec_l1Once.pts : List (Pt (denR (outTys spec_l1Once.g.rts spec_l1Once.g.pms))) := []
theorem spec_l1Once.hf (k : Nat) (a0 : l1Cur) (a1 : Int) : (spec_l1Once.f a0 a1 : Option (denR (outTys spec_l1Once.g.rts spec_l1Once.g.pms))) = evC (spec_l1Once.E k) (fun κ s => lhOf k κ s spec_l1Once.pts) b54 (OM.start spec_l1Once.g.pms 0 (a0, a1, ())) (OM.fin spec_l1Once.g Try.f54.results.toList) := by kernel_rfl
theorem spec_l1Once.ok (k : Nat) : SmOk Try.prog (spec_l1Once.sm k) :=
  sm_ok mixed (E := spec_l1Once.E) (pts := spec_l1Once.pts) (fun k => ⟨⟨tysOk, by kernel_rfl⟩, forall_cons ⟨spec_l1Below.ok k, e71⟩ (forall_nil)⟩) (fun _ => rfl) (fun _ => rfl)
    ⟨Try.func54, by kernel_rfl, by kernel_rfl, by kernel_rfl, by kernel_rfl, by kernel_rfl, by kernel_rfl⟩ (forall_nil) (fun k x => spec_l1Once.hf k x.1 x.2.1) k
noncomputable def b116 : Code := Try.f116.body.getD .skip
theorem e116 : OM.Entry Try.prog 116 := ⟨_, Try.func116, by kernel_rfl, by kernel_rfl⟩
@[reducible] noncomputable def spec_l4DrawRight.g : Sig := ⟨[.ptr tl1Cur .z .z], [.v tConfig (.two (.own .z) .z)], []⟩
@[reducible] noncomputable def spec_l4DrawRight.fk : Nat → denI spec_l4DrawRight.g.pms → Option (denR (outTys spec_l4DrawRight.g.rts spec_l4DrawRight.g.pms)) := fun k x => spec_l4DrawRight.f k x.1
@[reducible] noncomputable def spec_l4DrawRight.sm (k : Nat) : Sm := ⟨116, spec_l4DrawRight.g.pms, spec_l4DrawRight.g.rts, spec_l4DrawRight.fk k⟩
noncomputable def spec_l4DrawRight.E (k : Nat) : Env := ⟨tys, [spec_l1Below.sm k, spec_l1Once.sm k], [], [], []⟩
@[reducible] noncomputable def spec_l4DrawRight.s9 : List Slot := [.r 0 36001 [] tl1Cur, .r 8 9 [] tConfig, .r 12 13 [] tConfig, .v 16 (.int .i64) .z [] 0, .v 20 (.int .i64) .z [] 0, .v 9 tConfig (.two (.own .a) .z) [] 0, .v 13 tConfig (.two (.own .z) .z) [] 0, .v 36001 tl1Cur .z [] 0]
noncomputable def spec_l4DrawRight.pts : List (Pt (denR (outTys spec_l4DrawRight.g.rts spec_l4DrawRight.g.pms))) := [⟨9, spec_l4DrawRight.s9, fun k x => spec_l4DrawRight.p9 k x.1 x.2.1 x.2.2.1 x.2.2.2.1 x.2.2.2.2.1⟩]
theorem spec_l4DrawRight.h9 (k : Nat) (x0 : Int) (x1 : Int) (x2 : Config) (x3 : Config) (x4 : l1Cur) : (spec_l4DrawRight.p9 (k + 1) x0 x1 x2 x3 x4 : Option (denR (outTys spec_l4DrawRight.g.rts spec_l4DrawRight.g.pms))) = evAt (spec_l4DrawRight.E k) (fun κ s => lhOf k κ s spec_l4DrawRight.pts) 9 b116 (unproj spec_l4DrawRight.s9 (x0, x1, x2, x3, x4, ())) (OM.fin spec_l4DrawRight.g Try.f116.results.toList) := by kernel_rfl
theorem spec_l4DrawRight.hf (k : Nat) (a0 : l1Cur) : (spec_l4DrawRight.f k a0 : Option (denR (outTys spec_l4DrawRight.g.rts spec_l4DrawRight.g.pms))) = evC (spec_l4DrawRight.E k) (fun κ s => lhOf k κ s spec_l4DrawRight.pts) b116 (OM.start spec_l4DrawRight.g.pms 0 (a0, ())) (OM.fin spec_l4DrawRight.g Try.f116.results.toList) := by kernel_rfl
theorem spec_l4DrawRight.ok (k : Nat) : SmOk Try.prog (spec_l4DrawRight.sm k) :=
  sm_ok mixed (E := spec_l4DrawRight.E) (pts := spec_l4DrawRight.pts) (fun k => ⟨⟨tysOk, by kernel_rfl⟩, forall_cons ⟨spec_l1Below.ok k, e71⟩ (forall_cons ⟨spec_l1Once.ok k, e54⟩ (forall_nil))⟩) (fun _ => rfl) (fun _ => rfl)
    ⟨Try.func116, by kernel_rfl, by kernel_rfl, by kernel_rfl, by kernel_rfl, by kernel_rfl, by kernel_rfl⟩ (forall_cons (fun x => ⟨rfl, fun k => spec_l4DrawRight.h9 k x.1 x.2.1 x.2.2.1 x.2.2.2.1 x.2.2.2.2.1⟩) (forall_nil)) (fun k x => spec_l4DrawRight.hf k x.1) k
noncomputable def b91 : Code := Try.f91.body.getD .skip
theorem e91 : OM.Entry Try.prog 91 := ⟨_, Try.func91, by kernel_rfl, by kernel_rfl⟩
@[reducible] noncomputable def spec_l1PickInt.g : Sig := ⟨[.ptr tl1Cur .z .z, .fz (.sl (.int .i64))], [.v (.int .i64) .z], []⟩
@[reducible] noncomputable def spec_l1PickInt.fk : Nat → denI spec_l1PickInt.g.pms → Option (denR (outTys spec_l1PickInt.g.rts spec_l1PickInt.g.pms)) := fun k x => spec_l1PickInt.f x.1 x.2.1
@[reducible] noncomputable def spec_l1PickInt.sm (k : Nat) : Sm := ⟨91, spec_l1PickInt.g.pms, spec_l1PickInt.g.rts, spec_l1PickInt.fk k⟩
noncomputable def spec_l1PickInt.E (k : Nat) : Env := ⟨tys, [spec_l1Below.sm k], [], [], []⟩
noncomputable def spec_l1PickInt.pts : List (Pt (denR (outTys spec_l1PickInt.g.rts spec_l1PickInt.g.pms))) := []
theorem spec_l1PickInt.hf (k : Nat) (a0 : l1Cur) (a1 : (List Int)) : (spec_l1PickInt.f a0 a1 : Option (denR (outTys spec_l1PickInt.g.rts spec_l1PickInt.g.pms))) = evC (spec_l1PickInt.E k) (fun κ s => lhOf k κ s spec_l1PickInt.pts) b91 (OM.start spec_l1PickInt.g.pms 0 (a0, a1, ())) (OM.fin spec_l1PickInt.g Try.f91.results.toList) := by kernel_rfl
theorem spec_l1PickInt.ok (k : Nat) : SmOk Try.prog (spec_l1PickInt.sm k) :=
  sm_ok mixed (E := spec_l1PickInt.E) (pts := spec_l1PickInt.pts) (fun k => ⟨⟨tysOk, by kernel_rfl⟩, forall_cons ⟨spec_l1Below.ok k, e71⟩ (forall_nil)⟩) (fun _ => rfl) (fun _ => rfl)
    ⟨Try.func91, by kernel_rfl, by kernel_rfl, by kernel_rfl, by kernel_rfl, by kernel_rfl, by kernel_rfl⟩ (forall_nil) (fun k x => spec_l1PickInt.hf k x.1 x.2.1) k
noncomputable def b89 : Code := Try.f89.body.getD .skip
theorem e89 : OM.Entry Try.prog 89 := ⟨_, Try.func89, by kernel_rfl, by kernel_rfl⟩
@[reducible] noncomputable def spec_l4Draw.g : Sig := ⟨[.ptr tl1Cur .z .z], [.v tConfig (.two (.own .z) .z)], []⟩
@[reducible] noncomputable def spec_l4Draw.fk : Nat → denI spec_l4Draw.g.pms → Option (denR (outTys spec_l4Draw.g.rts spec_l4Draw.g.pms)) := fun k x => spec_l4Draw.f k x.1
@[reducible] noncomputable def spec_l4Draw.sm (k : Nat) : Sm := ⟨89, spec_l4Draw.g.pms, spec_l4Draw.g.rts, spec_l4Draw.fk k⟩
noncomputable def spec_l4Draw.E (k : Nat) : Env := ⟨tys, [spec_l1Below.sm k, spec_l4DrawRight.sm k, spec_l1PickInt.sm k], [], [], []⟩
noncomputable def spec_l4Draw.pts : List (Pt (denR (outTys spec_l4Draw.g.rts spec_l4Draw.g.pms))) := []
theorem spec_l4Draw.hf (k : Nat) (a0 : l1Cur) : (spec_l4Draw.f k a0 : Option (denR (outTys spec_l4Draw.g.rts spec_l4Draw.g.pms))) = evC (spec_l4Draw.E k) (fun κ s => lhOf k κ s spec_l4Draw.pts) b89 (OM.start spec_l4Draw.g.pms 0 (a0, ())) (OM.fin spec_l4Draw.g Try.f89.results.toList) := by kernel_rfl
theorem spec_l4Draw.ok (k : Nat) : SmOk Try.prog (spec_l4Draw.sm k) :=
  sm_ok mixed (E := spec_l4Draw.E) (pts := spec_l4Draw.pts) (fun k => ⟨⟨tysOk, by kernel_rfl⟩, forall_cons ⟨spec_l1Below.ok k, e71⟩ (forall_cons ⟨spec_l4DrawRight.ok k, e116⟩ (forall_cons ⟨spec_l1PickInt.ok k, e91⟩ (forall_nil)))⟩) (fun _ => rfl) (fun _ => rfl)
    ⟨Try.func89, by kernel_rfl, by kernel_rfl, by kernel_rfl, by kernel_rfl, by kernel_rfl, by kernel_rfl⟩ (forall_nil) (fun k x => spec_l4Draw.hf k x.1) k
noncomputable def b161 : Code := Try.f161.body.getD .skip
theorem e161 : OM.Entry Try.prog 161 := ⟨_, Try.func161, by kernel_rfl, by kernel_rfl⟩
@[reducible] noncomputable def spec_l1Max.g : Sig := ⟨[.fz (.int .i64), .fz (.int .i64)], [.v (.int .i64) .z], []⟩
@[reducible] noncomputable def spec_l1Max.fk : Nat → denI spec_l1Max.g.pms → Option (denR (outTys spec_l1Max.g.rts spec_l1Max.g.pms)) := fun k x => spec_l1Max.f x.1 x.2.1
@[reducible] noncomputable def spec_l1Max.sm (k : Nat) : Sm := ⟨161, spec_l1Max.g.pms, spec_l1Max.g.rts, spec_l1Max.fk k⟩
noncomputable def spec_l1Max.E (k : Nat) : Env := ⟨tys, [], [], [], []⟩
noncomputable def spec_l1Max.pts : List (Pt (denR (outTys spec_l1Max.g.rts spec_l1Max.g.pms))) := []
theorem spec_l1Max.hf (k : Nat) (a0 : Int) (a1 : Int) : (spec_l1Max.f a0 a1 : Option (denR (outTys spec_l1Max.g.rts spec_l1Max.g.pms))) = evC (spec_l1Max.E k) (fun κ s => lhOf k κ s spec_l1Max.pts) b161 (OM.start spec_l1Max.g.pms 0 (a0, a1, ())) (OM.fin spec_l1Max.g Try.f161.results.toList) := by kernel_rfl
theorem spec_l1Max.ok (k : Nat) : SmOk Try.prog (spec_l1Max.sm k) :=
  sm_ok mixed (E := spec_l1Max.E) (pts := spec_l1Max.pts) (fun k => ⟨⟨tysOk, by kernel_rfl⟩, forall_nil⟩) (fun _ => rfl) (fun _ => rfl)
    ⟨Try.func161, by kernel_rfl, by kernel_rfl, by kernel_rfl, by kernel_rfl, by kernel_rfl, by kernel_rfl⟩ (forall_nil) (fun k x => spec_l1Max.hf k x.1 x.2.1) k
noncomputable def b155 : Code := Try.f155.body.getD .skip
theorem e155 : OM.Entry Try.prog 155 := ⟨_, Try.func155, by kernel_rfl, by kernel_rfl⟩
@[reducible] noncomputable def spec_l4Has.g : Sig := ⟨[.fz (.sl (.int .i64)), .fz (.int .i64)], [.v .bool .z], []⟩
@[reducible] noncomputable def spec_l4Has.fk : Nat → denI spec_l4Has.g.pms → Option (denR (outTys spec_l4Has.g.rts spec_l4Has.g.pms)) := fun k x => spec_l4Has.f k x.1 x.2.1
@[reducible] noncomputable def spec_l4Has.sm (k : Nat) : Sm := ⟨155, spec_l4Has.g.pms, spec_l4Has.g.rts, spec_l4Has.fk k⟩
noncomputable def spec_l4Has.E (k : Nat) : Env := ⟨tys, [], [], [], []⟩
@[reducible] noncomputable def spec_l4Has.s5 : List Slot := [.v 0 (.sl (.int .i64)) .z [] 0, .v 4 (.int .i64) .z [] 0, .v 20 (.int .i64) .z [] 0]
noncomputable def spec_l4Has.pts : List (Pt (denR (outTys spec_l4Has.g.rts spec_l4Has.g.pms))) := [⟨5, spec_l4Has.s5, fun k x => spec_l4Has.p5 k x.1 x.2.1 x.2.2.1⟩]
theorem spec_l4Has.h5 (k : Nat) (x0 : (List Int)) (x1 : Int) (x2 : Int) : (spec_l4Has.p5 (k + 1) x0 x1 x2 : Option (denR (outTys spec_l4Has.g.rts spec_l4Has.g.pms))) = evAt (spec_l4Has.E k) (fun κ s => lhOf k κ s spec_l4Has.pts) 5 b155 (unproj spec_l4Has.s5 (x0, x1, x2, ())) (OM.fin spec_l4Has.g Try.f155.results.toList) := by kernel_rfl
theorem spec_l4Has.hf (k : Nat) (a0 : (List Int)) (a1 : Int) : (spec_l4Has.f k a0 a1 : Option (denR (outTys spec_l4Has.g.rts spec_l4Has.g.pms))) = evC (spec_l4Has.E k) (fun κ s => lhOf k κ s spec_l4Has.pts) b155 (OM.start spec_l4Has.g.pms 0 (a0, a1, ())) (OM.fin spec_l4Has.g Try.f155.results.toList) := by kernel_rfl
theorem spec_l4Has.ok (k : Nat) : SmOk Try.prog (spec_l4Has.sm k) :=
  sm_ok mixed (E := spec_l4Has.E) (pts := spec_l4Has.pts) (fun k => ⟨⟨tysOk, by kernel_rfl⟩, forall_nil⟩) (fun _ => rfl) (fun _ => rfl)
    ⟨Try.func155, by kernel_rfl, by kernel_rfl, by kernel_rfl, by kernel_rfl, by kernel_rfl, by kernel_rfl⟩ (forall_cons (fun x => ⟨rfl, fun k => spec_l4Has.h5 k x.1 x.2.1 x.2.2.1⟩) (forall_nil)) (fun k x => spec_l4Has.hf k x.1 x.2.1) k
noncomputable def b160 : Code := Try.f160.body.getD .skip
theorem e160 : OM.Entry Try.prog 160 := ⟨_, Try.func160, by kernel_rfl, by kernel_rfl⟩
@[reducible] noncomputable def spec_l4Put.g : Sig := ⟨[.fz (.sl (.int .i64)), .fz (.int .i64)], [.v (.sl (.int .i64)) (.own .z)], []⟩
@[reducible] noncomputable def spec_l4Put.fk : Nat → denI spec_l4Put.g.pms → Option (denR (outTys spec_l4Put.g.rts spec_l4Put.g.pms)) := fun k x => spec_l4Put.f k x.1 x.2.1
@[reducible] noncomputable def spec_l4Put.sm (k : Nat) : Sm := ⟨160, spec_l4Put.g.pms, spec_l4Put.g.rts, spec_l4Put.fk k⟩
noncomputable def spec_l4Put.E (k : Nat) : Env := ⟨tys, [spec_l4Has.sm k], [36, 42], [], []⟩
@[reducible] noncomputable def spec_l4Put.s9 : List Slot := [.v 0 (.sl (.int .i64)) .z [] 0, .v 4 (.int .i64) .z [] 0, .v 20 (.sl (.int .i64)) (.own .z) [] 0, .v 24 .bool .z [] 0, .v 28 (.int .i64) .z [] 0]
noncomputable def spec_l4Put.pts : List (Pt (denR (outTys spec_l4Put.g.rts spec_l4Put.g.pms))) := [⟨9, spec_l4Put.s9, fun k x => spec_l4Put.p9 k x.1 x.2.1 x.2.2.1 x.2.2.2.1 x.2.2.2.2.1⟩]
theorem spec_l4Put.h9 (k : Nat) (x0 : (List Int)) (x1 : Int) (x2 : (List Int)) (x3 : Bool) (x4 : Int) : (spec_l4Put.p9 (k + 1) x0 x1 x2 x3 x4 : Option (denR (outTys spec_l4Put.g.rts spec_l4Put.g.pms))) = evAt (spec_l4Put.E k) (fun κ s => lhOf k κ s spec_l4Put.pts) 9 b160 (unproj spec_l4Put.s9 (x0, x1, x2, x3, x4, ())) (OM.fin spec_l4Put.g Try.f160.results.toList) := by kernel_rfl
theorem spec_l4Put.hf (k : Nat) (a0 : (List Int)) (a1 : Int) : (spec_l4Put.f k a0 a1 : Option (denR (outTys spec_l4Put.g.rts spec_l4Put.g.pms))) = evC (spec_l4Put.E k) (fun κ s => lhOf k κ s spec_l4Put.pts) b160 (OM.start spec_l4Put.g.pms 0 (a0, a1, ())) (OM.fin spec_l4Put.g Try.f160.results.toList) := by kernel_rfl
theorem spec_l4Put.ok (k : Nat) : SmOk Try.prog (spec_l4Put.sm k) :=
  sm_ok mixed (E := spec_l4Put.E) (pts := spec_l4Put.pts) (fun k => ⟨⟨tysOk, by kernel_rfl⟩, forall_cons ⟨spec_l4Has.ok k, e155⟩ (forall_nil)⟩) (fun _ => rfl) (fun _ => rfl)
    ⟨Try.func160, by kernel_rfl, by kernel_rfl, by kernel_rfl, by kernel_rfl, by kernel_rfl, by kernel_rfl⟩ (forall_cons (fun x => ⟨rfl, fun k => spec_l4Put.h9 k x.1 x.2.1 x.2.2.1 x.2.2.2.1 x.2.2.2.2.1⟩) (forall_nil)) (fun k x => spec_l4Put.hf k x.1 x.2.1) k
noncomputable def b134 : Code := Try.f134.body.getD .skip
theorem e134 : OM.Entry Try.prog 134 := ⟨_, Try.func134, by kernel_rfl, by kernel_rfl⟩
@[reducible] noncomputable def spec_l4DrawNodes.g : Sig := ⟨[.ptr tl1Cur .z .z, .fz tConfig], [.v (.sl (.int .i64)) (.own .z)], []⟩
@[reducible] noncomputable def spec_l4DrawNodes.fk : Nat → denI spec_l4DrawNodes.g.pms → Option (denR (outTys spec_l4DrawNodes.g.rts spec_l4DrawNodes.g.pms)) := fun k x => spec_l4DrawNodes.f k x.1 x.2.1
@[reducible] noncomputable def spec_l4DrawNodes.sm (k : Nat) : Sm := ⟨134, spec_l4DrawNodes.g.pms, spec_l4DrawNodes.g.rts, spec_l4DrawNodes.fk k⟩
noncomputable def spec_l4DrawNodes.E (k : Nat) : Env := ⟨tys, [spec_l1Below.sm k, spec_l1Once.sm k, spec_l1PickInt.sm k, spec_l1Max.sm k, spec_l4Put.sm k], [], [], []⟩
@[reducible] noncomputable def spec_l4DrawNodes.s9 : List Slot := [.r 0 36001 [] tl1Cur, .r 12 13 [] tConfig, .v 20 (.sl (.int .i64)) (.own .z) [] 0, .v 24 (.int .i64) .z [] 0, .v 28 (.int .i64) .z [] 0, .v 13 tConfig .z [] 0, .v 36001 tl1Cur .z [] 0]
noncomputable def spec_l4DrawNodes.pts : List (Pt (denR (outTys spec_l4DrawNodes.g.rts spec_l4DrawNodes.g.pms))) := [⟨9, spec_l4DrawNodes.s9, fun k x => spec_l4DrawNodes.p9 k x.1 x.2.1 x.2.2.1 x.2.2.2.1 x.2.2.2.2.1⟩]
theorem spec_l4DrawNodes.h9 (k : Nat) (x0 : (List Int)) (x1 : Int) (x2 : Int) (x3 : Config) (x4 : l1Cur) : (spec_l4DrawNodes.p9 (k + 1) x0 x1 x2 x3 x4 : Option (denR (outTys spec_l4DrawNodes.g.rts spec_l4DrawNodes.g.pms))) = evAt (spec_l4DrawNodes.E k) (fun κ s => lhOf k κ s spec_l4DrawNodes.pts) 9 b134 (unproj spec_l4DrawNodes.s9 (x0, x1, x2, x3, x4, ())) (OM.fin spec_l4DrawNodes.g Try.f134.results.toList) := by kernel_rfl
theorem spec_l4DrawNodes.hf (k : Nat) (a0 : l1Cur) (a1 : Config) : (spec_l4DrawNodes.f k a0 a1 : Option (denR (outTys spec_l4DrawNodes.g.rts spec_l4DrawNodes.g.pms))) = evC (spec_l4DrawNodes.E k) (fun κ s => lhOf k κ s spec_l4DrawNodes.pts) b134 (OM.start spec_l4DrawNodes.g.pms 0 (a0, a1, ())) (OM.fin spec_l4DrawNodes.g Try.f134.results.toList) := by kernel_rfl
theorem spec_l4DrawNodes.ok (k : Nat) : SmOk Try.prog (spec_l4DrawNodes.sm k) :=
  sm_ok mixed (E := spec_l4DrawNodes.E) (pts := spec_l4DrawNodes.pts) (fun k => ⟨⟨tysOk, by kernel_rfl⟩, forall_cons ⟨spec_l1Below.ok k, e71⟩ (forall_cons ⟨spec_l1Once.ok k, e54⟩ (forall_cons ⟨spec_l1PickInt.ok k, e91⟩ (forall_cons ⟨spec_l1Max.ok k, e161⟩ (forall_cons ⟨spec_l4Put.ok k, e160⟩ (forall_nil)))))⟩) (fun _ => rfl) (fun _ => rfl)
    ⟨Try.func134, by kernel_rfl, by kernel_rfl, by kernel_rfl, by kernel_rfl, by kernel_rfl, by kernel_rfl⟩ (forall_cons (fun x => ⟨rfl, fun k => spec_l4DrawNodes.h9 k x.1 x.2.1 x.2.2.1 x.2.2.2.1 x.2.2.2.2.1⟩) (forall_nil)) (fun k x => spec_l4DrawNodes.hf k x.1 x.2.1) k
noncomputable def b63 : Code := Try.f63.body.getD .skip
theorem e63 : OM.Entry Try.prog 63 := ⟨_, Try.func63, by kernel_rfl, by kernel_rfl⟩
@[reducible] noncomputable def spec_l1In.g : Sig := ⟨[.fz (.int .i64), .fz (.int .i64), .fz (.int .i64)], [.v .bool .z], []⟩
@[reducible] noncomputable def spec_l1In.fk : Nat → denI spec_l1In.g.pms → Option (denR (outTys spec_l1In.g.rts spec_l1In.g.pms)) := fun k x => spec_l1In.f x.1 x.2.1 x.2.2.1
@[reducible] noncomputable def spec_l1In.sm (k : Nat) : Sm := ⟨63, spec_l1In.g.pms, spec_l1In.g.rts, spec_l1In.fk k⟩
noncomputable def spec_l1In.E (k : Nat) : Env := ⟨tys, [], [], [], []⟩
noncomputable def spec_l1In.pts : List (Pt (denR (outTys spec_l1In.g.rts spec_l1In.g.pms))) := []
theorem spec_l1In.hf (k : Nat) (a0 : Int) (a1 : Int) (a2 : Int) : (spec_l1In.f a0 a1 a2 : Option (denR (outTys spec_l1In.g.rts spec_l1In.g.pms))) = evC (spec_l1In.E k) (fun κ s => lhOf k κ s spec_l1In.pts) b63 (OM.start spec_l1In.g.pms 0 (a0, a1, a2, ())) (OM.fin spec_l1In.g Try.f63.results.toList) := by kernel_rfl
theorem spec_l1In.ok (k : Nat) : SmOk Try.prog (spec_l1In.sm k) :=
  sm_ok mixed (E := spec_l1In.E) (pts := spec_l1In.pts) (fun k => ⟨⟨tysOk, by kernel_rfl⟩, forall_nil⟩) (fun _ => rfl) (fun _ => rfl)
    ⟨Try.func63, by kernel_rfl, by kernel_rfl, by kernel_rfl, by kernel_rfl, by kernel_rfl, by kernel_rfl⟩ (forall_nil) (fun k x => spec_l1In.hf k x.1 x.2.1 x.2.2.1) k
noncomputable def b62 : Code := Try.f62.body.getD .skip
theorem e62 : OM.Entry Try.prog 62 := ⟨_, Try.func62, by kernel_rfl, by kernel_rfl⟩
@[reducible] noncomputable def spec_ConfigOk.g : Sig := ⟨[.fz tConfig], [.v .bool .z], []⟩
@[reducible] noncomputable def spec_ConfigOk.fk : Nat → denI spec_ConfigOk.g.pms → Option (denR (outTys spec_ConfigOk.g.rts spec_ConfigOk.g.pms)) := fun k x => spec_ConfigOk.f k x.1
@[reducible] noncomputable def spec_ConfigOk.sm (k : Nat) : Sm := ⟨62, spec_ConfigOk.g.pms, spec_ConfigOk.g.rts, spec_ConfigOk.fk k⟩
noncomputable def spec_ConfigOk.E (k : Nat) : Env := ⟨tys, [spec_l1In.sm k], [], [], []⟩
@[reducible] noncomputable def spec_ConfigOk.s9 : List Slot := [.r 4 5 [] tConfig, .v 12 (.int .i64) .z [] 0, .v 5 tConfig .z [] 0]
noncomputable def spec_ConfigOk.pts : List (Pt (denR (outTys spec_ConfigOk.g.rts spec_ConfigOk.g.pms))) := [⟨9, spec_ConfigOk.s9, fun k x => spec_ConfigOk.p9 k x.1 x.2.1⟩]
theorem spec_ConfigOk.h9 (k : Nat) (x0 : Int) (x1 : Config) : (spec_ConfigOk.p9 (k + 1) x0 x1 : Option (denR (outTys spec_ConfigOk.g.rts spec_ConfigOk.g.pms))) = evAt (spec_ConfigOk.E k) (fun κ s => lhOf k κ s spec_ConfigOk.pts) 9 b62 (unproj spec_ConfigOk.s9 (x0, x1, ())) (OM.fin spec_ConfigOk.g Try.f62.results.toList) := by kernel_rfl
theorem spec_ConfigOk.hf (k : Nat) (a0 : Config) : (spec_ConfigOk.f k a0 : Option (denR (outTys spec_ConfigOk.g.rts spec_ConfigOk.g.pms))) = evC (spec_ConfigOk.E k) (fun κ s => lhOf k κ s spec_ConfigOk.pts) b62 (OM.start spec_ConfigOk.g.pms 0 (a0, ())) (OM.fin spec_ConfigOk.g Try.f62.results.toList) := by kernel_rfl
theorem spec_ConfigOk.ok (k : Nat) : SmOk Try.prog (spec_ConfigOk.sm k) :=
  sm_ok mixed (E := spec_ConfigOk.E) (pts := spec_ConfigOk.pts) (fun k => ⟨⟨tysOk, by kernel_rfl⟩, forall_cons ⟨spec_l1In.ok k, e63⟩ (forall_nil)⟩) (fun _ => rfl) (fun _ => rfl)
    ⟨Try.func62, by kernel_rfl, by kernel_rfl, by kernel_rfl, by kernel_rfl, by kernel_rfl, by kernel_rfl⟩ (forall_cons (fun x => ⟨rfl, fun k => spec_ConfigOk.h9 k x.1 x.2.1⟩) (forall_nil)) (fun k x => spec_ConfigOk.hf k x.1) k
noncomputable def b122 : Code := Try.f122.body.getD .skip
theorem e122 : OM.Entry Try.prog 122 := ⟨_, Try.func122, by kernel_rfl, by kernel_rfl⟩
@[reducible] noncomputable def spec_l4Asc.g : Sig := ⟨[.fz (.sl (.int .i64)), .fz (.int .i64), .fz (.int .i64)], [.v .bool .z], []⟩
@[reducible] noncomputable def spec_l4Asc.fk : Nat → denI spec_l4Asc.g.pms → Option (denR (outTys spec_l4Asc.g.rts spec_l4Asc.g.pms)) := fun k x => spec_l4Asc.f k x.1 x.2.1 x.2.2.1
@[reducible] noncomputable def spec_l4Asc.sm (k : Nat) : Sm := ⟨122, spec_l4Asc.g.pms, spec_l4Asc.g.rts, spec_l4Asc.fk k⟩
noncomputable def spec_l4Asc.E (k : Nat) : Env := ⟨tys, [spec_l1In.sm k], [], [], []⟩
@[reducible] noncomputable def spec_l4Asc.s5 : List Slot := [.v 0 (.sl (.int .i64)) .z [] 0, .v 4 (.int .i64) .z [] 0, .v 8 (.int .i64) .z [] 0, .v 28 (.int .i64) .z [] 0]
noncomputable def spec_l4Asc.pts : List (Pt (denR (outTys spec_l4Asc.g.rts spec_l4Asc.g.pms))) := [⟨5, spec_l4Asc.s5, fun k x => spec_l4Asc.p5 k x.1 x.2.1 x.2.2.1 x.2.2.2.1⟩]
theorem spec_l4Asc.h5 (k : Nat) (x0 : (List Int)) (x1 : Int) (x2 : Int) (x3 : Int) : (spec_l4Asc.p5 (k + 1) x0 x1 x2 x3 : Option (denR (outTys spec_l4Asc.g.rts spec_l4Asc.g.pms))) = evAt (spec_l4Asc.E k) (fun κ s => lhOf k κ s spec_l4Asc.pts) 5 b122 (unproj spec_l4Asc.s5 (x0, x1, x2, x3, ())) (OM.fin spec_l4Asc.g Try.f122.results.toList) := by kernel_rfl
theorem spec_l4Asc.hf (k : Nat) (a0 : (List Int)) (a1 : Int) (a2 : Int) : (spec_l4Asc.f k a0 a1 a2 : Option (denR (outTys spec_l4Asc.g.rts spec_l4Asc.g.pms))) = evC (spec_l4Asc.E k) (fun κ s => lhOf k κ s spec_l4Asc.pts) b122 (OM.start spec_l4Asc.g.pms 0 (a0, a1, a2, ())) (OM.fin spec_l4Asc.g Try.f122.results.toList) := by kernel_rfl
theorem spec_l4Asc.ok (k : Nat) : SmOk Try.prog (spec_l4Asc.sm k) :=
  sm_ok mixed (E := spec_l4Asc.E) (pts := spec_l4Asc.pts) (fun k => ⟨⟨tysOk, by kernel_rfl⟩, forall_cons ⟨spec_l1In.ok k, e63⟩ (forall_nil)⟩) (fun _ => rfl) (fun _ => rfl)
    ⟨Try.func122, by kernel_rfl, by kernel_rfl, by kernel_rfl, by kernel_rfl, by kernel_rfl, by kernel_rfl⟩ (forall_cons (fun x => ⟨rfl, fun k => spec_l4Asc.h5 k x.1 x.2.1 x.2.2.1 x.2.2.2.1⟩) (forall_nil)) (fun k x => spec_l4Asc.hf k x.1 x.2.1 x.2.2.1) k
noncomputable def b64 : Code := Try.f64.body.getD .skip
theorem e64 : OM.Entry Try.prog 64 := ⟨_, Try.func64, by kernel_rfl, by kernel_rfl⟩
@[reducible] noncomputable def spec_NodesOk.g : Sig := ⟨[.fz tConfig, .fz (.sl (.int .i64))], [.v .bool .z], []⟩
@[reducible] noncomputable def spec_NodesOk.fk : Nat → denI spec_NodesOk.g.pms → Option (denR (outTys spec_NodesOk.g.rts spec_NodesOk.g.pms)) := fun k x => spec_NodesOk.f k x.1 x.2.1
@[reducible] noncomputable def spec_NodesOk.sm (k : Nat) : Sm := ⟨64, spec_NodesOk.g.pms, spec_NodesOk.g.rts, spec_NodesOk.fk k⟩
noncomputable def spec_NodesOk.E (k : Nat) : Env := ⟨tys, [spec_ConfigOk.sm k, spec_l4Asc.sm k], [], [], []⟩
noncomputable def spec_NodesOk.pts : List (Pt (denR (outTys spec_NodesOk.g.rts spec_NodesOk.g.pms))) := []
theorem spec_NodesOk.hf (k : Nat) (a0 : Config) (a1 : (List Int)) : (spec_NodesOk.f k a0 a1 : Option (denR (outTys spec_NodesOk.g.rts spec_NodesOk.g.pms))) = evC (spec_NodesOk.E k) (fun κ s => lhOf k κ s spec_NodesOk.pts) b64 (OM.start spec_NodesOk.g.pms 0 (a0, a1, ())) (OM.fin spec_NodesOk.g Try.f64.results.toList) := by kernel_rfl
theorem spec_NodesOk.ok (k : Nat) : SmOk Try.prog (spec_NodesOk.sm k) :=
  sm_ok mixed (E := spec_NodesOk.E) (pts := spec_NodesOk.pts) (fun k => ⟨⟨tysOk, by kernel_rfl⟩, forall_cons ⟨spec_ConfigOk.ok k, e62⟩ (forall_cons ⟨spec_l4Asc.ok k, e122⟩ (forall_nil))⟩) (fun _ => rfl) (fun _ => rfl)
    ⟨Try.func64, by kernel_rfl, by kernel_rfl, by kernel_rfl, by kernel_rfl, by kernel_rfl, by kernel_rfl⟩ (forall_nil) (fun k x => spec_NodesOk.hf k x.1 x.2.1) k
noncomputable def b118 : Code := Try.f118.body.getD .skip
theorem e118 : OM.Entry Try.prog 118 := ⟨_, Try.func118, by kernel_rfl, by kernel_rfl⟩
@[reducible] noncomputable def spec_l4Span.g : Sig := ⟨[.fz tConfig, .fz (.sl (.int .i64))], [.v (.int .i64) .z], []⟩
@[reducible] noncomputable def spec_l4Span.fk : Nat → denI spec_l4Span.g.pms → Option (denR (outTys spec_l4Span.g.rts spec_l4Span.g.pms)) := fun k x => spec_l4Span.f k x.1 x.2.1
@[reducible] noncomputable def spec_l4Span.sm (k : Nat) : Sm := ⟨118, spec_l4Span.g.pms, spec_l4Span.g.rts, spec_l4Span.fk k⟩
noncomputable def spec_l4Span.E (k : Nat) : Env := ⟨tys, [], [23], [], []⟩
@[reducible] noncomputable def spec_l4Span.s9 : List Slot := [.v 4 (.sl (.int .i64)) .z [] 0, .r 8 9 [] tConfig, .v 20 (.sl .bool) (.own .z) [] 0, .v 24 (.int .i64) .z [] 0, .v 28 (.int .i64) .z [] 0, .v 9 tConfig .z [] 0]
noncomputable def spec_l4Span.pts : List (Pt (denR (outTys spec_l4Span.g.rts spec_l4Span.g.pms))) := [⟨9, spec_l4Span.s9, fun k x => spec_l4Span.p9 k x.1 x.2.1 x.2.2.1 x.2.2.2.1 x.2.2.2.2.1⟩]
theorem spec_l4Span.h9 (k : Nat) (x0 : (List Int)) (x1 : (List Bool)) (x2 : Int) (x3 : Int) (x4 : Config) : (spec_l4Span.p9 (k + 1) x0 x1 x2 x3 x4 : Option (denR (outTys spec_l4Span.g.rts spec_l4Span.g.pms))) = evAt (spec_l4Span.E k) (fun κ s => lhOf k κ s spec_l4Span.pts) 9 b118 (unproj spec_l4Span.s9 (x0, x1, x2, x3, x4, ())) (OM.fin spec_l4Span.g Try.f118.results.toList) := by kernel_rfl
theorem spec_l4Span.hf (k : Nat) (a0 : Config) (a1 : (List Int)) : (spec_l4Span.f k a0 a1 : Option (denR (outTys spec_l4Span.g.rts spec_l4Span.g.pms))) = evC (spec_l4Span.E k) (fun κ s => lhOf k κ s spec_l4Span.pts) b118 (OM.start spec_l4Span.g.pms 0 (a0, a1, ())) (OM.fin spec_l4Span.g Try.f118.results.toList) := by kernel_rfl
theorem spec_l4Span.ok (k : Nat) : SmOk Try.prog (spec_l4Span.sm k) :=
  sm_ok mixed (E := spec_l4Span.E) (pts := spec_l4Span.pts) (fun k => ⟨⟨tysOk, by kernel_rfl⟩, forall_nil⟩) (fun _ => rfl) (fun _ => rfl)
    ⟨Try.func118, by kernel_rfl, by kernel_rfl, by kernel_rfl, by kernel_rfl, by kernel_rfl, by kernel_rfl⟩ (forall_cons (fun x => ⟨rfl, fun k => spec_l4Span.h9 k x.1 x.2.1 x.2.2.1 x.2.2.2.1 x.2.2.2.2.1⟩) (forall_nil)) (fun k x => spec_l4Span.hf k x.1 x.2.1) k
noncomputable def b55 : Code := Try.f55.body.getD .skip
theorem e55 : OM.Entry Try.prog 55 := ⟨_, Try.func55, by kernel_rfl, by kernel_rfl⟩
@[reducible] noncomputable def spec_Holds.g : Sig := ⟨[.fz tConfig, .fz (.sl (.int .i64))], [.v .bool .z], []⟩
@[reducible] noncomputable def spec_Holds.fk : Nat → denI spec_Holds.g.pms → Option (denR (outTys spec_Holds.g.rts spec_Holds.g.pms)) := fun k x => spec_Holds.f k x.1 x.2.1
@[reducible] noncomputable def spec_Holds.sm (k : Nat) : Sm := ⟨55, spec_Holds.g.pms, spec_Holds.g.rts, spec_Holds.fk k⟩
noncomputable def spec_Holds.E (k : Nat) : Env := ⟨tys, [spec_NodesOk.sm k, spec_l4Span.sm k], [], [], []⟩
noncomputable def spec_Holds.pts : List (Pt (denR (outTys spec_Holds.g.rts spec_Holds.g.pms))) := []
theorem spec_Holds.hf (k : Nat) (a0 : Config) (a1 : (List Int)) : (spec_Holds.f k a0 a1 : Option (denR (outTys spec_Holds.g.rts spec_Holds.g.pms))) = evC (spec_Holds.E k) (fun κ s => lhOf k κ s spec_Holds.pts) b55 (OM.start spec_Holds.g.pms 0 (a0, a1, ())) (OM.fin spec_Holds.g Try.f55.results.toList) := by kernel_rfl
theorem spec_Holds.ok (k : Nat) : SmOk Try.prog (spec_Holds.sm k) :=
  sm_ok mixed (E := spec_Holds.E) (pts := spec_Holds.pts) (fun k => ⟨⟨tysOk, by kernel_rfl⟩, forall_cons ⟨spec_NodesOk.ok k, e64⟩ (forall_cons ⟨spec_l4Span.ok k, e118⟩ (forall_nil))⟩) (fun _ => rfl) (fun _ => rfl)
    ⟨Try.func55, by kernel_rfl, by kernel_rfl, by kernel_rfl, by kernel_rfl, by kernel_rfl, by kernel_rfl⟩ (forall_nil) (fun k x => spec_Holds.hf k x.1 x.2.1) k
noncomputable def b135 : Code := Try.f135.body.getD .skip
theorem e135 : OM.Entry Try.prog 135 := ⟨_, Try.func135, by kernel_rfl, by kernel_rfl⟩
@[reducible] noncomputable def spec_l7DrawSet.g : Sig := ⟨[.ptr tl1Cur .z .z, .fz tConfig], [.v (.sl (.int .i64)) (.own .z)], []⟩
@[reducible] noncomputable def spec_l7DrawSet.fk : Nat → denI spec_l7DrawSet.g.pms → Option (denR (outTys spec_l7DrawSet.g.rts spec_l7DrawSet.g.pms)) := fun k x => spec_l7DrawSet.f k x.1 x.2.1
@[reducible] noncomputable def spec_l7DrawSet.sm (k : Nat) : Sm := ⟨135, spec_l7DrawSet.g.pms, spec_l7DrawSet.g.rts, spec_l7DrawSet.fk k⟩
noncomputable def spec_l7DrawSet.E (k : Nat) : Env := ⟨tys, [spec_l4Put.sm k, spec_l4DrawNodes.sm k, spec_Holds.sm k], [], [], []⟩
@[reducible] noncomputable def spec_l7DrawSet.s7 : List Slot := [.r 0 36001 [] tl1Cur, .r 12 13 [] tConfig, .v 20 (.sl (.int .i64)) (.own .z) [] 0, .v 24 (.int .i64) .z [] 0, .v 13 tConfig .z [] 0, .v 36001 tl1Cur .z [] 0]
noncomputable def spec_l7DrawSet.pts : List (Pt (denR (outTys spec_l7DrawSet.g.rts spec_l7DrawSet.g.pms))) := [⟨7, spec_l7DrawSet.s7, fun k x => spec_l7DrawSet.p7 k x.1 x.2.1 x.2.2.1 x.2.2.2.1⟩]
theorem spec_l7DrawSet.h7 (k : Nat) (x0 : (List Int)) (x1 : Int) (x2 : Config) (x3 : l1Cur) : (spec_l7DrawSet.p7 (k + 1) x0 x1 x2 x3 : Option (denR (outTys spec_l7DrawSet.g.rts spec_l7DrawSet.g.pms))) = evAt (spec_l7DrawSet.E k) (fun κ s => lhOf k κ s spec_l7DrawSet.pts) 7 b135 (unproj spec_l7DrawSet.s7 (x0, x1, x2, x3, ())) (OM.fin spec_l7DrawSet.g Try.f135.results.toList) := by kernel_rfl
theorem spec_l7DrawSet.hf (k : Nat) (a0 : l1Cur) (a1 : Config) : (spec_l7DrawSet.f k a0 a1 : Option (denR (outTys spec_l7DrawSet.g.rts spec_l7DrawSet.g.pms))) = evC (spec_l7DrawSet.E k) (fun κ s => lhOf k κ s spec_l7DrawSet.pts) b135 (OM.start spec_l7DrawSet.g.pms 0 (a0, a1, ())) (OM.fin spec_l7DrawSet.g Try.f135.results.toList) := by kernel_rfl
theorem spec_l7DrawSet.ok (k : Nat) : SmOk Try.prog (spec_l7DrawSet.sm k) :=
  sm_ok mixed (E := spec_l7DrawSet.E) (pts := spec_l7DrawSet.pts) (fun k => ⟨⟨tysOk, by kernel_rfl⟩, forall_cons ⟨spec_l4Put.ok k, e160⟩ (forall_cons ⟨spec_l4DrawNodes.ok k, e134⟩ (forall_cons ⟨spec_Holds.ok k, e55⟩ (forall_nil)))⟩) (fun _ => rfl) (fun _ => rfl)
    ⟨Try.func135, by kernel_rfl, by kernel_rfl, by kernel_rfl, by kernel_rfl, by kernel_rfl, by kernel_rfl⟩ (forall_cons (fun x => ⟨rfl, fun k => spec_l7DrawSet.h7 k x.1 x.2.1 x.2.2.1 x.2.2.2.1⟩) (forall_nil)) (fun k x => spec_l7DrawSet.hf k x.1 x.2.1) k
noncomputable def b93 : Code := Try.f93.body.getD .skip
theorem e93 : OM.Entry Try.prog 93 := ⟨_, Try.func93, by kernel_rfl, by kernel_rfl⟩
@[reducible] noncomputable def spec_PlaceOk.g : Sig := ⟨[.fz (.int .i64)], [.v .bool .z], []⟩
@[reducible] noncomputable def spec_PlaceOk.fk : Nat → denI spec_PlaceOk.g.pms → Option (denR (outTys spec_PlaceOk.g.rts spec_PlaceOk.g.pms)) := fun k x => spec_PlaceOk.f x.1
@[reducible] noncomputable def spec_PlaceOk.sm (k : Nat) : Sm := ⟨93, spec_PlaceOk.g.pms, spec_PlaceOk.g.rts, spec_PlaceOk.fk k⟩
noncomputable def spec_PlaceOk.E (k : Nat) : Env := ⟨tys, [spec_l1In.sm k], [], [], []⟩
noncomputable def spec_PlaceOk.pts : List (Pt (denR (outTys spec_PlaceOk.g.rts spec_PlaceOk.g.pms))) := []
theorem spec_PlaceOk.hf (k : Nat) (a0 : Int) : (spec_PlaceOk.f a0 : Option (denR (outTys spec_PlaceOk.g.rts spec_PlaceOk.g.pms))) = evC (spec_PlaceOk.E k) (fun κ s => lhOf k κ s spec_PlaceOk.pts) b93 (OM.start spec_PlaceOk.g.pms 0 (a0, ())) (OM.fin spec_PlaceOk.g Try.f93.results.toList) := by kernel_rfl
theorem spec_PlaceOk.ok (k : Nat) : SmOk Try.prog (spec_PlaceOk.sm k) :=
  sm_ok mixed (E := spec_PlaceOk.E) (pts := spec_PlaceOk.pts) (fun k => ⟨⟨tysOk, by kernel_rfl⟩, forall_cons ⟨spec_l1In.ok k, e63⟩ (forall_nil)⟩) (fun _ => rfl) (fun _ => rfl)
    ⟨Try.func93, by kernel_rfl, by kernel_rfl, by kernel_rfl, by kernel_rfl, by kernel_rfl, by kernel_rfl⟩ (forall_nil) (fun k x => spec_PlaceOk.hf k x.1) k
noncomputable def b67 : Code := Try.f67.body.getD .skip
theorem e67 : OM.Entry Try.prog 67 := ⟨_, Try.func67, by kernel_rfl, by kernel_rfl⟩
@[reducible] noncomputable def spec_EpochOf.g : Sig := ⟨[.fz (.int .i64)], [.v (.int .i64) .z], []⟩
@[reducible] noncomputable def spec_EpochOf.fk : Nat → denI spec_EpochOf.g.pms → Option (denR (outTys spec_EpochOf.g.rts spec_EpochOf.g.pms)) := fun k x => spec_EpochOf.f x.1
@[reducible] noncomputable def spec_EpochOf.sm (k : Nat) : Sm := ⟨67, spec_EpochOf.g.pms, spec_EpochOf.g.rts, spec_EpochOf.fk k⟩
noncomputable def spec_EpochOf.E (k : Nat) : Env := ⟨tys, [spec_PlaceOk.sm k], [], [], []⟩
noncomputable def spec_EpochOf.pts : List (Pt (denR (outTys spec_EpochOf.g.rts spec_EpochOf.g.pms))) := []
theorem spec_EpochOf.hf (k : Nat) (a0 : Int) : (spec_EpochOf.f a0 : Option (denR (outTys spec_EpochOf.g.rts spec_EpochOf.g.pms))) = evC (spec_EpochOf.E k) (fun κ s => lhOf k κ s spec_EpochOf.pts) b67 (OM.start spec_EpochOf.g.pms 0 (a0, ())) (OM.fin spec_EpochOf.g Try.f67.results.toList) := by kernel_rfl
theorem spec_EpochOf.ok (k : Nat) : SmOk Try.prog (spec_EpochOf.sm k) :=
  sm_ok mixed (E := spec_EpochOf.E) (pts := spec_EpochOf.pts) (fun k => ⟨⟨tysOk, by kernel_rfl⟩, forall_cons ⟨spec_PlaceOk.ok k, e93⟩ (forall_nil)⟩) (fun _ => rfl) (fun _ => rfl)
    ⟨Try.func67, by kernel_rfl, by kernel_rfl, by kernel_rfl, by kernel_rfl, by kernel_rfl, by kernel_rfl⟩ (forall_nil) (fun k x => spec_EpochOf.hf k x.1) k
noncomputable def b36 : Code := Try.f36.body.getD .skip
theorem e36 : OM.Entry Try.prog 36 := ⟨_, Try.func36, by kernel_rfl, by kernel_rfl⟩
@[reducible] noncomputable def spec_RegOk.g : Sig := ⟨[.fz tConfig, .fz tRegister], [.v .bool .z], []⟩
@[reducible] noncomputable def spec_RegOk.fk : Nat → denI spec_RegOk.g.pms → Option (denR (outTys spec_RegOk.g.rts spec_RegOk.g.pms)) := fun k x => spec_RegOk.f k x.1 x.2.1
@[reducible] noncomputable def spec_RegOk.sm (k : Nat) : Sm := ⟨36, spec_RegOk.g.pms, spec_RegOk.g.rts, spec_RegOk.fk k⟩
noncomputable def spec_RegOk.E (k : Nat) : Env := ⟨tys, [spec_l1In.sm k, spec_ConfigOk.sm k, spec_Holds.sm k, spec_PlaceOk.sm k, spec_EpochOf.sm k], [45], [4, 10], []⟩
@[reducible] noncomputable def spec_RegOk.s8 : List Slot := [.r 8 9 [] tConfig, .r 12 13 [] tRegister, .v 20 (.int .i64) .z [] 0, .v 9 tConfig .z [] 0, .v 13 tRegister .z [] 0]
@[reducible] noncomputable def spec_RegOk.s11 : List Slot := [.r 8 9 [] tConfig, .r 12 13 [] tRegister, .v 20 (.int .i64) .z [] 0, .v 24 (.int .i64) .z [] 0, .v 9 tConfig .z [] 0, .v 13 tRegister .z [] 0]
@[reducible] noncomputable def spec_RegOk.s20 : List Slot := [.r 8 9 [] tConfig, .r 12 13 [] tRegister, .v 20 (.int .i64) .z [] 0, .v 24 (.int .i64) .z [] 0, .r 28 29 [] tEra, .r 208 29 [.snd, .snd, .fst] (.int .i64), .v 212 (.int .i64) .z [] 0, .v 216 .bool .z [] 0, .v 220 .bool .z [] 0, .r 232 29 [.snd, .fst] .bool, .v 236 .bool .z [] 0, .v 240 .bool .z [] 0, .v 244 .bool .z [] 0, .v 260 .bool .z [] 0, .v 9 tConfig .z [] 0, .v 13 tRegister .z [] 0, .v 29 tEra .z [] 0]
noncomputable def spec_RegOk.pts : List (Pt (denR (outTys spec_RegOk.g.rts spec_RegOk.g.pms))) := [⟨8, spec_RegOk.s8, fun k x => spec_RegOk.p8 k x.1 x.2.1 x.2.2.1⟩, ⟨11, spec_RegOk.s11, fun k x => spec_RegOk.p11 k x.1 x.2.1 x.2.2.1 x.2.2.2.1⟩, ⟨20, spec_RegOk.s20, fun k x => spec_RegOk.p20 k x.1 x.2.1 x.2.2.1 x.2.2.2.1 x.2.2.2.2.1 x.2.2.2.2.2.1 x.2.2.2.2.2.2.1 x.2.2.2.2.2.2.2.1 x.2.2.2.2.2.2.2.2.1 x.2.2.2.2.2.2.2.2.2.1 x.2.2.2.2.2.2.2.2.2.2.1 x.2.2.2.2.2.2.2.2.2.2.2.1⟩]
theorem spec_RegOk.h8 (k : Nat) (x0 : Int) (x1 : Config) (x2 : Register) : (spec_RegOk.p8 (k + 1) x0 x1 x2 : Option (denR (outTys spec_RegOk.g.rts spec_RegOk.g.pms))) = evAt (spec_RegOk.E k) (fun κ s => lhOf k κ s spec_RegOk.pts) 8 b36 (unproj spec_RegOk.s8 (x0, x1, x2, ())) (OM.fin spec_RegOk.g Try.f36.results.toList) := by kernel_rfl
theorem spec_RegOk.h11 (k : Nat) (x0 : Int) (x1 : Int) (x2 : Config) (x3 : Register) : (spec_RegOk.p11 (k + 1) x0 x1 x2 x3 : Option (denR (outTys spec_RegOk.g.rts spec_RegOk.g.pms))) = evAt (spec_RegOk.E k) (fun κ s => lhOf k κ s spec_RegOk.pts) 11 b36 (unproj spec_RegOk.s11 (x0, x1, x2, x3, ())) (OM.fin spec_RegOk.g Try.f36.results.toList) := by kernel_rfl
theorem spec_RegOk.h20 (k : Nat) (x0 : Int) (x1 : Int) (x2 : Int) (x3 : Bool) (x4 : Bool) (x5 : Bool) (x6 : Bool) (x7 : Bool) (x8 : Bool) (x9 : Config) (x10 : Register) (x11 : Era) : (spec_RegOk.p20 (k + 1) x0 x1 x2 x3 x4 x5 x6 x7 x8 x9 x10 x11 : Option (denR (outTys spec_RegOk.g.rts spec_RegOk.g.pms))) = evAt (spec_RegOk.E k) (fun κ s => lhOf k κ s spec_RegOk.pts) 20 b36 (unproj spec_RegOk.s20 (x0, x1, x2, x3, x4, x5, x6, x7, x8, x9, x10, x11, ())) (OM.fin spec_RegOk.g Try.f36.results.toList) := by kernel_rfl
theorem spec_RegOk.hf (k : Nat) (a0 : Config) (a1 : Register) : (spec_RegOk.f k a0 a1 : Option (denR (outTys spec_RegOk.g.rts spec_RegOk.g.pms))) = evC (spec_RegOk.E k) (fun κ s => lhOf k κ s spec_RegOk.pts) b36 (OM.start spec_RegOk.g.pms 0 (a0, a1, ())) (OM.fin spec_RegOk.g Try.f36.results.toList) := by kernel_rfl
theorem spec_RegOk.ok (k : Nat) : SmOk Try.prog (spec_RegOk.sm k) :=
  sm_ok mixed (E := spec_RegOk.E) (pts := spec_RegOk.pts) (fun k => ⟨⟨tysOk, by kernel_rfl⟩, forall_cons ⟨spec_l1In.ok k, e63⟩ (forall_cons ⟨spec_ConfigOk.ok k, e62⟩ (forall_cons ⟨spec_Holds.ok k, e55⟩ (forall_cons ⟨spec_PlaceOk.ok k, e93⟩ (forall_cons ⟨spec_EpochOf.ok k, e67⟩ (forall_nil)))))⟩) (fun _ => rfl) (fun _ => rfl)
    ⟨Try.func36, by kernel_rfl, by kernel_rfl, by kernel_rfl, by kernel_rfl, by kernel_rfl, by kernel_rfl⟩ (forall_cons (fun x => ⟨rfl, fun k => spec_RegOk.h8 k x.1 x.2.1 x.2.2.1⟩) (forall_cons (fun x => ⟨rfl, fun k => spec_RegOk.h11 k x.1 x.2.1 x.2.2.1 x.2.2.2.1⟩) (forall_cons (fun x => ⟨rfl, fun k => spec_RegOk.h20 k x.1 x.2.1 x.2.2.1 x.2.2.2.1 x.2.2.2.2.1 x.2.2.2.2.2.1 x.2.2.2.2.2.2.1 x.2.2.2.2.2.2.2.1 x.2.2.2.2.2.2.2.2.1 x.2.2.2.2.2.2.2.2.2.1 x.2.2.2.2.2.2.2.2.2.2.1 x.2.2.2.2.2.2.2.2.2.2.2.1⟩) (forall_nil)))) (fun k x => spec_RegOk.hf k x.1 x.2.1) k
noncomputable def b78 : Code := Try.f78.body.getD .skip
theorem e78 : OM.Entry Try.prog 78 := ⟨_, Try.func78, by kernel_rfl, by kernel_rfl⟩
@[reducible] noncomputable def spec_l7Copy.g : Sig := ⟨[.fz tRegister], [.v tRegister (.two (.own (.two (.own .z) .z)) .z)], []⟩
@[reducible] noncomputable def spec_l7Copy.fk : Nat → denI spec_l7Copy.g.pms → Option (denR (outTys spec_l7Copy.g.rts spec_l7Copy.g.pms)) := fun k x => spec_l7Copy.f k x.1
@[reducible] noncomputable def spec_l7Copy.sm (k : Nat) : Sm := ⟨78, spec_l7Copy.g.pms, spec_l7Copy.g.rts, spec_l7Copy.fk k⟩
noncomputable def spec_l7Copy.E (k : Nat) : Env := ⟨tys, [], [20, 28], [], []⟩
@[reducible] noncomputable def spec_l7Copy.s7 : List Slot := [.r 4 5 [] tRegister, .r 8 9 [] tRegister, .r 12 13 [] tRegister, .v 16 (.int .i64) .z [] 0, .v 5 tRegister .z [] 0, .v 9 tRegister (.two (.own .a) .z) [] 0, .v 13 tRegister (.two (.own (.two (.own .z) .z)) .z) [] 0]
noncomputable def spec_l7Copy.pts : List (Pt (denR (outTys spec_l7Copy.g.rts spec_l7Copy.g.pms))) := [⟨7, spec_l7Copy.s7, fun k x => spec_l7Copy.p7 k x.1 x.2.1 x.2.2.1 x.2.2.2.1⟩]
theorem spec_l7Copy.h7 (k : Nat) (x0 : Int) (x1 : Register) (x2 : Register) (x3 : Register) : (spec_l7Copy.p7 (k + 1) x0 x1 x2 x3 : Option (denR (outTys spec_l7Copy.g.rts spec_l7Copy.g.pms))) = evAt (spec_l7Copy.E k) (fun κ s => lhOf k κ s spec_l7Copy.pts) 7 b78 (unproj spec_l7Copy.s7 (x0, x1, x2, x3, ())) (OM.fin spec_l7Copy.g Try.f78.results.toList) := by kernel_rfl
theorem spec_l7Copy.hf (k : Nat) (a0 : Register) : (spec_l7Copy.f k a0 : Option (denR (outTys spec_l7Copy.g.rts spec_l7Copy.g.pms))) = evC (spec_l7Copy.E k) (fun κ s => lhOf k κ s spec_l7Copy.pts) b78 (OM.start spec_l7Copy.g.pms 0 (a0, ())) (OM.fin spec_l7Copy.g Try.f78.results.toList) := by kernel_rfl
theorem spec_l7Copy.ok (k : Nat) : SmOk Try.prog (spec_l7Copy.sm k) :=
  sm_ok mixed (E := spec_l7Copy.E) (pts := spec_l7Copy.pts) (fun k => ⟨⟨tysOk, by kernel_rfl⟩, forall_nil⟩) (fun _ => rfl) (fun _ => rfl)
    ⟨Try.func78, by kernel_rfl, by kernel_rfl, by kernel_rfl, by kernel_rfl, by kernel_rfl, by kernel_rfl⟩ (forall_cons (fun x => ⟨rfl, fun k => spec_l7Copy.h7 k x.1 x.2.1 x.2.2.1 x.2.2.2.1⟩) (forall_nil)) (fun k x => spec_l7Copy.hf k x.1) k
noncomputable def b158 : Code := Try.f158.body.getD .skip
theorem e158 : OM.Entry Try.prog 158 := ⟨_, Try.func158, by kernel_rfl, by kernel_rfl⟩
@[reducible] noncomputable def spec_RegOpen.g : Sig := ⟨[.fz tConfig, .fz tRegister, .fz (.sl (.int .i64))], [.v tRegister (.two (.own (.two (.own .z) .z)) .z), .v (.int .i64) .z, .v .bool .z], []⟩
@[reducible] noncomputable def spec_RegOpen.fk : Nat → denI spec_RegOpen.g.pms → Option (denR (outTys spec_RegOpen.g.rts spec_RegOpen.g.pms)) := fun k x => spec_RegOpen.f k x.1 x.2.1 x.2.2.1
@[reducible] noncomputable def spec_RegOpen.sm (k : Nat) : Sm := ⟨158, spec_RegOpen.g.pms, spec_RegOpen.g.rts, spec_RegOpen.fk k⟩
noncomputable def spec_RegOpen.E (k : Nat) : Env := ⟨tys, [spec_Holds.sm k, spec_RegOk.sm k, spec_l7Copy.sm k], [31], [], []⟩
noncomputable def spec_RegOpen.pts : List (Pt (denR (outTys spec_RegOpen.g.rts spec_RegOpen.g.pms))) := []
theorem spec_RegOpen.hf (k : Nat) (a0 : Config) (a1 : Register) (a2 : (List Int)) : (spec_RegOpen.f k a0 a1 a2 : Option (denR (outTys spec_RegOpen.g.rts spec_RegOpen.g.pms))) = evC (spec_RegOpen.E k) (fun κ s => lhOf k κ s spec_RegOpen.pts) b158 (OM.start spec_RegOpen.g.pms 0 (a0, a1, a2, ())) (OM.fin spec_RegOpen.g Try.f158.results.toList) := by kernel_rfl
theorem spec_RegOpen.ok (k : Nat) : SmOk Try.prog (spec_RegOpen.sm k) :=
  sm_ok mixed (E := spec_RegOpen.E) (pts := spec_RegOpen.pts) (fun k => ⟨⟨tysOk, by kernel_rfl⟩, forall_cons ⟨spec_Holds.ok k, e55⟩ (forall_cons ⟨spec_RegOk.ok k, e36⟩ (forall_cons ⟨spec_l7Copy.ok k, e78⟩ (forall_nil)))⟩) (fun _ => rfl) (fun _ => rfl)
    ⟨Try.func158, by kernel_rfl, by kernel_rfl, by kernel_rfl, by kernel_rfl, by kernel_rfl, by kernel_rfl⟩ (forall_nil) (fun k x => spec_RegOpen.hf k x.1 x.2.1 x.2.2.1) k
noncomputable def b79 : Code := Try.f79.body.getD .skip
theorem e79 : OM.Entry Try.prog 79 := ⟨_, Try.func79, by kernel_rfl, by kernel_rfl⟩
@[reducible] noncomputable def spec_FirstOpen.g : Sig := ⟨[.fz tRegister], [.v (.int .i64) .z], []⟩
@[reducible] noncomputable def spec_FirstOpen.fk : Nat → denI spec_FirstOpen.g.pms → Option (denR (outTys spec_FirstOpen.g.rts spec_FirstOpen.g.pms)) := fun k x => spec_FirstOpen.f k x.1
@[reducible] noncomputable def spec_FirstOpen.sm (k : Nat) : Sm := ⟨79, spec_FirstOpen.g.pms, spec_FirstOpen.g.rts, spec_FirstOpen.fk k⟩
noncomputable def spec_FirstOpen.E (k : Nat) : Env := ⟨tys, [], [], [], []⟩
@[reducible] noncomputable def spec_FirstOpen.s5 : List Slot := [.r 4 5 [] tRegister, .v 12 (.int .i64) .z [] 0, .v 5 tRegister .z [] 0]
noncomputable def spec_FirstOpen.pts : List (Pt (denR (outTys spec_FirstOpen.g.rts spec_FirstOpen.g.pms))) := [⟨5, spec_FirstOpen.s5, fun k x => spec_FirstOpen.p5 k x.1 x.2.1⟩]
theorem spec_FirstOpen.h5 (k : Nat) (x0 : Int) (x1 : Register) : (spec_FirstOpen.p5 (k + 1) x0 x1 : Option (denR (outTys spec_FirstOpen.g.rts spec_FirstOpen.g.pms))) = evAt (spec_FirstOpen.E k) (fun κ s => lhOf k κ s spec_FirstOpen.pts) 5 b79 (unproj spec_FirstOpen.s5 (x0, x1, ())) (OM.fin spec_FirstOpen.g Try.f79.results.toList) := by kernel_rfl
theorem spec_FirstOpen.hf (k : Nat) (a0 : Register) : (spec_FirstOpen.f k a0 : Option (denR (outTys spec_FirstOpen.g.rts spec_FirstOpen.g.pms))) = evC (spec_FirstOpen.E k) (fun κ s => lhOf k κ s spec_FirstOpen.pts) b79 (OM.start spec_FirstOpen.g.pms 0 (a0, ())) (OM.fin spec_FirstOpen.g Try.f79.results.toList) := by kernel_rfl
theorem spec_FirstOpen.ok (k : Nat) : SmOk Try.prog (spec_FirstOpen.sm k) :=
  sm_ok mixed (E := spec_FirstOpen.E) (pts := spec_FirstOpen.pts) (fun k => ⟨⟨tysOk, by kernel_rfl⟩, forall_nil⟩) (fun _ => rfl) (fun _ => rfl)
    ⟨Try.func79, by kernel_rfl, by kernel_rfl, by kernel_rfl, by kernel_rfl, by kernel_rfl, by kernel_rfl⟩ (forall_cons (fun x => ⟨rfl, fun k => spec_FirstOpen.h5 k x.1 x.2.1⟩) (forall_nil)) (fun k x => spec_FirstOpen.hf k x.1) k
noncomputable def b25 : Code := Try.f25.body.getD .skip
theorem e25 : OM.Entry Try.prog 25 := ⟨_, Try.func25, by kernel_rfl, by kernel_rfl⟩
@[reducible] noncomputable def spec_RegClose.g : Sig := ⟨[.fz tConfig, .fz tRegister, .fz (.int .i64), .fz (.int .i64)], [.v tRegister (.two (.own (.two (.own .z) .z)) .z), .v .bool .z], []⟩
@[reducible] noncomputable def spec_RegClose.fk : Nat → denI spec_RegClose.g.pms → Option (denR (outTys spec_RegClose.g.rts spec_RegClose.g.pms)) := fun k x => spec_RegClose.f k x.1 x.2.1 x.2.2.1 x.2.2.2.1
@[reducible] noncomputable def spec_RegClose.sm (k : Nat) : Sm := ⟨25, spec_RegClose.g.pms, spec_RegClose.g.rts, spec_RegClose.fk k⟩
noncomputable def spec_RegClose.E (k : Nat) : Env := ⟨tys, [spec_l1In.sm k, spec_RegOk.sm k, spec_l7Copy.sm k, spec_FirstOpen.sm k], [51], [], []⟩
noncomputable def spec_RegClose.pts : List (Pt (denR (outTys spec_RegClose.g.rts spec_RegClose.g.pms))) := []
theorem spec_RegClose.hf (k : Nat) (a0 : Config) (a1 : Register) (a2 : Int) (a3 : Int) : (spec_RegClose.f k a0 a1 a2 a3 : Option (denR (outTys spec_RegClose.g.rts spec_RegClose.g.pms))) = evC (spec_RegClose.E k) (fun κ s => lhOf k κ s spec_RegClose.pts) b25 (OM.start spec_RegClose.g.pms 0 (a0, a1, a2, a3, ())) (OM.fin spec_RegClose.g Try.f25.results.toList) := by kernel_rfl
theorem spec_RegClose.ok (k : Nat) : SmOk Try.prog (spec_RegClose.sm k) :=
  sm_ok mixed (E := spec_RegClose.E) (pts := spec_RegClose.pts) (fun k => ⟨⟨tysOk, by kernel_rfl⟩, forall_cons ⟨spec_l1In.ok k, e63⟩ (forall_cons ⟨spec_RegOk.ok k, e36⟩ (forall_cons ⟨spec_l7Copy.ok k, e78⟩ (forall_cons ⟨spec_FirstOpen.ok k, e79⟩ (forall_nil))))⟩) (fun _ => rfl) (fun _ => rfl)
    ⟨Try.func25, by kernel_rfl, by kernel_rfl, by kernel_rfl, by kernel_rfl, by kernel_rfl, by kernel_rfl⟩ (forall_nil) (fun k x => spec_RegClose.hf k x.1 x.2.1 x.2.2.1 x.2.2.2.1) k
noncomputable def b137 : Code := Try.f137.body.getD .skip
theorem e137 : OM.Entry Try.prog 137 := ⟨_, Try.func137, by kernel_rfl, by kernel_rfl⟩
@[reducible] noncomputable def spec_l1Place.g : Sig := ⟨[.fz (.int .i64), .fz (.int .i64)], [.v (.int .i64) .z], []⟩
@[reducible] noncomputable def spec_l1Place.fk : Nat → denI spec_l1Place.g.pms → Option (denR (outTys spec_l1Place.g.rts spec_l1Place.g.pms)) := fun k x => spec_l1Place.f x.1 x.2.1
@[reducible] noncomputable def spec_l1Place.sm (k : Nat) : Sm := ⟨137, spec_l1Place.g.pms, spec_l1Place.g.rts, spec_l1Place.fk k⟩
noncomputable def spec_l1Place.E (k : Nat) : Env := ⟨tys, [], [], [], []⟩
noncomputable def spec_l1Place.pts : List (Pt (denR (outTys spec_l1Place.g.rts spec_l1Place.g.pms))) := []
theorem spec_l1Place.hf (k : Nat) (a0 : Int) (a1 : Int) : (spec_l1Place.f a0 a1 : Option (denR (outTys spec_l1Place.g.rts spec_l1Place.g.pms))) = evC (spec_l1Place.E k) (fun κ s => lhOf k κ s spec_l1Place.pts) b137 (OM.start spec_l1Place.g.pms 0 (a0, a1, ())) (OM.fin spec_l1Place.g Try.f137.results.toList) := by kernel_rfl
theorem spec_l1Place.ok (k : Nat) : SmOk Try.prog (spec_l1Place.sm k) :=
  sm_ok mixed (E := spec_l1Place.E) (pts := spec_l1Place.pts) (fun k => ⟨⟨tysOk, by kernel_rfl⟩, forall_nil⟩) (fun _ => rfl) (fun _ => rfl)
    ⟨Try.func137, by kernel_rfl, by kernel_rfl, by kernel_rfl, by kernel_rfl, by kernel_rfl, by kernel_rfl⟩ (forall_nil) (fun k x => spec_l1Place.hf k x.1 x.2.1) k
noncomputable def b159 : Code := Try.f159.body.getD .skip
theorem e159 : OM.Entry Try.prog 159 := ⟨_, Try.func159, by kernel_rfl, by kernel_rfl⟩
@[reducible] noncomputable def spec_RegTrim.g : Sig := ⟨[.fz tConfig, .fz tRegister, .fz (.int .i64)], [.v tRegister (.two (.own (.two (.own .z) .z)) .z), .v .bool .z], []⟩
@[reducible] noncomputable def spec_RegTrim.fk : Nat → denI spec_RegTrim.g.pms → Option (denR (outTys spec_RegTrim.g.rts spec_RegTrim.g.pms)) := fun k x => spec_RegTrim.f k x.1 x.2.1 x.2.2.1
@[reducible] noncomputable def spec_RegTrim.sm (k : Nat) : Sm := ⟨159, spec_RegTrim.g.pms, spec_RegTrim.g.rts, spec_RegTrim.fk k⟩
noncomputable def spec_RegTrim.E (k : Nat) : Env := ⟨tys, [spec_l1Max.sm k, spec_PlaceOk.sm k, spec_EpochOf.sm k, spec_RegOk.sm k, spec_l7Copy.sm k], [], [], []⟩
noncomputable def spec_RegTrim.pts : List (Pt (denR (outTys spec_RegTrim.g.rts spec_RegTrim.g.pms))) := []
theorem spec_RegTrim.hf (k : Nat) (a0 : Config) (a1 : Register) (a2 : Int) : (spec_RegTrim.f k a0 a1 a2 : Option (denR (outTys spec_RegTrim.g.rts spec_RegTrim.g.pms))) = evC (spec_RegTrim.E k) (fun κ s => lhOf k κ s spec_RegTrim.pts) b159 (OM.start spec_RegTrim.g.pms 0 (a0, a1, a2, ())) (OM.fin spec_RegTrim.g Try.f159.results.toList) := by kernel_rfl
theorem spec_RegTrim.ok (k : Nat) : SmOk Try.prog (spec_RegTrim.sm k) :=
  sm_ok mixed (E := spec_RegTrim.E) (pts := spec_RegTrim.pts) (fun k => ⟨⟨tysOk, by kernel_rfl⟩, forall_cons ⟨spec_l1Max.ok k, e161⟩ (forall_cons ⟨spec_PlaceOk.ok k, e93⟩ (forall_cons ⟨spec_EpochOf.ok k, e67⟩ (forall_cons ⟨spec_RegOk.ok k, e36⟩ (forall_cons ⟨spec_l7Copy.ok k, e78⟩ (forall_nil)))))⟩) (fun _ => rfl) (fun _ => rfl)
    ⟨Try.func159, by kernel_rfl, by kernel_rfl, by kernel_rfl, by kernel_rfl, by kernel_rfl, by kernel_rfl⟩ (forall_nil) (fun k x => spec_RegTrim.hf k x.1 x.2.1 x.2.2.1) k
noncomputable def b132 : Code := Try.f132.body.getD .skip
theorem e132 : OM.Entry Try.prog 132 := ⟨_, Try.func132, by kernel_rfl, by kernel_rfl⟩
@[reducible] noncomputable def spec_l7DrawRight.g : Sig := ⟨[.ptr tl1Cur .z .z, .fz tConfig], [.v tRegister (.two (.own (.two (.own .z) .z)) .z)], []⟩
@[reducible] noncomputable def spec_l7DrawRight.fk : Nat → denI spec_l7DrawRight.g.pms → Option (denR (outTys spec_l7DrawRight.g.rts spec_l7DrawRight.g.pms)) := fun k x => spec_l7DrawRight.f k x.1 x.2.1
@[reducible] noncomputable def spec_l7DrawRight.sm (k : Nat) : Sm := ⟨132, spec_l7DrawRight.g.pms, spec_l7DrawRight.g.rts, spec_l7DrawRight.fk k⟩
noncomputable def spec_l7DrawRight.E (k : Nat) : Env := ⟨tys, [spec_l1Below.sm k, spec_l7DrawSet.sm k, spec_RegOpen.sm k, spec_RegClose.sm k, spec_l1Place.sm k, spec_RegTrim.sm k], [58], [], []⟩
@[reducible] noncomputable def spec_l7DrawRight.s7 : List Slot := [.r 0 36001 [] tl1Cur, .r 12 13 [] tConfig, .r 16 17 [] tRegister, .r 20 21 [] tRegister, .v 24 (.int .i64) .z [] 0, .v 13 tConfig .z [] 0, .v 17 tRegister (.two (.own .a) .z) [] 0, .v 21 tRegister (.two (.own (.two (.own .z) .z)) .z) [] 0, .v 36001 tl1Cur .z [] 0]
noncomputable def spec_l7DrawRight.pts : List (Pt (denR (outTys spec_l7DrawRight.g.rts spec_l7DrawRight.g.pms))) := [⟨7, spec_l7DrawRight.s7, fun k x => spec_l7DrawRight.p7 k x.1 x.2.1 x.2.2.1 x.2.2.2.1 x.2.2.2.2.1⟩]
theorem spec_l7DrawRight.h7 (k : Nat) (x0 : Int) (x1 : Config) (x2 : Register) (x3 : Register) (x4 : l1Cur) : (spec_l7DrawRight.p7 (k + 1) x0 x1 x2 x3 x4 : Option (denR (outTys spec_l7DrawRight.g.rts spec_l7DrawRight.g.pms))) = evAt (spec_l7DrawRight.E k) (fun κ s => lhOf k κ s spec_l7DrawRight.pts) 7 b132 (unproj spec_l7DrawRight.s7 (x0, x1, x2, x3, x4, ())) (OM.fin spec_l7DrawRight.g Try.f132.results.toList) := by kernel_rfl
theorem spec_l7DrawRight.hf (k : Nat) (a0 : l1Cur) (a1 : Config) : (spec_l7DrawRight.f k a0 a1 : Option (denR (outTys spec_l7DrawRight.g.rts spec_l7DrawRight.g.pms))) = evC (spec_l7DrawRight.E k) (fun κ s => lhOf k κ s spec_l7DrawRight.pts) b132 (OM.start spec_l7DrawRight.g.pms 0 (a0, a1, ())) (OM.fin spec_l7DrawRight.g Try.f132.results.toList) := by kernel_rfl
theorem spec_l7DrawRight.ok (k : Nat) : SmOk Try.prog (spec_l7DrawRight.sm k) :=
  sm_ok mixed (E := spec_l7DrawRight.E) (pts := spec_l7DrawRight.pts) (fun k => ⟨⟨tysOk, by kernel_rfl⟩, forall_cons ⟨spec_l1Below.ok k, e71⟩ (forall_cons ⟨spec_l7DrawSet.ok k, e135⟩ (forall_cons ⟨spec_RegOpen.ok k, e158⟩ (forall_cons ⟨spec_RegClose.ok k, e25⟩ (forall_cons ⟨spec_l1Place.ok k, e137⟩ (forall_cons ⟨spec_RegTrim.ok k, e159⟩ (forall_nil))))))⟩) (fun _ => rfl) (fun _ => rfl)
    ⟨Try.func132, by kernel_rfl, by kernel_rfl, by kernel_rfl, by kernel_rfl, by kernel_rfl, by kernel_rfl⟩ (forall_cons (fun x => ⟨rfl, fun k => spec_l7DrawRight.h7 k x.1 x.2.1 x.2.2.1 x.2.2.2.1 x.2.2.2.2.1⟩) (forall_nil)) (fun k x => spec_l7DrawRight.hf k x.1 x.2.1) k
noncomputable def b133 : Code := Try.f133.body.getD .skip
theorem e133 : OM.Entry Try.prog 133 := ⟨_, Try.func133, by kernel_rfl, by kernel_rfl⟩
@[reducible] noncomputable def spec_l1DrawPlace.g : Sig := ⟨[.ptr tl1Cur .z .z], [.v (.int .i64) .z], []⟩
@[reducible] noncomputable def spec_l1DrawPlace.fk : Nat → denI spec_l1DrawPlace.g.pms → Option (denR (outTys spec_l1DrawPlace.g.rts spec_l1DrawPlace.g.pms)) := fun k x => spec_l1DrawPlace.f x.1
@[reducible] noncomputable def spec_l1DrawPlace.sm (k : Nat) : Sm := ⟨133, spec_l1DrawPlace.g.pms, spec_l1DrawPlace.g.rts, spec_l1DrawPlace.fk k⟩
noncomputable def spec_l1DrawPlace.E (k : Nat) : Env := ⟨tys, [spec_l1Below.sm k, spec_l1PickInt.sm k, spec_l1Place.sm k], [], [], []⟩
noncomputable def spec_l1DrawPlace.pts : List (Pt (denR (outTys spec_l1DrawPlace.g.rts spec_l1DrawPlace.g.pms))) := []
theorem spec_l1DrawPlace.hf (k : Nat) (a0 : l1Cur) : (spec_l1DrawPlace.f a0 : Option (denR (outTys spec_l1DrawPlace.g.rts spec_l1DrawPlace.g.pms))) = evC (spec_l1DrawPlace.E k) (fun κ s => lhOf k κ s spec_l1DrawPlace.pts) b133 (OM.start spec_l1DrawPlace.g.pms 0 (a0, ())) (OM.fin spec_l1DrawPlace.g Try.f133.results.toList) := by kernel_rfl
theorem spec_l1DrawPlace.ok (k : Nat) : SmOk Try.prog (spec_l1DrawPlace.sm k) :=
  sm_ok mixed (E := spec_l1DrawPlace.E) (pts := spec_l1DrawPlace.pts) (fun k => ⟨⟨tysOk, by kernel_rfl⟩, forall_cons ⟨spec_l1Below.ok k, e71⟩ (forall_cons ⟨spec_l1PickInt.ok k, e91⟩ (forall_cons ⟨spec_l1Place.ok k, e137⟩ (forall_nil)))⟩) (fun _ => rfl) (fun _ => rfl)
    ⟨Try.func133, by kernel_rfl, by kernel_rfl, by kernel_rfl, by kernel_rfl, by kernel_rfl, by kernel_rfl⟩ (forall_nil) (fun k x => spec_l1DrawPlace.hf k x.1) k
noncomputable def b90 : Code := Try.f90.body.getD .skip
theorem e90 : OM.Entry Try.prog 90 := ⟨_, Try.func90, by kernel_rfl, by kernel_rfl⟩
@[reducible] noncomputable def spec_l7Draw.g : Sig := ⟨[.ptr tl1Cur .z .z, .fz tConfig], [.v tRegister (.two (.own .z) .z)], []⟩
@[reducible] noncomputable def spec_l7Draw.fk : Nat → denI spec_l7Draw.g.pms → Option (denR (outTys spec_l7Draw.g.rts spec_l7Draw.g.pms)) := fun k x => spec_l7Draw.f k x.1 x.2.1
@[reducible] noncomputable def spec_l7Draw.sm (k : Nat) : Sm := ⟨90, spec_l7Draw.g.pms, spec_l7Draw.g.rts, spec_l7Draw.fk k⟩
noncomputable def spec_l7Draw.E (k : Nat) : Env := ⟨tys, [spec_l1Below.sm k, spec_l1PickInt.sm k, spec_l4DrawNodes.sm k, spec_l7DrawSet.sm k, spec_l7DrawRight.sm k, spec_l1DrawPlace.sm k], [], [], []⟩
@[reducible] noncomputable def spec_l7Draw.s35 : List Slot := [.r 0 36001 [] tl1Cur, .r 16 17 [] tRegister, .r 20 21 [] tRegister, .v 28 (.sl (.int .i64)) (.own .z) [] 0, .v 17 tRegister (.two (.own .a) .z) [] 0, .v 21 tRegister (.two (.own .z) .z) [28] 0, .v 36001 tl1Cur .z [] 0]
noncomputable def spec_l7Draw.pts : List (Pt (denR (outTys spec_l7Draw.g.rts spec_l7Draw.g.pms))) := [⟨35, spec_l7Draw.s35, fun k x => spec_l7Draw.p35 k x.1 x.2.1 x.2.2.1 x.2.2.2.1⟩]
theorem spec_l7Draw.h35 (k : Nat) (x0 : (List Int)) (x1 : Register) (x2 : Register) (x3 : l1Cur) : (spec_l7Draw.p35 (k + 1) x0 x1 x2 x3 : Option (denR (outTys spec_l7Draw.g.rts spec_l7Draw.g.pms))) = evAt (spec_l7Draw.E k) (fun κ s => lhOf k κ s spec_l7Draw.pts) 35 b90 (unproj spec_l7Draw.s35 (x0, x1, x2, x3, ())) (OM.fin spec_l7Draw.g Try.f90.results.toList) := by kernel_rfl
theorem spec_l7Draw.hf (k : Nat) (a0 : l1Cur) (a1 : Config) : (spec_l7Draw.f k a0 a1 : Option (denR (outTys spec_l7Draw.g.rts spec_l7Draw.g.pms))) = evC (spec_l7Draw.E k) (fun κ s => lhOf k κ s spec_l7Draw.pts) b90 (OM.start spec_l7Draw.g.pms 0 (a0, a1, ())) (OM.fin spec_l7Draw.g Try.f90.results.toList) := by kernel_rfl
theorem spec_l7Draw.ok (k : Nat) : SmOk Try.prog (spec_l7Draw.sm k) :=
  sm_ok mixed (E := spec_l7Draw.E) (pts := spec_l7Draw.pts) (fun k => ⟨⟨tysOk, by kernel_rfl⟩, forall_cons ⟨spec_l1Below.ok k, e71⟩ (forall_cons ⟨spec_l1PickInt.ok k, e91⟩ (forall_cons ⟨spec_l4DrawNodes.ok k, e134⟩ (forall_cons ⟨spec_l7DrawSet.ok k, e135⟩ (forall_cons ⟨spec_l7DrawRight.ok k, e132⟩ (forall_cons ⟨spec_l1DrawPlace.ok k, e133⟩ (forall_nil))))))⟩) (fun _ => rfl) (fun _ => rfl)
    ⟨Try.func90, by kernel_rfl, by kernel_rfl, by kernel_rfl, by kernel_rfl, by kernel_rfl, by kernel_rfl⟩ (forall_cons (fun x => ⟨rfl, fun k => spec_l7Draw.h35 k x.1 x.2.1 x.2.2.1 x.2.2.2.1⟩) (forall_nil)) (fun k x => spec_l7Draw.hf k x.1 x.2.1) k
noncomputable def b34 : Code := Try.f34.body.getD .skip
theorem e34 : OM.Entry Try.prog 34 := ⟨_, Try.func34, by kernel_rfl, by kernel_rfl⟩
@[reducible] noncomputable def spec_DrawRegClose.g : Sig := ⟨[.fz (.sl (.int .u8))], [.v tConfig .z, .v tRegister (.two (.own .z) .z), .v (.int .i64) .z, .v (.int .i64) .z], []⟩
@[reducible] noncomputable def spec_DrawRegClose.fk : Nat → denI spec_DrawRegClose.g.pms → Option (denR (outTys spec_DrawRegClose.g.rts spec_DrawRegClose.g.pms)) := fun k x => spec_DrawRegClose.f k x.1
@[reducible] noncomputable def spec_DrawRegClose.sm (k : Nat) : Sm := ⟨34, spec_DrawRegClose.g.pms, spec_DrawRegClose.g.rts, spec_DrawRegClose.fk k⟩
noncomputable def spec_DrawRegClose.E (k : Nat) : Env := ⟨tys, [spec_l1New.sm k, spec_l1Below.sm k, spec_l1Once.sm k, spec_l1PickInt.sm k, spec_l4Draw.sm k, spec_l7Draw.sm k], [], [7], []⟩
@[reducible] noncomputable def spec_DrawRegClose.s14 : List Slot := [.r 8 9 [] tConfig, .r 12 13 [] tRegister, .r 24 45 [] tl1Cur, .r 28 29 [] tConfig, .r 32 33 [] tRegister, .v 36 (.int .i64) .z [] 0, .v 9 tConfig (.two (.own .a) .z) [] 0, .v 13 tRegister (.two (.own .a) .z) [] 0, .v 29 tConfig (.two (.own .z) .z) [] 0, .v 33 tRegister (.two (.own .z) .z) [29] 0, .v 45 tl1Cur .z [29] 0]
noncomputable def spec_DrawRegClose.pts : List (Pt (denR (outTys spec_DrawRegClose.g.rts spec_DrawRegClose.g.pms))) := [⟨14, spec_DrawRegClose.s14, fun k x => spec_DrawRegClose.p14 k x.1 x.2.1 x.2.2.1 x.2.2.2.1 x.2.2.2.2.1 x.2.2.2.2.2.1⟩]
theorem spec_DrawRegClose.h14 (k : Nat) (x0 : Int) (x1 : Config) (x2 : Register) (x3 : Config) (x4 : Register) (x5 : l1Cur) : (spec_DrawRegClose.p14 (k + 1) x0 x1 x2 x3 x4 x5 : Option (denR (outTys spec_DrawRegClose.g.rts spec_DrawRegClose.g.pms))) = evAt (spec_DrawRegClose.E k) (fun κ s => lhOf k κ s spec_DrawRegClose.pts) 14 b34 (unproj spec_DrawRegClose.s14 (x0, x1, x2, x3, x4, x5, ())) (OM.fin spec_DrawRegClose.g Try.f34.results.toList) := by kernel_rfl
theorem spec_DrawRegClose.hf (k : Nat) (a0 : (List Int)) : (spec_DrawRegClose.f k a0 : Option (denR (outTys spec_DrawRegClose.g.rts spec_DrawRegClose.g.pms))) = evC (spec_DrawRegClose.E k) (fun κ s => lhOf k κ s spec_DrawRegClose.pts) b34 (OM.start spec_DrawRegClose.g.pms 0 (a0, ())) (OM.fin spec_DrawRegClose.g Try.f34.results.toList) := by kernel_rfl
theorem spec_DrawRegClose.ok (k : Nat) : SmOk Try.prog (spec_DrawRegClose.sm k) :=
  sm_ok mixed (E := spec_DrawRegClose.E) (pts := spec_DrawRegClose.pts) (fun k => ⟨⟨tysOk, by kernel_rfl⟩, forall_cons ⟨spec_l1New.ok k, e70⟩ (forall_cons ⟨spec_l1Below.ok k, e71⟩ (forall_cons ⟨spec_l1Once.ok k, e54⟩ (forall_cons ⟨spec_l1PickInt.ok k, e91⟩ (forall_cons ⟨spec_l4Draw.ok k, e89⟩ (forall_cons ⟨spec_l7Draw.ok k, e90⟩ (forall_nil))))))⟩) (fun _ => rfl) (fun _ => rfl)
    ⟨Try.func34, by kernel_rfl, by kernel_rfl, by kernel_rfl, by kernel_rfl, by kernel_rfl, by kernel_rfl⟩ (forall_cons (fun x => ⟨rfl, fun k => spec_DrawRegClose.h14 k x.1 x.2.1 x.2.2.1 x.2.2.2.1 x.2.2.2.2.1 x.2.2.2.2.2.1⟩) (forall_nil)) (fun k x => spec_DrawRegClose.hf k x.1) k
noncomputable def b59 : Code := Try.f59.body.getD .skip
theorem e59 : OM.Entry Try.prog 59 := ⟨_, Try.func59, by kernel_rfl, by kernel_rfl⟩
@[reducible] noncomputable def impl_within.g : Sig := ⟨[.fz (.int .i64), .fz (.int .i64), .fz (.int .i64)], [.v .bool .z], []⟩
@[reducible] noncomputable def impl_within.fk : Nat → denI impl_within.g.pms → Option (denR (outTys impl_within.g.rts impl_within.g.pms)) := fun k x => impl_within.f x.1 x.2.1 x.2.2.1
@[reducible] noncomputable def impl_within.sm (k : Nat) : Sm := ⟨59, impl_within.g.pms, impl_within.g.rts, impl_within.fk k⟩
noncomputable def impl_within.E (k : Nat) : Env := ⟨tys, [], [], [], []⟩
noncomputable def impl_within.pts : List (Pt (denR (outTys impl_within.g.rts impl_within.g.pms))) := []
theorem impl_within.hf (k : Nat) (a0 : Int) (a1 : Int) (a2 : Int) : (impl_within.f a0 a1 a2 : Option (denR (outTys impl_within.g.rts impl_within.g.pms))) = evC (impl_within.E k) (fun κ s => lhOf k κ s impl_within.pts) b59 (OM.start impl_within.g.pms 0 (a0, a1, a2, ())) (OM.fin impl_within.g Try.f59.results.toList) := by kernel_rfl
theorem impl_within.ok (k : Nat) : SmOk Try.prog (impl_within.sm k) :=
  sm_ok mixed (E := impl_within.E) (pts := impl_within.pts) (fun k => ⟨⟨tysOk, by kernel_rfl⟩, forall_nil⟩) (fun _ => rfl) (fun _ => rfl)
    ⟨Try.func59, by kernel_rfl, by kernel_rfl, by kernel_rfl, by kernel_rfl, by kernel_rfl, by kernel_rfl⟩ (forall_nil) (fun k x => impl_within.hf k x.1 x.2.1 x.2.2.1) k
noncomputable def b60 : Code := Try.f60.body.getD .skip
theorem e60 : OM.Entry Try.prog 60 := ⟨_, Try.func60, by kernel_rfl, by kernel_rfl⟩
@[reducible] noncomputable def impl_ConfigOk.g : Sig := ⟨[.fz tConfig], [.v .bool .z], []⟩
@[reducible] noncomputable def impl_ConfigOk.fk : Nat → denI impl_ConfigOk.g.pms → Option (denR (outTys impl_ConfigOk.g.rts impl_ConfigOk.g.pms)) := fun k x => impl_ConfigOk.f k x.1
@[reducible] noncomputable def impl_ConfigOk.sm (k : Nat) : Sm := ⟨60, impl_ConfigOk.g.pms, impl_ConfigOk.g.rts, impl_ConfigOk.fk k⟩
noncomputable def impl_ConfigOk.E (k : Nat) : Env := ⟨tys, [impl_within.sm k], [11], [], []⟩
@[reducible] noncomputable def impl_ConfigOk.s5 : List Slot := [.r 4 5 [] tConfig, .v 24 (.sl (.int .i64)) .z [] 0, .v 28 (.int .i64) .z [] 0, .v 32 (.int .i64) .z [] 0, .v 5 tConfig .z [] 0]
noncomputable def impl_ConfigOk.pts : List (Pt (denR (outTys impl_ConfigOk.g.rts impl_ConfigOk.g.pms))) := [⟨5, impl_ConfigOk.s5, fun k x => impl_ConfigOk.p5 k x.1 x.2.1 x.2.2.1 x.2.2.2.1⟩]
theorem impl_ConfigOk.h5 (k : Nat) (x0 : (List Int)) (x1 : Int) (x2 : Int) (x3 : Config) : (impl_ConfigOk.p5 (k + 1) x0 x1 x2 x3 : Option (denR (outTys impl_ConfigOk.g.rts impl_ConfigOk.g.pms))) = evAt (impl_ConfigOk.E k) (fun κ s => lhOf k κ s impl_ConfigOk.pts) 5 b60 (unproj impl_ConfigOk.s5 (x0, x1, x2, x3, ())) (OM.fin impl_ConfigOk.g Try.f60.results.toList) := by kernel_rfl
theorem impl_ConfigOk.hf (k : Nat) (a0 : Config) : (impl_ConfigOk.f k a0 : Option (denR (outTys impl_ConfigOk.g.rts impl_ConfigOk.g.pms))) = evC (impl_ConfigOk.E k) (fun κ s => lhOf k κ s impl_ConfigOk.pts) b60 (OM.start impl_ConfigOk.g.pms 0 (a0, ())) (OM.fin impl_ConfigOk.g Try.f60.results.toList) := by kernel_rfl
theorem impl_ConfigOk.ok (k : Nat) : SmOk Try.prog (impl_ConfigOk.sm k) :=
  sm_ok mixed (E := impl_ConfigOk.E) (pts := impl_ConfigOk.pts) (fun k => ⟨⟨tysOk, by kernel_rfl⟩, forall_cons ⟨impl_within.ok k, e59⟩ (forall_nil)⟩) (fun _ => rfl) (fun _ => rfl)
    ⟨Try.func60, by kernel_rfl, by kernel_rfl, by kernel_rfl, by kernel_rfl, by kernel_rfl, by kernel_rfl⟩ (forall_cons (fun x => ⟨rfl, fun k => impl_ConfigOk.h5 k x.1 x.2.1 x.2.2.1 x.2.2.2.1⟩) (forall_nil)) (fun k x => impl_ConfigOk.hf k x.1) k
noncomputable def b119 : Code := Try.f119.body.getD .skip
theorem e119 : OM.Entry Try.prog 119 := ⟨_, Try.func119, by kernel_rfl, by kernel_rfl⟩
@[reducible] noncomputable def impl_ascends.g : Sig := ⟨[.fz (.sl (.int .i64)), .fz (.int .i64)], [.v .bool .z], []⟩
@[reducible] noncomputable def impl_ascends.fk : Nat → denI impl_ascends.g.pms → Option (denR (outTys impl_ascends.g.rts impl_ascends.g.pms)) := fun k x => impl_ascends.f k x.1 x.2.1
@[reducible] noncomputable def impl_ascends.sm (k : Nat) : Sm := ⟨119, impl_ascends.g.pms, impl_ascends.g.rts, impl_ascends.fk k⟩
noncomputable def impl_ascends.E (k : Nat) : Env := ⟨tys, [impl_within.sm k], [13], [], []⟩
@[reducible] noncomputable def impl_ascends.s5 : List Slot := [.v 0 (.sl (.int .i64)) .z [] 0, .v 4 (.int .i64) .z [] 0, .v 28 (.sl (.int .i64)) .z [] 0, .v 32 (.int .i64) .z [] 0, .v 36 (.int .i64) .z [] 0]
noncomputable def impl_ascends.pts : List (Pt (denR (outTys impl_ascends.g.rts impl_ascends.g.pms))) := [⟨5, impl_ascends.s5, fun k x => impl_ascends.p5 k x.1 x.2.1 x.2.2.1 x.2.2.2.1 x.2.2.2.2.1⟩]
theorem impl_ascends.h5 (k : Nat) (x0 : (List Int)) (x1 : Int) (x2 : (List Int)) (x3 : Int) (x4 : Int) : (impl_ascends.p5 (k + 1) x0 x1 x2 x3 x4 : Option (denR (outTys impl_ascends.g.rts impl_ascends.g.pms))) = evAt (impl_ascends.E k) (fun κ s => lhOf k κ s impl_ascends.pts) 5 b119 (unproj impl_ascends.s5 (x0, x1, x2, x3, x4, ())) (OM.fin impl_ascends.g Try.f119.results.toList) := by kernel_rfl
theorem impl_ascends.hf (k : Nat) (a0 : (List Int)) (a1 : Int) : (impl_ascends.f k a0 a1 : Option (denR (outTys impl_ascends.g.rts impl_ascends.g.pms))) = evC (impl_ascends.E k) (fun κ s => lhOf k κ s impl_ascends.pts) b119 (OM.start impl_ascends.g.pms 0 (a0, a1, ())) (OM.fin impl_ascends.g Try.f119.results.toList) := by kernel_rfl
theorem impl_ascends.ok (k : Nat) : SmOk Try.prog (impl_ascends.sm k) :=
  sm_ok mixed (E := impl_ascends.E) (pts := impl_ascends.pts) (fun k => ⟨⟨tysOk, by kernel_rfl⟩, forall_cons ⟨impl_within.ok k, e59⟩ (forall_nil)⟩) (fun _ => rfl) (fun _ => rfl)
    ⟨Try.func119, by kernel_rfl, by kernel_rfl, by kernel_rfl, by kernel_rfl, by kernel_rfl, by kernel_rfl⟩ (forall_cons (fun x => ⟨rfl, fun k => impl_ascends.h5 k x.1 x.2.1 x.2.2.1 x.2.2.2.1 x.2.2.2.2.1⟩) (forall_nil)) (fun k x => impl_ascends.hf k x.1 x.2.1) k
noncomputable def b56 : Code := Try.f56.body.getD .skip
theorem e56 : OM.Entry Try.prog 56 := ⟨_, Try.func56, by kernel_rfl, by kernel_rfl⟩
@[reducible] noncomputable def impl_NodesOk.g : Sig := ⟨[.fz tConfig, .fz (.sl (.int .i64))], [.v .bool .z], []⟩
@[reducible] noncomputable def impl_NodesOk.fk : Nat → denI impl_NodesOk.g.pms → Option (denR (outTys impl_NodesOk.g.rts impl_NodesOk.g.pms)) := fun k x => impl_NodesOk.f k x.1 x.2.1
@[reducible] noncomputable def impl_NodesOk.sm (k : Nat) : Sm := ⟨56, impl_NodesOk.g.pms, impl_NodesOk.g.rts, impl_NodesOk.fk k⟩
noncomputable def impl_NodesOk.E (k : Nat) : Env := ⟨tys, [impl_ConfigOk.sm k, impl_ascends.sm k], [], [], []⟩
noncomputable def impl_NodesOk.pts : List (Pt (denR (outTys impl_NodesOk.g.rts impl_NodesOk.g.pms))) := []
theorem impl_NodesOk.hf (k : Nat) (a0 : Config) (a1 : (List Int)) : (impl_NodesOk.f k a0 a1 : Option (denR (outTys impl_NodesOk.g.rts impl_NodesOk.g.pms))) = evC (impl_NodesOk.E k) (fun κ s => lhOf k κ s impl_NodesOk.pts) b56 (OM.start impl_NodesOk.g.pms 0 (a0, a1, ())) (OM.fin impl_NodesOk.g Try.f56.results.toList) := by kernel_rfl
theorem impl_NodesOk.ok (k : Nat) : SmOk Try.prog (impl_NodesOk.sm k) :=
  sm_ok mixed (E := impl_NodesOk.E) (pts := impl_NodesOk.pts) (fun k => ⟨⟨tysOk, by kernel_rfl⟩, forall_cons ⟨impl_ConfigOk.ok k, e60⟩ (forall_cons ⟨impl_ascends.ok k, e119⟩ (forall_nil))⟩) (fun _ => rfl) (fun _ => rfl)
    ⟨Try.func56, by kernel_rfl, by kernel_rfl, by kernel_rfl, by kernel_rfl, by kernel_rfl, by kernel_rfl⟩ (forall_nil) (fun k x => impl_NodesOk.hf k x.1 x.2.1) k
noncomputable def b157 : Code := Try.f157.body.getD .skip
theorem e157 : OM.Entry Try.prog 157 := ⟨_, Try.func157, by kernel_rfl, by kernel_rfl⟩
@[reducible] noncomputable def slices_Index_int_int.g : Sig := ⟨[.fz (.sl (.int .i64)), .fz (.int .i64)], [.v (.int .i64) .z], []⟩
@[reducible] noncomputable def slices_Index_int_int.fk : Nat → denI slices_Index_int_int.g.pms → Option (denR (outTys slices_Index_int_int.g.rts slices_Index_int_int.g.pms)) := fun k x => slices_Index_int_int.f k x.1 x.2.1
@[reducible] noncomputable def slices_Index_int_int.sm (k : Nat) : Sm := ⟨157, slices_Index_int_int.g.pms, slices_Index_int_int.g.rts, slices_Index_int_int.fk k⟩
noncomputable def slices_Index_int_int.E (k : Nat) : Env := ⟨tys, [], [], [], []⟩
@[reducible] noncomputable def slices_Index_int_int.s5 : List Slot := [.v 0 (.sl (.int .i64)) .z [] 0, .v 4 (.int .i64) .z [] 0, .v 28 (.int .i64) .z [] 0, .v 32 (.int .i64) .z [] 0]
noncomputable def slices_Index_int_int.pts : List (Pt (denR (outTys slices_Index_int_int.g.rts slices_Index_int_int.g.pms))) := [⟨5, slices_Index_int_int.s5, fun k x => slices_Index_int_int.p5 k x.1 x.2.1 x.2.2.1 x.2.2.2.1⟩]
theorem slices_Index_int_int.h5 (k : Nat) (x0 : (List Int)) (x1 : Int) (x2 : Int) (x3 : Int) : (slices_Index_int_int.p5 (k + 1) x0 x1 x2 x3 : Option (denR (outTys slices_Index_int_int.g.rts slices_Index_int_int.g.pms))) = evAt (slices_Index_int_int.E k) (fun κ s => lhOf k κ s slices_Index_int_int.pts) 5 b157 (unproj slices_Index_int_int.s5 (x0, x1, x2, x3, ())) (OM.fin slices_Index_int_int.g Try.f157.results.toList) := by kernel_rfl
theorem slices_Index_int_int.hf (k : Nat) (a0 : (List Int)) (a1 : Int) : (slices_Index_int_int.f k a0 a1 : Option (denR (outTys slices_Index_int_int.g.rts slices_Index_int_int.g.pms))) = evC (slices_Index_int_int.E k) (fun κ s => lhOf k κ s slices_Index_int_int.pts) b157 (OM.start slices_Index_int_int.g.pms 0 (a0, a1, ())) (OM.fin slices_Index_int_int.g Try.f157.results.toList) := by kernel_rfl
theorem slices_Index_int_int.ok (k : Nat) : SmOk Try.prog (slices_Index_int_int.sm k) :=
  sm_ok mixed (E := slices_Index_int_int.E) (pts := slices_Index_int_int.pts) (fun k => ⟨⟨tysOk, by kernel_rfl⟩, forall_nil⟩) (fun _ => rfl) (fun _ => rfl)
    ⟨Try.func157, by kernel_rfl, by kernel_rfl, by kernel_rfl, by kernel_rfl, by kernel_rfl, by kernel_rfl⟩ (forall_cons (fun x => ⟨rfl, fun k => slices_Index_int_int.h5 k x.1 x.2.1 x.2.2.1 x.2.2.2.1⟩) (forall_nil)) (fun k x => slices_Index_int_int.hf k x.1 x.2.1) k
noncomputable def b124 : Code := Try.f124.body.getD .skip
theorem e124 : OM.Entry Try.prog 124 := ⟨_, Try.func124, by kernel_rfl, by kernel_rfl⟩
@[reducible] noncomputable def slices_Contains_int_int.g : Sig := ⟨[.fz (.sl (.int .i64)), .fz (.int .i64)], [.v .bool .z], []⟩
@[reducible] noncomputable def slices_Contains_int_int.fk : Nat → denI slices_Contains_int_int.g.pms → Option (denR (outTys slices_Contains_int_int.g.rts slices_Contains_int_int.g.pms)) := fun k x => slices_Contains_int_int.f k x.1 x.2.1
@[reducible] noncomputable def slices_Contains_int_int.sm (k : Nat) : Sm := ⟨124, slices_Contains_int_int.g.pms, slices_Contains_int_int.g.rts, slices_Contains_int_int.fk k⟩
noncomputable def slices_Contains_int_int.E (k : Nat) : Env := ⟨tys, [slices_Index_int_int.sm k], [], [], []⟩
noncomputable def slices_Contains_int_int.pts : List (Pt (denR (outTys slices_Contains_int_int.g.rts slices_Contains_int_int.g.pms))) := []
theorem slices_Contains_int_int.hf (k : Nat) (a0 : (List Int)) (a1 : Int) : (slices_Contains_int_int.f k a0 a1 : Option (denR (outTys slices_Contains_int_int.g.rts slices_Contains_int_int.g.pms))) = evC (slices_Contains_int_int.E k) (fun κ s => lhOf k κ s slices_Contains_int_int.pts) b124 (OM.start slices_Contains_int_int.g.pms 0 (a0, a1, ())) (OM.fin slices_Contains_int_int.g Try.f124.results.toList) := by kernel_rfl
theorem slices_Contains_int_int.ok (k : Nat) : SmOk Try.prog (slices_Contains_int_int.sm k) :=
  sm_ok mixed (E := slices_Contains_int_int.E) (pts := slices_Contains_int_int.pts) (fun k => ⟨⟨tysOk, by kernel_rfl⟩, forall_cons ⟨slices_Index_int_int.ok k, e157⟩ (forall_nil)⟩) (fun _ => rfl) (fun _ => rfl)
    ⟨Try.func124, by kernel_rfl, by kernel_rfl, by kernel_rfl, by kernel_rfl, by kernel_rfl, by kernel_rfl⟩ (forall_nil) (fun k x => slices_Contains_int_int.hf k x.1 x.2.1) k
noncomputable def b69 : Code := Try.f69.body.getD .skip
theorem e69 : OM.Entry Try.prog 69 := ⟨_, Try.func69, by kernel_rfl, by kernel_rfl⟩
@[reducible] noncomputable def impl_SpanOf.g : Sig := ⟨[.fz tConfig, .fz (.sl (.int .i64))], [.v (.int .i64) .z], []⟩
@[reducible] noncomputable def impl_SpanOf.fk : Nat → denI impl_SpanOf.g.pms → Option (denR (outTys impl_SpanOf.g.rts impl_SpanOf.g.pms)) := fun k x => impl_SpanOf.f k x.1 x.2.1
@[reducible] noncomputable def impl_SpanOf.sm (k : Nat) : Sm := ⟨69, impl_SpanOf.g.pms, impl_SpanOf.g.rts, impl_SpanOf.fk k⟩
noncomputable def impl_SpanOf.E (k : Nat) : Env := ⟨tys, [impl_NodesOk.sm k, slices_Contains_int_int.sm k], [18, 32], [], []⟩
@[reducible] noncomputable def impl_SpanOf.s11 : List Slot := [.r 8 9 [] tConfig, .v 20 (.sl (.int .i64)) (.own .z) [] 0, .v 52 (.sl (.int .i64)) .z [] 0, .v 56 (.int .i64) .z [] 0, .v 60 (.int .i64) .z [] 0, .v 9 tConfig .z [] 0]
noncomputable def impl_SpanOf.pts : List (Pt (denR (outTys impl_SpanOf.g.rts impl_SpanOf.g.pms))) := [⟨11, impl_SpanOf.s11, fun k x => impl_SpanOf.p11 k x.1 x.2.1 x.2.2.1 x.2.2.2.1 x.2.2.2.2.1⟩]
theorem impl_SpanOf.h11 (k : Nat) (x0 : (List Int)) (x1 : (List Int)) (x2 : Int) (x3 : Int) (x4 : Config) : (impl_SpanOf.p11 (k + 1) x0 x1 x2 x3 x4 : Option (denR (outTys impl_SpanOf.g.rts impl_SpanOf.g.pms))) = evAt (impl_SpanOf.E k) (fun κ s => lhOf k κ s impl_SpanOf.pts) 11 b69 (unproj impl_SpanOf.s11 (x0, x1, x2, x3, x4, ())) (OM.fin impl_SpanOf.g Try.f69.results.toList) := by kernel_rfl
theorem impl_SpanOf.hf (k : Nat) (a0 : Config) (a1 : (List Int)) : (impl_SpanOf.f k a0 a1 : Option (denR (outTys impl_SpanOf.g.rts impl_SpanOf.g.pms))) = evC (impl_SpanOf.E k) (fun κ s => lhOf k κ s impl_SpanOf.pts) b69 (OM.start impl_SpanOf.g.pms 0 (a0, a1, ())) (OM.fin impl_SpanOf.g Try.f69.results.toList) := by kernel_rfl
theorem impl_SpanOf.ok (k : Nat) : SmOk Try.prog (impl_SpanOf.sm k) :=
  sm_ok mixed (E := impl_SpanOf.E) (pts := impl_SpanOf.pts) (fun k => ⟨⟨tysOk, by kernel_rfl⟩, forall_cons ⟨impl_NodesOk.ok k, e56⟩ (forall_cons ⟨slices_Contains_int_int.ok k, e124⟩ (forall_nil))⟩) (fun _ => rfl) (fun _ => rfl)
    ⟨Try.func69, by kernel_rfl, by kernel_rfl, by kernel_rfl, by kernel_rfl, by kernel_rfl, by kernel_rfl⟩ (forall_cons (fun x => ⟨rfl, fun k => impl_SpanOf.h11 k x.1 x.2.1 x.2.2.1 x.2.2.2.1 x.2.2.2.2.1⟩) (forall_nil)) (fun k x => impl_SpanOf.hf k x.1 x.2.1) k
noncomputable def b15 : Code := Try.f15.body.getD .skip
theorem e15 : OM.Entry Try.prog 15 := ⟨_, Try.func15, by kernel_rfl, by kernel_rfl⟩
@[reducible] noncomputable def impl_Holds.g : Sig := ⟨[.fz tConfig, .fz (.sl (.int .i64))], [.v .bool .z], []⟩
@[reducible] noncomputable def impl_Holds.fk : Nat → denI impl_Holds.g.pms → Option (denR (outTys impl_Holds.g.rts impl_Holds.g.pms)) := fun k x => impl_Holds.f k x.1 x.2.1
@[reducible] noncomputable def impl_Holds.sm (k : Nat) : Sm := ⟨15, impl_Holds.g.pms, impl_Holds.g.rts, impl_Holds.fk k⟩
noncomputable def impl_Holds.E (k : Nat) : Env := ⟨tys, [impl_NodesOk.sm k, impl_SpanOf.sm k], [], [], []⟩
noncomputable def impl_Holds.pts : List (Pt (denR (outTys impl_Holds.g.rts impl_Holds.g.pms))) := []
theorem impl_Holds.hf (k : Nat) (a0 : Config) (a1 : (List Int)) : (impl_Holds.f k a0 a1 : Option (denR (outTys impl_Holds.g.rts impl_Holds.g.pms))) = evC (impl_Holds.E k) (fun κ s => lhOf k κ s impl_Holds.pts) b15 (OM.start impl_Holds.g.pms 0 (a0, a1, ())) (OM.fin impl_Holds.g Try.f15.results.toList) := by kernel_rfl
theorem impl_Holds.ok (k : Nat) : SmOk Try.prog (impl_Holds.sm k) :=
  sm_ok mixed (E := impl_Holds.E) (pts := impl_Holds.pts) (fun k => ⟨⟨tysOk, by kernel_rfl⟩, forall_cons ⟨impl_NodesOk.ok k, e56⟩ (forall_cons ⟨impl_SpanOf.ok k, e69⟩ (forall_nil))⟩) (fun _ => rfl) (fun _ => rfl)
    ⟨Try.func15, by kernel_rfl, by kernel_rfl, by kernel_rfl, by kernel_rfl, by kernel_rfl, by kernel_rfl⟩ (forall_nil) (fun k x => impl_Holds.hf k x.1 x.2.1) k
noncomputable def b92 : Code := Try.f92.body.getD .skip
theorem e92 : OM.Entry Try.prog 92 := ⟨_, Try.func92, by kernel_rfl, by kernel_rfl⟩
@[reducible] noncomputable def impl_eraOk.g : Sig := ⟨[.fz tConfig, .fz tEra], [.v .bool .z], []⟩
@[reducible] noncomputable def impl_eraOk.fk : Nat → denI impl_eraOk.g.pms → Option (denR (outTys impl_eraOk.g.rts impl_eraOk.g.pms)) := fun k x => impl_eraOk.f k x.1 x.2.1
@[reducible] noncomputable def impl_eraOk.sm (k : Nat) : Sm := ⟨92, impl_eraOk.g.pms, impl_eraOk.g.rts, impl_eraOk.fk k⟩
noncomputable def impl_eraOk.E (k : Nat) : Env := ⟨tys, [impl_within.sm k, impl_Holds.sm k], [], [], []⟩
noncomputable def impl_eraOk.pts : List (Pt (denR (outTys impl_eraOk.g.rts impl_eraOk.g.pms))) := []
theorem impl_eraOk.hf (k : Nat) (a0 : Config) (a1 : Era) : (impl_eraOk.f k a0 a1 : Option (denR (outTys impl_eraOk.g.rts impl_eraOk.g.pms))) = evC (impl_eraOk.E k) (fun κ s => lhOf k κ s impl_eraOk.pts) b92 (OM.start impl_eraOk.g.pms 0 (a0, a1, ())) (OM.fin impl_eraOk.g Try.f92.results.toList) := by kernel_rfl
theorem impl_eraOk.ok (k : Nat) : SmOk Try.prog (impl_eraOk.sm k) :=
  sm_ok mixed (E := impl_eraOk.E) (pts := impl_eraOk.pts) (fun k => ⟨⟨tysOk, by kernel_rfl⟩, forall_cons ⟨impl_within.ok k, e59⟩ (forall_cons ⟨impl_Holds.ok k, e15⟩ (forall_nil))⟩) (fun _ => rfl) (fun _ => rfl)
    ⟨Try.func92, by kernel_rfl, by kernel_rfl, by kernel_rfl, by kernel_rfl, by kernel_rfl, by kernel_rfl⟩ (forall_nil) (fun k x => impl_eraOk.hf k x.1 x.2.1) k
noncomputable def b58 : Code := Try.f58.body.getD .skip
theorem e58 : OM.Entry Try.prog 58 := ⟨_, Try.func58, by kernel_rfl, by kernel_rfl⟩
@[reducible] noncomputable def impl_isEpoch.g : Sig := ⟨[.fz (.int .i64)], [.v .bool .z], []⟩
@[reducible] noncomputable def impl_isEpoch.fk : Nat → denI impl_isEpoch.g.pms → Option (denR (outTys impl_isEpoch.g.rts impl_isEpoch.g.pms)) := fun k x => impl_isEpoch.f x.1
@[reducible] noncomputable def impl_isEpoch.sm (k : Nat) : Sm := ⟨58, impl_isEpoch.g.pms, impl_isEpoch.g.rts, impl_isEpoch.fk k⟩
noncomputable def impl_isEpoch.E (k : Nat) : Env := ⟨tys, [impl_within.sm k], [], [], []⟩
noncomputable def impl_isEpoch.pts : List (Pt (denR (outTys impl_isEpoch.g.rts impl_isEpoch.g.pms))) := []
theorem impl_isEpoch.hf (k : Nat) (a0 : Int) : (impl_isEpoch.f a0 : Option (denR (outTys impl_isEpoch.g.rts impl_isEpoch.g.pms))) = evC (impl_isEpoch.E k) (fun κ s => lhOf k κ s impl_isEpoch.pts) b58 (OM.start impl_isEpoch.g.pms 0 (a0, ())) (OM.fin impl_isEpoch.g Try.f58.results.toList) := by kernel_rfl
theorem impl_isEpoch.ok (k : Nat) : SmOk Try.prog (impl_isEpoch.sm k) :=
  sm_ok mixed (E := impl_isEpoch.E) (pts := impl_isEpoch.pts) (fun k => ⟨⟨tysOk, by kernel_rfl⟩, forall_cons ⟨impl_within.ok k, e59⟩ (forall_nil)⟩) (fun _ => rfl) (fun _ => rfl)
    ⟨Try.func58, by kernel_rfl, by kernel_rfl, by kernel_rfl, by kernel_rfl, by kernel_rfl, by kernel_rfl⟩ (forall_nil) (fun k x => impl_isEpoch.hf k x.1) k
noncomputable def b126 : Code := Try.f126.body.getD .skip
theorem e126 : OM.Entry Try.prog 126 := ⟨_, Try.func126, by kernel_rfl, by kernel_rfl⟩
@[reducible] noncomputable def impl_isOff.g : Sig := ⟨[.fz (.int .i64)], [.v .bool .z], []⟩
@[reducible] noncomputable def impl_isOff.fk : Nat → denI impl_isOff.g.pms → Option (denR (outTys impl_isOff.g.rts impl_isOff.g.pms)) := fun k x => impl_isOff.f x.1
@[reducible] noncomputable def impl_isOff.sm (k : Nat) : Sm := ⟨126, impl_isOff.g.pms, impl_isOff.g.rts, impl_isOff.fk k⟩
noncomputable def impl_isOff.E (k : Nat) : Env := ⟨tys, [impl_within.sm k], [], [], []⟩
noncomputable def impl_isOff.pts : List (Pt (denR (outTys impl_isOff.g.rts impl_isOff.g.pms))) := []
theorem impl_isOff.hf (k : Nat) (a0 : Int) : (impl_isOff.f a0 : Option (denR (outTys impl_isOff.g.rts impl_isOff.g.pms))) = evC (impl_isOff.E k) (fun κ s => lhOf k κ s impl_isOff.pts) b126 (OM.start impl_isOff.g.pms 0 (a0, ())) (OM.fin impl_isOff.g Try.f126.results.toList) := by kernel_rfl
theorem impl_isOff.ok (k : Nat) : SmOk Try.prog (impl_isOff.sm k) :=
  sm_ok mixed (E := impl_isOff.E) (pts := impl_isOff.pts) (fun k => ⟨⟨tysOk, by kernel_rfl⟩, forall_cons ⟨impl_within.ok k, e59⟩ (forall_nil)⟩) (fun _ => rfl) (fun _ => rfl)
    ⟨Try.func126, by kernel_rfl, by kernel_rfl, by kernel_rfl, by kernel_rfl, by kernel_rfl, by kernel_rfl⟩ (forall_nil) (fun k x => impl_isOff.hf k x.1) k
noncomputable def b75 : Code := Try.f75.body.getD .skip
theorem e75 : OM.Entry Try.prog 75 := ⟨_, Try.func75, by kernel_rfl, by kernel_rfl⟩
@[reducible] noncomputable def impl_PlaceOk.g : Sig := ⟨[.fz (.int .i64)], [.v .bool .z], []⟩
@[reducible] noncomputable def impl_PlaceOk.fk : Nat → denI impl_PlaceOk.g.pms → Option (denR (outTys impl_PlaceOk.g.rts impl_PlaceOk.g.pms)) := fun k x => impl_PlaceOk.f x.1
@[reducible] noncomputable def impl_PlaceOk.sm (k : Nat) : Sm := ⟨75, impl_PlaceOk.g.pms, impl_PlaceOk.g.rts, impl_PlaceOk.fk k⟩
noncomputable def impl_PlaceOk.E (k : Nat) : Env := ⟨tys, [impl_isEpoch.sm k, impl_isOff.sm k], [], [], []⟩
noncomputable def impl_PlaceOk.pts : List (Pt (denR (outTys impl_PlaceOk.g.rts impl_PlaceOk.g.pms))) := []
theorem impl_PlaceOk.hf (k : Nat) (a0 : Int) : (impl_PlaceOk.f a0 : Option (denR (outTys impl_PlaceOk.g.rts impl_PlaceOk.g.pms))) = evC (impl_PlaceOk.E k) (fun κ s => lhOf k κ s impl_PlaceOk.pts) b75 (OM.start impl_PlaceOk.g.pms 0 (a0, ())) (OM.fin impl_PlaceOk.g Try.f75.results.toList) := by kernel_rfl
theorem impl_PlaceOk.ok (k : Nat) : SmOk Try.prog (impl_PlaceOk.sm k) :=
  sm_ok mixed (E := impl_PlaceOk.E) (pts := impl_PlaceOk.pts) (fun k => ⟨⟨tysOk, by kernel_rfl⟩, forall_cons ⟨impl_isEpoch.ok k, e58⟩ (forall_cons ⟨impl_isOff.ok k, e126⟩ (forall_nil))⟩) (fun _ => rfl) (fun _ => rfl)
    ⟨Try.func75, by kernel_rfl, by kernel_rfl, by kernel_rfl, by kernel_rfl, by kernel_rfl, by kernel_rfl⟩ (forall_nil) (fun k x => impl_PlaceOk.hf k x.1) k
noncomputable def b21 : Code := Try.f21.body.getD .skip
theorem e21 : OM.Entry Try.prog 21 := ⟨_, Try.func21, by kernel_rfl, by kernel_rfl⟩
@[reducible] noncomputable def impl_EpochOf.g : Sig := ⟨[.fz (.int .i64)], [.v (.int .i64) .z], []⟩
@[reducible] noncomputable def impl_EpochOf.fk : Nat → denI impl_EpochOf.g.pms → Option (denR (outTys impl_EpochOf.g.rts impl_EpochOf.g.pms)) := fun k x => impl_EpochOf.f x.1
@[reducible] noncomputable def impl_EpochOf.sm (k : Nat) : Sm := ⟨21, impl_EpochOf.g.pms, impl_EpochOf.g.rts, impl_EpochOf.fk k⟩
noncomputable def impl_EpochOf.E (k : Nat) : Env := ⟨tys, [impl_PlaceOk.sm k], [], [], []⟩
noncomputable def impl_EpochOf.pts : List (Pt (denR (outTys impl_EpochOf.g.rts impl_EpochOf.g.pms))) := []
theorem impl_EpochOf.hf (k : Nat) (a0 : Int) : (impl_EpochOf.f a0 : Option (denR (outTys impl_EpochOf.g.rts impl_EpochOf.g.pms))) = evC (impl_EpochOf.E k) (fun κ s => lhOf k κ s impl_EpochOf.pts) b21 (OM.start impl_EpochOf.g.pms 0 (a0, ())) (OM.fin impl_EpochOf.g Try.f21.results.toList) := by kernel_rfl
theorem impl_EpochOf.ok (k : Nat) : SmOk Try.prog (impl_EpochOf.sm k) :=
  sm_ok mixed (E := impl_EpochOf.E) (pts := impl_EpochOf.pts) (fun k => ⟨⟨tysOk, by kernel_rfl⟩, forall_cons ⟨impl_PlaceOk.ok k, e75⟩ (forall_nil)⟩) (fun _ => rfl) (fun _ => rfl)
    ⟨Try.func21, by kernel_rfl, by kernel_rfl, by kernel_rfl, by kernel_rfl, by kernel_rfl, by kernel_rfl⟩ (forall_nil) (fun k x => impl_EpochOf.hf k x.1) k
noncomputable def b35 : Code := Try.f35.body.getD .skip
theorem e35 : OM.Entry Try.prog 35 := ⟨_, Try.func35, by kernel_rfl, by kernel_rfl⟩
@[reducible] noncomputable def impl_RegOk.g : Sig := ⟨[.fz tConfig, .fz tRegister], [.v .bool .z], []⟩
@[reducible] noncomputable def impl_RegOk.fk : Nat → denI impl_RegOk.g.pms → Option (denR (outTys impl_RegOk.g.rts impl_RegOk.g.pms)) := fun k x => impl_RegOk.f k x.1 x.2.1
@[reducible] noncomputable def impl_RegOk.sm (k : Nat) : Sm := ⟨35, impl_RegOk.g.pms, impl_RegOk.g.rts, impl_RegOk.fk k⟩
noncomputable def impl_RegOk.E (k : Nat) : Env := ⟨tys, [impl_within.sm k, impl_ConfigOk.sm k, impl_eraOk.sm k, impl_EpochOf.sm k], [15], [8], []⟩
@[reducible] noncomputable def impl_RegOk.s5 : List Slot := [.r 8 9 [] tConfig, .r 12 13 [] tRegister, .v 36 (.sl tEra) .z [] 0, .v 40 (.int .i64) .z [] 0, .v 44 (.int .i64) .z [] 0, .v 9 tConfig .z [] 0, .v 13 tRegister .z [] 0]
@[reducible] noncomputable def impl_RegOk.s16 : List Slot := [.r 8 9 [] tConfig, .r 12 13 [] tRegister, .v 28 .bool .z [] 0, .v 9 tConfig .z [] 0, .v 13 tRegister .z [] 0]
noncomputable def impl_RegOk.pts : List (Pt (denR (outTys impl_RegOk.g.rts impl_RegOk.g.pms))) := [⟨5, impl_RegOk.s5, fun k x => impl_RegOk.p5 k x.1 x.2.1 x.2.2.1 x.2.2.2.1 x.2.2.2.2.1⟩, ⟨16, impl_RegOk.s16, fun k x => impl_RegOk.p16 k x.1 x.2.1 x.2.2.1⟩]
theorem impl_RegOk.h5 (k : Nat) (x0 : (List Era)) (x1 : Int) (x2 : Int) (x3 : Config) (x4 : Register) : (impl_RegOk.p5 (k + 1) x0 x1 x2 x3 x4 : Option (denR (outTys impl_RegOk.g.rts impl_RegOk.g.pms))) = evAt (impl_RegOk.E k) (fun κ s => lhOf k κ s impl_RegOk.pts) 5 b35 (unproj impl_RegOk.s5 (x0, x1, x2, x3, x4, ())) (OM.fin impl_RegOk.g Try.f35.results.toList) := by kernel_rfl
theorem impl_RegOk.h16 (k : Nat) (x0 : Bool) (x1 : Config) (x2 : Register) : (impl_RegOk.p16 (k + 1) x0 x1 x2 : Option (denR (outTys impl_RegOk.g.rts impl_RegOk.g.pms))) = evAt (impl_RegOk.E k) (fun κ s => lhOf k κ s impl_RegOk.pts) 16 b35 (unproj impl_RegOk.s16 (x0, x1, x2, ())) (OM.fin impl_RegOk.g Try.f35.results.toList) := by kernel_rfl
theorem impl_RegOk.hf (k : Nat) (a0 : Config) (a1 : Register) : (impl_RegOk.f k a0 a1 : Option (denR (outTys impl_RegOk.g.rts impl_RegOk.g.pms))) = evC (impl_RegOk.E k) (fun κ s => lhOf k κ s impl_RegOk.pts) b35 (OM.start impl_RegOk.g.pms 0 (a0, a1, ())) (OM.fin impl_RegOk.g Try.f35.results.toList) := by kernel_rfl
theorem impl_RegOk.ok (k : Nat) : SmOk Try.prog (impl_RegOk.sm k) :=
  sm_ok mixed (E := impl_RegOk.E) (pts := impl_RegOk.pts) (fun k => ⟨⟨tysOk, by kernel_rfl⟩, forall_cons ⟨impl_within.ok k, e59⟩ (forall_cons ⟨impl_ConfigOk.ok k, e60⟩ (forall_cons ⟨impl_eraOk.ok k, e92⟩ (forall_cons ⟨impl_EpochOf.ok k, e21⟩ (forall_nil))))⟩) (fun _ => rfl) (fun _ => rfl)
    ⟨Try.func35, by kernel_rfl, by kernel_rfl, by kernel_rfl, by kernel_rfl, by kernel_rfl, by kernel_rfl⟩ (forall_cons (fun x => ⟨rfl, fun k => impl_RegOk.h5 k x.1 x.2.1 x.2.2.1 x.2.2.2.1 x.2.2.2.2.1⟩) (forall_cons (fun x => ⟨rfl, fun k => impl_RegOk.h16 k x.1 x.2.1 x.2.2.1⟩) (forall_nil))) (fun k x => impl_RegOk.hf k x.1 x.2.1) k
noncomputable def b37 : Code := Try.f37.body.getD .skip
theorem e37 : OM.Entry Try.prog 37 := ⟨_, Try.func37, by kernel_rfl, by kernel_rfl⟩
@[reducible] noncomputable def impl_FirstOpen.g : Sig := ⟨[.fz tRegister], [.v (.int .i64) .z], []⟩
@[reducible] noncomputable def impl_FirstOpen.fk : Nat → denI impl_FirstOpen.g.pms → Option (denR (outTys impl_FirstOpen.g.rts impl_FirstOpen.g.pms)) := fun k x => impl_FirstOpen.f k x.1
@[reducible] noncomputable def impl_FirstOpen.sm (k : Nat) : Sm := ⟨37, impl_FirstOpen.g.pms, impl_FirstOpen.g.rts, impl_FirstOpen.fk k⟩
noncomputable def impl_FirstOpen.E (k : Nat) : Env := ⟨tys, [], [12], [], []⟩
@[reducible] noncomputable def impl_FirstOpen.s5 : List Slot := [.v 24 (.sl tEra) .z [] 0, .v 28 (.int .i64) .z [] 0, .v 32 (.int .i64) .z [] 0]
noncomputable def impl_FirstOpen.pts : List (Pt (denR (outTys impl_FirstOpen.g.rts impl_FirstOpen.g.pms))) := [⟨5, impl_FirstOpen.s5, fun k x => impl_FirstOpen.p5 k x.1 x.2.1 x.2.2.1⟩]
theorem impl_FirstOpen.h5 (k : Nat) (x0 : (List Era)) (x1 : Int) (x2 : Int) : (impl_FirstOpen.p5 (k + 1) x0 x1 x2 : Option (denR (outTys impl_FirstOpen.g.rts impl_FirstOpen.g.pms))) = evAt (impl_FirstOpen.E k) (fun κ s => lhOf k κ s impl_FirstOpen.pts) 5 b37 (unproj impl_FirstOpen.s5 (x0, x1, x2, ())) (OM.fin impl_FirstOpen.g Try.f37.results.toList) := by kernel_rfl
theorem impl_FirstOpen.hf (k : Nat) (a0 : Register) : (impl_FirstOpen.f k a0 : Option (denR (outTys impl_FirstOpen.g.rts impl_FirstOpen.g.pms))) = evC (impl_FirstOpen.E k) (fun κ s => lhOf k κ s impl_FirstOpen.pts) b37 (OM.start impl_FirstOpen.g.pms 0 (a0, ())) (OM.fin impl_FirstOpen.g Try.f37.results.toList) := by kernel_rfl
theorem impl_FirstOpen.ok (k : Nat) : SmOk Try.prog (impl_FirstOpen.sm k) :=
  sm_ok mixed (E := impl_FirstOpen.E) (pts := impl_FirstOpen.pts) (fun k => ⟨⟨tysOk, by kernel_rfl⟩, forall_nil⟩) (fun _ => rfl) (fun _ => rfl)
    ⟨Try.func37, by kernel_rfl, by kernel_rfl, by kernel_rfl, by kernel_rfl, by kernel_rfl, by kernel_rfl⟩ (forall_cons (fun x => ⟨rfl, fun k => impl_FirstOpen.h5 k x.1 x.2.1 x.2.2.1⟩) (forall_nil)) (fun k x => impl_FirstOpen.hf k x.1) k
noncomputable def b129 : Code := Try.f129.body.getD .skip
theorem e129 : OM.Entry Try.prog 129 := ⟨_, Try.func129, by kernel_rfl, by kernel_rfl⟩
@[reducible] noncomputable def impl_copyInts.g : Sig := ⟨[.fz (.sl (.int .i64))], [.v (.sl (.int .i64)) (.own .z)], []⟩
@[reducible] noncomputable def impl_copyInts.fk : Nat → denI impl_copyInts.g.pms → Option (denR (outTys impl_copyInts.g.rts impl_copyInts.g.pms)) := fun k x => impl_copyInts.f x.1
@[reducible] noncomputable def impl_copyInts.sm (k : Nat) : Sm := ⟨129, impl_copyInts.g.pms, impl_copyInts.g.rts, impl_copyInts.fk k⟩
noncomputable def impl_copyInts.E (k : Nat) : Env := ⟨tys, [], [4], [], []⟩
noncomputable def impl_copyInts.pts : List (Pt (denR (outTys impl_copyInts.g.rts impl_copyInts.g.pms))) := []
theorem impl_copyInts.hf (k : Nat) (a0 : (List Int)) : (impl_copyInts.f a0 : Option (denR (outTys impl_copyInts.g.rts impl_copyInts.g.pms))) = evC (impl_copyInts.E k) (fun κ s => lhOf k κ s impl_copyInts.pts) b129 (OM.start impl_copyInts.g.pms 0 (a0, ())) (OM.fin impl_copyInts.g Try.f129.results.toList) := by kernel_rfl
theorem impl_copyInts.ok (k : Nat) : SmOk Try.prog (impl_copyInts.sm k) :=
  sm_ok mixed (E := impl_copyInts.E) (pts := impl_copyInts.pts) (fun k => ⟨⟨tysOk, by kernel_rfl⟩, forall_nil⟩) (fun _ => rfl) (fun _ => rfl)
    ⟨Try.func129, by kernel_rfl, by kernel_rfl, by kernel_rfl, by kernel_rfl, by kernel_rfl, by kernel_rfl⟩ (forall_nil) (fun k x => impl_copyInts.hf k x.1) k
noncomputable def b83 : Code := Try.f83.body.getD .skip
theorem e83 : OM.Entry Try.prog 83 := ⟨_, Try.func83, by kernel_rfl, by kernel_rfl⟩
@[reducible] noncomputable def impl_copyRegister.g : Sig := ⟨[.fz tRegister], [.v tRegister (.two (.own (.two (.own .z) .z)) .z)], []⟩
@[reducible] noncomputable def impl_copyRegister.fk : Nat → denI impl_copyRegister.g.pms → Option (denR (outTys impl_copyRegister.g.rts impl_copyRegister.g.pms)) := fun k x => impl_copyRegister.f k x.1
@[reducible] noncomputable def impl_copyRegister.sm (k : Nat) : Sm := ⟨83, impl_copyRegister.g.pms, impl_copyRegister.g.rts, impl_copyRegister.fk k⟩
noncomputable def impl_copyRegister.E (k : Nat) : Env := ⟨tys, [impl_copyInts.sm k], [15, 22], [], []⟩
@[reducible] noncomputable def impl_copyRegister.s7 : List Slot := [.r 8 9 [] tRegister, .r 12 13 [] tRegister, .v 40 (.sl tEra) .z [] 0, .v 44 (.int .i64) .z [] 0, .v 48 (.int .i64) .z [] 0, .v 9 tRegister (.two (.own .a) .z) [] 0, .v 13 tRegister (.two (.own (.two (.own .z) .z)) .z) [] 0]
noncomputable def impl_copyRegister.pts : List (Pt (denR (outTys impl_copyRegister.g.rts impl_copyRegister.g.pms))) := [⟨7, impl_copyRegister.s7, fun k x => impl_copyRegister.p7 k x.1 x.2.1 x.2.2.1 x.2.2.2.1 x.2.2.2.2.1⟩]
theorem impl_copyRegister.h7 (k : Nat) (x0 : (List Era)) (x1 : Int) (x2 : Int) (x3 : Register) (x4 : Register) : (impl_copyRegister.p7 (k + 1) x0 x1 x2 x3 x4 : Option (denR (outTys impl_copyRegister.g.rts impl_copyRegister.g.pms))) = evAt (impl_copyRegister.E k) (fun κ s => lhOf k κ s impl_copyRegister.pts) 7 b83 (unproj impl_copyRegister.s7 (x0, x1, x2, x3, x4, ())) (OM.fin impl_copyRegister.g Try.f83.results.toList) := by kernel_rfl
theorem impl_copyRegister.hf (k : Nat) (a0 : Register) : (impl_copyRegister.f k a0 : Option (denR (outTys impl_copyRegister.g.rts impl_copyRegister.g.pms))) = evC (impl_copyRegister.E k) (fun κ s => lhOf k κ s impl_copyRegister.pts) b83 (OM.start impl_copyRegister.g.pms 0 (a0, ())) (OM.fin impl_copyRegister.g Try.f83.results.toList) := by kernel_rfl
theorem impl_copyRegister.ok (k : Nat) : SmOk Try.prog (impl_copyRegister.sm k) :=
  sm_ok mixed (E := impl_copyRegister.E) (pts := impl_copyRegister.pts) (fun k => ⟨⟨tysOk, by kernel_rfl⟩, forall_cons ⟨impl_copyInts.ok k, e129⟩ (forall_nil)⟩) (fun _ => rfl) (fun _ => rfl)
    ⟨Try.func83, by kernel_rfl, by kernel_rfl, by kernel_rfl, by kernel_rfl, by kernel_rfl, by kernel_rfl⟩ (forall_cons (fun x => ⟨rfl, fun k => impl_copyRegister.h7 k x.1 x.2.1 x.2.2.1 x.2.2.2.1 x.2.2.2.2.1⟩) (forall_nil)) (fun k x => impl_copyRegister.hf k x.1) k
noncomputable def b82 : Code := Try.f82.body.getD .skip
theorem e82 : OM.Entry Try.prog 82 := ⟨_, Try.func82, by kernel_rfl, by kernel_rfl⟩
@[reducible] noncomputable def impl_regAsWas.g : Sig := ⟨[.fz tConfig, .fz tRegister], [.v tRegister (.two (.own (.two (.own .z) .z)) .z)], []⟩
@[reducible] noncomputable def impl_regAsWas.fk : Nat → denI impl_regAsWas.g.pms → Option (denR (outTys impl_regAsWas.g.rts impl_regAsWas.g.pms)) := fun k x => impl_regAsWas.f k x.1 x.2.1
@[reducible] noncomputable def impl_regAsWas.sm (k : Nat) : Sm := ⟨82, impl_regAsWas.g.pms, impl_regAsWas.g.rts, impl_regAsWas.fk k⟩
noncomputable def impl_regAsWas.E (k : Nat) : Env := ⟨tys, [impl_RegOk.sm k, impl_copyRegister.sm k], [], [], []⟩
noncomputable def impl_regAsWas.pts : List (Pt (denR (outTys impl_regAsWas.g.rts impl_regAsWas.g.pms))) := []
theorem impl_regAsWas.hf (k : Nat) (a0 : Config) (a1 : Register) : (impl_regAsWas.f k a0 a1 : Option (denR (outTys impl_regAsWas.g.rts impl_regAsWas.g.pms))) = evC (impl_regAsWas.E k) (fun κ s => lhOf k κ s impl_regAsWas.pts) b82 (OM.start impl_regAsWas.g.pms 0 (a0, a1, ())) (OM.fin impl_regAsWas.g Try.f82.results.toList) := by kernel_rfl
theorem impl_regAsWas.ok (k : Nat) : SmOk Try.prog (impl_regAsWas.sm k) :=
  sm_ok mixed (E := impl_regAsWas.E) (pts := impl_regAsWas.pts) (fun k => ⟨⟨tysOk, by kernel_rfl⟩, forall_cons ⟨impl_RegOk.ok k, e35⟩ (forall_cons ⟨impl_copyRegister.ok k, e83⟩ (forall_nil))⟩) (fun _ => rfl) (fun _ => rfl)
    ⟨Try.func82, by kernel_rfl, by kernel_rfl, by kernel_rfl, by kernel_rfl, by kernel_rfl, by kernel_rfl⟩ (forall_nil) (fun k x => impl_regAsWas.hf k x.1 x.2.1) k
noncomputable def b28 : Code := Try.f28.body.getD .skip
theorem e28 : OM.Entry Try.prog 28 := ⟨_, Try.func28, by kernel_rfl, by kernel_rfl⟩
@[reducible] noncomputable def impl_RegClose.g : Sig := ⟨[.fz tConfig, .fz tRegister, .fz (.int .i64), .fz (.int .i64)], [.v tRegister (.two (.own (.two (.own .z) .z)) .z), .v .bool .z], []⟩
@[reducible] noncomputable def impl_RegClose.fk : Nat → denI impl_RegClose.g.pms → Option (denR (outTys impl_RegClose.g.rts impl_RegClose.g.pms)) := fun k x => impl_RegClose.f k x.1 x.2.1 x.2.2.1 x.2.2.2.1
@[reducible] noncomputable def impl_RegClose.sm (k : Nat) : Sm := ⟨28, impl_RegClose.g.pms, impl_RegClose.g.rts, impl_RegClose.fk k⟩
noncomputable def impl_RegClose.E (k : Nat) : Env := ⟨tys, [impl_within.sm k, impl_RegOk.sm k, impl_FirstOpen.sm k, impl_copyRegister.sm k, impl_regAsWas.sm k], [48, 100045, 200011], [], []⟩
noncomputable def impl_RegClose.pts : List (Pt (denR (outTys impl_RegClose.g.rts impl_RegClose.g.pms))) := []
theorem impl_RegClose.hf (k : Nat) (a0 : Config) (a1 : Register) (a2 : Int) (a3 : Int) : (impl_RegClose.f k a0 a1 a2 a3 : Option (denR (outTys impl_RegClose.g.rts impl_RegClose.g.pms))) = evC (impl_RegClose.E k) (fun κ s => lhOf k κ s impl_RegClose.pts) b28 (OM.start impl_RegClose.g.pms 0 (a0, a1, a2, a3, ())) (OM.fin impl_RegClose.g Try.f28.results.toList) := by kernel_rfl
theorem impl_RegClose.ok (k : Nat) : SmOk Try.prog (impl_RegClose.sm k) :=
  sm_ok mixed (E := impl_RegClose.E) (pts := impl_RegClose.pts) (fun k => ⟨⟨tysOk, by kernel_rfl⟩, forall_cons ⟨impl_within.ok k, e59⟩ (forall_cons ⟨impl_RegOk.ok k, e35⟩ (forall_cons ⟨impl_FirstOpen.ok k, e37⟩ (forall_cons ⟨impl_copyRegister.ok k, e83⟩ (forall_cons ⟨impl_regAsWas.ok k, e82⟩ (forall_nil)))))⟩) (fun _ => rfl) (fun _ => rfl)
    ⟨Try.func28, by kernel_rfl, by kernel_rfl, by kernel_rfl, by kernel_rfl, by kernel_rfl, by kernel_rfl⟩ (forall_nil) (fun k x => impl_RegClose.hf k x.1 x.2.1 x.2.2.1 x.2.2.2.1) k
noncomputable def b6 : Code := Try.f6.body.getD .skip
theorem e6 : OM.Entry Try.prog 6 := ⟨_, Try.func6, by kernel_rfl, by kernel_rfl⟩
@[reducible] noncomputable def laws_FnClosed.g : Sig := ⟨[.fz (.sl (.int .u8))], [.v .bool .z], []⟩
@[reducible] noncomputable def laws_FnClosed.fk : Nat → denI laws_FnClosed.g.pms → Option (denR (outTys laws_FnClosed.g.rts laws_FnClosed.g.pms)) := fun k x => laws_FnClosed.f k x.1
@[reducible] noncomputable def laws_FnClosed.sm (k : Nat) : Sm := ⟨6, laws_FnClosed.g.pms, laws_FnClosed.g.rts, laws_FnClosed.fk k⟩
noncomputable def laws_FnClosed.E (k : Nat) : Env := ⟨tys, [laws_big.sm k, spec_RegOk.sm k, spec_RegClose.sm k, spec_DrawRegClose.sm k, impl_RegOk.sm k, impl_FirstOpen.sm k, impl_RegClose.sm k], [], [], [4]⟩
@[reducible] noncomputable def laws_FnClosed.s31 : List Slot := [.r 28 29 [] tConfig, .r 32 33 [] tRegister, .v 36 (.int .i64) .z [] 0, .v 40 (.int .i64) .z [] 0, .r 44 45 [] tRegister, .v 60 (.int .i64) .z [] 0, .v 64 (.int .i64) .z [] 0, .v 29 tConfig .z [] 0, .v 33 tRegister (.two (.own .z) .z) [] 0, .v 45 tRegister (.two (.own (.two (.own .z) .z)) .z) [] 0]
noncomputable def laws_FnClosed.pts : List (Pt (denR (outTys laws_FnClosed.g.rts laws_FnClosed.g.pms))) := [⟨31, laws_FnClosed.s31, fun k x => laws_FnClosed.p31 k x.1 x.2.1 x.2.2.1 x.2.2.2.1 x.2.2.2.2.1 x.2.2.2.2.2.1 x.2.2.2.2.2.2.1⟩]
theorem laws_FnClosed.h31 (k : Nat) (x0 : Int) (x1 : Int) (x2 : Int) (x3 : Int) (x4 : Config) (x5 : Register) (x6 : Register) : (laws_FnClosed.p31 (k + 1) x0 x1 x2 x3 x4 x5 x6 : Option (denR (outTys laws_FnClosed.g.rts laws_FnClosed.g.pms))) = evAt (laws_FnClosed.E k) (fun κ s => lhOf k κ s laws_FnClosed.pts) 31 b6 (unproj laws_FnClosed.s31 (x0, x1, x2, x3, x4, x5, x6, ())) (OM.fin laws_FnClosed.g Try.f6.results.toList) := by kernel_rfl
theorem laws_FnClosed.hf (k : Nat) (a0 : (List Int)) : (laws_FnClosed.f k a0 : Option (denR (outTys laws_FnClosed.g.rts laws_FnClosed.g.pms))) = evC (laws_FnClosed.E k) (fun κ s => lhOf k κ s laws_FnClosed.pts) b6 (OM.start laws_FnClosed.g.pms 0 (a0, ())) (OM.fin laws_FnClosed.g Try.f6.results.toList) := by kernel_rfl
theorem laws_FnClosed.ok (k : Nat) : SmOk Try.prog (laws_FnClosed.sm k) :=
  sm_ok mixed (E := laws_FnClosed.E) (pts := laws_FnClosed.pts) (fun k => ⟨⟨tysOk, by kernel_rfl⟩, forall_cons ⟨laws_big.ok k, e9⟩ (forall_cons ⟨spec_RegOk.ok k, e36⟩ (forall_cons ⟨spec_RegClose.ok k, e25⟩ (forall_cons ⟨spec_DrawRegClose.ok k, e34⟩ (forall_cons ⟨impl_RegOk.ok k, e35⟩ (forall_cons ⟨impl_FirstOpen.ok k, e37⟩ (forall_cons ⟨impl_RegClose.ok k, e28⟩ (forall_nil)))))))⟩) (fun _ => rfl) (fun _ => rfl)
    ⟨Try.func6, by kernel_rfl, by kernel_rfl, by kernel_rfl, by kernel_rfl, by kernel_rfl, by kernel_rfl⟩ (forall_cons (fun x => ⟨rfl, fun k => laws_FnClosed.h31 k x.1 x.2.1 x.2.2.1 x.2.2.2.1 x.2.2.2.2.1 x.2.2.2.2.2.1 x.2.2.2.2.2.2.1⟩) (forall_nil)) (fun k x => laws_FnClosed.hf k x.1) k
end Go.Proofs.Ytllmifioelbleaa.OmFnClosed
