import Derived.Test.YthgnikafeamidaaFFnFilled
import Derived.Test.YthgnikafeamidaaChecked
set_option maxRecDepth 1000000
set_option linter.unusedVariables false
namespace Go.Proofs.Ythgnikafeamidaa.OmFnFilled
open Go Go.OM
noncomputable def tys : List (Option Ty) := [none, none, some (.int .i64), some (.int .i64), some .bool, some (.int .u8), some (.int .u8), some (.pair (.int .i64) (.pair (.int .i64) (.pair .bool (.pair (.int .u8) .unit)))), some (.pair (.int .i64) (.pair (.int .i64) (.pair .bool (.pair (.int .u8) .unit)))), some .str, some .str, some .str, some (.int .u64), some (.pair .str (.pair (.int .u64) .unit)), some (.pair .str (.pair (.int .u64) .unit)), none, none, none, none, none, none, some (.int .i32), some (.sl tStore), none, some (.sl tEntry), none, some (.sl tStore), none, none, none, none, none, none, some (.sl (.int .u8)), none, none, none, some tStore, some tStore, some tEntry, some tEntry, none, none, none, some (.sl (.int .i64)), some tConfig, some tConfig, none, none, none, none, none, none, some tConfig, none, none, none, none, none, none, none, none, none, none, some (.sl tEntry), some (.sl (.sl (.int .i64))), some tMend, some tMend, none, some tMend, some tMend, none, none, none, none, none, none, none, none, none, none, none, none, none, some tStore, some tStore, none, none, none, none, none, none, none, none, none, none, none, none, none, none, none, none, none, none, none, none, none, none, none, none, none, none, none, none, none, none, none, none, none, none, none, none, none, none, none, some tl1Cur, some tl1Cur, none, none, none, none, none, none, some tEntry, none, none, none, none, none, none, none, none, none, none, none, none, none, some (.int .u64), some (.sl .bool), none, none, none, none, none, none, some (.sl .str), none, none, none, none, none, none, none, none, none, none, none, none, some (.int .u32), some (.int .u8), some (.int .u8), none, none, some (.int .i32), some (.int .i32), none, none, none]
theorem tysOk : okTys Try.prog tys 0 tys = true := by kernel_rfl
theorem mixed : Try.prog.follows .mixedOrders = true := by kernel_rfl
noncomputable def b18 : Code := Try.f18.body.getD .skip
theorem e18 : OM.Entry Try.prog 18 := ⟨_, Try.func18, by kernel_rfl, by kernel_rfl⟩
@[reducible] noncomputable def laws_big.g : Sig := ⟨[.fz (.sl (.int .u8))], [.v .bool .z], []⟩
@[reducible] noncomputable def laws_big.fk : Nat → denI laws_big.g.pms → Option (denR (outTys laws_big.g.rts laws_big.g.pms)) := fun k x => laws_big.f x.1
@[reducible] noncomputable def laws_big.sm (k : Nat) : Sm := ⟨18, laws_big.g.pms, laws_big.g.rts, laws_big.fk k⟩
noncomputable def laws_big.E (k : Nat) : Env := ⟨tys, [], [], [], []⟩
noncomputable def laws_big.pts : List (Pt (denR (outTys laws_big.g.rts laws_big.g.pms))) := []
theorem laws_big.hf (k : Nat) (a0 : (List Int)) : (laws_big.f a0 : Option (denR (outTys laws_big.g.rts laws_big.g.pms))) = evC (laws_big.E k) (fun κ s => lhOf k κ s laws_big.pts) b18 (OM.start laws_big.g.pms 0 (a0, ())) (OM.fin laws_big.g Try.f18.results.toList) := by kernel_rfl
theorem laws_big.ok (k : Nat) : SmOk Try.prog (laws_big.sm k) :=
  sm_ok mixed (E := laws_big.E) (pts := laws_big.pts) (fun k => ⟨⟨tysOk, by kernel_rfl⟩, forall_nil⟩) (fun _ => rfl) (fun _ => rfl)
    ⟨Try.func18, by kernel_rfl, by kernel_rfl, by kernel_rfl, by kernel_rfl, by kernel_rfl, by kernel_rfl⟩ (forall_nil) (fun k x => laws_big.hf k x.1) k
noncomputable def b62 : Code := Try.f62.body.getD .skip
theorem e62 : OM.Entry Try.prog 62 := ⟨_, Try.func62, by kernel_rfl, by kernel_rfl⟩
@[reducible] noncomputable def spec_l1New.g : Sig := ⟨[.fz (.sl (.int .u8))], [.p tl1Cur .z], []⟩
@[reducible] noncomputable def spec_l1New.fk : Nat → denI spec_l1New.g.pms → Option (denR (outTys spec_l1New.g.rts spec_l1New.g.pms)) := fun k x => spec_l1New.f k x.1
@[reducible] noncomputable def spec_l1New.sm (k : Nat) : Sm := ⟨62, spec_l1New.g.pms, spec_l1New.g.rts, spec_l1New.fk k⟩
noncomputable def spec_l1New.E (k : Nat) : Env := ⟨tys, [], [28, 29], [], []⟩
@[reducible] noncomputable def spec_l1New.s7 : List Slot := [.v 0 (.sl (.int .u8)) .z [] 0, .v 12 (.int .i64) .z [] 0, .v 16 (.int .i64) .z [] 0]
noncomputable def spec_l1New.pts : List (Pt (denR (outTys spec_l1New.g.rts spec_l1New.g.pms))) := [⟨7, spec_l1New.s7, fun k x => spec_l1New.p7 k x.1 x.2.1 x.2.2.1⟩]
theorem spec_l1New.h7 (k : Nat) (x0 : (List Int)) (x1 : Int) (x2 : Int) : (spec_l1New.p7 (k + 1) x0 x1 x2 : Option (denR (outTys spec_l1New.g.rts spec_l1New.g.pms))) = evAt (spec_l1New.E k) (fun κ s => lhOf k κ s spec_l1New.pts) 7 b62 (unproj spec_l1New.s7 (x0, x1, x2, ())) (OM.fin spec_l1New.g Try.f62.results.toList) := by kernel_rfl
theorem spec_l1New.hf (k : Nat) (a0 : (List Int)) : (spec_l1New.f k a0 : Option (denR (outTys spec_l1New.g.rts spec_l1New.g.pms))) = evC (spec_l1New.E k) (fun κ s => lhOf k κ s spec_l1New.pts) b62 (OM.start spec_l1New.g.pms 0 (a0, ())) (OM.fin spec_l1New.g Try.f62.results.toList) := by kernel_rfl
theorem spec_l1New.ok (k : Nat) : SmOk Try.prog (spec_l1New.sm k) :=
  sm_ok mixed (E := spec_l1New.E) (pts := spec_l1New.pts) (fun k => ⟨⟨tysOk, by kernel_rfl⟩, forall_nil⟩) (fun _ => rfl) (fun _ => rfl)
    ⟨Try.func62, by kernel_rfl, by kernel_rfl, by kernel_rfl, by kernel_rfl, by kernel_rfl, by kernel_rfl⟩ (forall_cons (fun x => ⟨rfl, fun k => spec_l1New.h7 k x.1 x.2.1 x.2.2.1⟩) (forall_nil)) (fun k x => spec_l1New.hf k x.1) k
noncomputable def b118 : Code := Try.f118.body.getD .skip
theorem e118 : OM.Entry Try.prog 118 := ⟨_, Try.func118, by kernel_rfl, by kernel_rfl⟩
@[reducible] noncomputable def spec_l1Byte.g : Sig := ⟨[.ptr tl1Cur .z .z], [.v (.int .i64) .z], []⟩
@[reducible] noncomputable def spec_l1Byte.fk : Nat → denI spec_l1Byte.g.pms → Option (denR (outTys spec_l1Byte.g.rts spec_l1Byte.g.pms)) := fun k x => spec_l1Byte.f x.1
@[reducible] noncomputable def spec_l1Byte.sm (k : Nat) : Sm := ⟨118, spec_l1Byte.g.pms, spec_l1Byte.g.rts, spec_l1Byte.fk k⟩
noncomputable def spec_l1Byte.E (k : Nat) : Env := ⟨tys, [], [], [], []⟩
noncomputable def spec_l1Byte.pts : List (Pt (denR (outTys spec_l1Byte.g.rts spec_l1Byte.g.pms))) := []
theorem spec_l1Byte.hf (k : Nat) (a0 : l1Cur) : (spec_l1Byte.f a0 : Option (denR (outTys spec_l1Byte.g.rts spec_l1Byte.g.pms))) = evC (spec_l1Byte.E k) (fun κ s => lhOf k κ s spec_l1Byte.pts) b118 (OM.start spec_l1Byte.g.pms 0 (a0, ())) (OM.fin spec_l1Byte.g Try.f118.results.toList) := by kernel_rfl
theorem spec_l1Byte.ok (k : Nat) : SmOk Try.prog (spec_l1Byte.sm k) :=
  sm_ok mixed (E := spec_l1Byte.E) (pts := spec_l1Byte.pts) (fun k => ⟨⟨tysOk, by kernel_rfl⟩, forall_nil⟩) (fun _ => rfl) (fun _ => rfl)
    ⟨Try.func118, by kernel_rfl, by kernel_rfl, by kernel_rfl, by kernel_rfl, by kernel_rfl, by kernel_rfl⟩ (forall_nil) (fun k x => spec_l1Byte.hf k x.1) k
noncomputable def b64 : Code := Try.f64.body.getD .skip
theorem e64 : OM.Entry Try.prog 64 := ⟨_, Try.func64, by kernel_rfl, by kernel_rfl⟩
@[reducible] noncomputable def spec_l1Below.g : Sig := ⟨[.ptr tl1Cur .z .z, .fz (.int .i64)], [.v (.int .i64) .z], []⟩
@[reducible] noncomputable def spec_l1Below.fk : Nat → denI spec_l1Below.g.pms → Option (denR (outTys spec_l1Below.g.rts spec_l1Below.g.pms)) := fun k x => spec_l1Below.f x.1 x.2.1
@[reducible] noncomputable def spec_l1Below.sm (k : Nat) : Sm := ⟨64, spec_l1Below.g.pms, spec_l1Below.g.rts, spec_l1Below.fk k⟩
noncomputable def spec_l1Below.E (k : Nat) : Env := ⟨tys, [spec_l1Byte.sm k], [], [], []⟩
noncomputable def spec_l1Below.pts : List (Pt (denR (outTys spec_l1Below.g.rts spec_l1Below.g.pms))) := []
theorem spec_l1Below.hf (k : Nat) (a0 : l1Cur) (a1 : Int) : (spec_l1Below.f a0 a1 : Option (denR (outTys spec_l1Below.g.rts spec_l1Below.g.pms))) = evC (spec_l1Below.E k) (fun κ s => lhOf k κ s spec_l1Below.pts) b64 (OM.start spec_l1Below.g.pms 0 (a0, a1, ())) (OM.fin spec_l1Below.g Try.f64.results.toList) := by kernel_rfl
theorem spec_l1Below.ok (k : Nat) : SmOk Try.prog (spec_l1Below.sm k) :=
  sm_ok mixed (E := spec_l1Below.E) (pts := spec_l1Below.pts) (fun k => ⟨⟨tysOk, by kernel_rfl⟩, forall_cons ⟨spec_l1Byte.ok k, e118⟩ (forall_nil)⟩) (fun _ => rfl) (fun _ => rfl)
    ⟨Try.func64, by kernel_rfl, by kernel_rfl, by kernel_rfl, by kernel_rfl, by kernel_rfl, by kernel_rfl⟩ (forall_nil) (fun k x => spec_l1Below.hf k x.1 x.2.1) k
noncomputable def b70 : Code := Try.f70.body.getD .skip
theorem e70 : OM.Entry Try.prog 70 := ⟨_, Try.func70, by kernel_rfl, by kernel_rfl⟩
@[reducible] noncomputable def spec_l1Once.g : Sig := ⟨[.ptr tl1Cur .z .z, .fz (.int .i64)], [.v .bool .z], []⟩
@[reducible] noncomputable def spec_l1Once.fk : Nat → denI spec_l1Once.g.pms → Option (denR (outTys spec_l1Once.g.rts spec_l1Once.g.pms)) := fun k x => spec_l1Once.f x.1 x.2.1
@[reducible] noncomputable def spec_l1Once.sm (k : Nat) : Sm := ⟨70, spec_l1Once.g.pms, spec_l1Once.g.rts, spec_l1Once.fk k⟩
noncomputable def spec_l1Once.E (k : Nat) : Env := ⟨tys, [spec_l1Below.sm k], [], [], []⟩
noncomputable def spec_l1Once.pts : List (Pt (denR (outTys spec_l1Once.g.rts spec_l1Once.g.pms))) := []
theorem spec_l1Once.hf (k : Nat) (a0 : l1Cur) (a1 : Int) : (spec_l1Once.f a0 a1 : Option (denR (outTys spec_l1Once.g.rts spec_l1Once.g.pms))) = evC (spec_l1Once.E k) (fun κ s => lhOf k κ s spec_l1Once.pts) b70 (OM.start spec_l1Once.g.pms 0 (a0, a1, ())) (OM.fin spec_l1Once.g Try.f70.results.toList) := by kernel_rfl
theorem spec_l1Once.ok (k : Nat) : SmOk Try.prog (spec_l1Once.sm k) :=
  sm_ok mixed (E := spec_l1Once.E) (pts := spec_l1Once.pts) (fun k => ⟨⟨tysOk, by kernel_rfl⟩, forall_cons ⟨spec_l1Below.ok k, e64⟩ (forall_nil)⟩) (fun _ => rfl) (fun _ => rfl)
    ⟨Try.func70, by kernel_rfl, by kernel_rfl, by kernel_rfl, by kernel_rfl, by kernel_rfl, by kernel_rfl⟩ (forall_nil) (fun k x => spec_l1Once.hf k x.1 x.2.1) k
noncomputable def b69 : Code := Try.f69.body.getD .skip
theorem e69 : OM.Entry Try.prog 69 := ⟨_, Try.func69, by kernel_rfl, by kernel_rfl⟩
@[reducible] noncomputable def spec_l4DrawRight.g : Sig := ⟨[.ptr tl1Cur .z .z], [.v tConfig (.two (.own .z) .z)], []⟩
@[reducible] noncomputable def spec_l4DrawRight.fk : Nat → denI spec_l4DrawRight.g.pms → Option (denR (outTys spec_l4DrawRight.g.rts spec_l4DrawRight.g.pms)) := fun k x => spec_l4DrawRight.f k x.1
@[reducible] noncomputable def spec_l4DrawRight.sm (k : Nat) : Sm := ⟨69, spec_l4DrawRight.g.pms, spec_l4DrawRight.g.rts, spec_l4DrawRight.fk k⟩
noncomputable def spec_l4DrawRight.E (k : Nat) : Env := ⟨tys, [spec_l1Below.sm k, spec_l1Once.sm k], [], [], []⟩
@[reducible] noncomputable def spec_l4DrawRight.s9 : List Slot := [.r 0 36001 [] tl1Cur, .r 8 9 [] tConfig, .r 12 13 [] tConfig, .v 16 (.int .i64) .z [] 0, .v 20 (.int .i64) .z [] 0, .v 9 tConfig (.two (.own .a) .z) [] 0, .v 13 tConfig (.two (.own .z) .z) [] 0, .v 36001 tl1Cur .z [] 0]
noncomputable def spec_l4DrawRight.pts : List (Pt (denR (outTys spec_l4DrawRight.g.rts spec_l4DrawRight.g.pms))) := [⟨9, spec_l4DrawRight.s9, fun k x => spec_l4DrawRight.p9 k x.1 x.2.1 x.2.2.1 x.2.2.2.1 x.2.2.2.2.1⟩]
theorem spec_l4DrawRight.h9 (k : Nat) (x0 : Int) (x1 : Int) (x2 : Config) (x3 : Config) (x4 : l1Cur) : (spec_l4DrawRight.p9 (k + 1) x0 x1 x2 x3 x4 : Option (denR (outTys spec_l4DrawRight.g.rts spec_l4DrawRight.g.pms))) = evAt (spec_l4DrawRight.E k) (fun κ s => lhOf k κ s spec_l4DrawRight.pts) 9 b69 (unproj spec_l4DrawRight.s9 (x0, x1, x2, x3, x4, ())) (OM.fin spec_l4DrawRight.g Try.f69.results.toList) := by kernel_rfl
theorem spec_l4DrawRight.hf (k : Nat) (a0 : l1Cur) : (spec_l4DrawRight.f k a0 : Option (denR (outTys spec_l4DrawRight.g.rts spec_l4DrawRight.g.pms))) = evC (spec_l4DrawRight.E k) (fun κ s => lhOf k κ s spec_l4DrawRight.pts) b69 (OM.start spec_l4DrawRight.g.pms 0 (a0, ())) (OM.fin spec_l4DrawRight.g Try.f69.results.toList) := by kernel_rfl
theorem spec_l4DrawRight.ok (k : Nat) : SmOk Try.prog (spec_l4DrawRight.sm k) :=
  sm_ok mixed (E := spec_l4DrawRight.E) (pts := spec_l4DrawRight.pts) (fun k => ⟨⟨tysOk, by kernel_rfl⟩, forall_cons ⟨spec_l1Below.ok k, e64⟩ (forall_cons ⟨spec_l1Once.ok k, e70⟩ (forall_nil))⟩) (fun _ => rfl) (fun _ => rfl)
    ⟨Try.func69, by kernel_rfl, by kernel_rfl, by kernel_rfl, by kernel_rfl, by kernel_rfl, by kernel_rfl⟩ (forall_cons (fun x => ⟨rfl, fun k => spec_l4DrawRight.h9 k x.1 x.2.1 x.2.2.1 x.2.2.2.1 x.2.2.2.2.1⟩) (forall_nil)) (fun k x => spec_l4DrawRight.hf k x.1) k
noncomputable def b150 : Code := Try.f150.body.getD .skip
theorem e150 : OM.Entry Try.prog 150 := ⟨_, Try.func150, by kernel_rfl, by kernel_rfl⟩
@[reducible] noncomputable def spec_l1Place.g : Sig := ⟨[.fz (.int .i64), .fz (.int .i64)], [.v (.int .i64) .z], []⟩
@[reducible] noncomputable def spec_l1Place.fk : Nat → denI spec_l1Place.g.pms → Option (denR (outTys spec_l1Place.g.rts spec_l1Place.g.pms)) := fun k x => spec_l1Place.f x.1 x.2.1
@[reducible] noncomputable def spec_l1Place.sm (k : Nat) : Sm := ⟨150, spec_l1Place.g.pms, spec_l1Place.g.rts, spec_l1Place.fk k⟩
noncomputable def spec_l1Place.E (k : Nat) : Env := ⟨tys, [], [], [], []⟩
noncomputable def spec_l1Place.pts : List (Pt (denR (outTys spec_l1Place.g.rts spec_l1Place.g.pms))) := []
theorem spec_l1Place.hf (k : Nat) (a0 : Int) (a1 : Int) : (spec_l1Place.f a0 a1 : Option (denR (outTys spec_l1Place.g.rts spec_l1Place.g.pms))) = evC (spec_l1Place.E k) (fun κ s => lhOf k κ s spec_l1Place.pts) b150 (OM.start spec_l1Place.g.pms 0 (a0, a1, ())) (OM.fin spec_l1Place.g Try.f150.results.toList) := by kernel_rfl
theorem spec_l1Place.ok (k : Nat) : SmOk Try.prog (spec_l1Place.sm k) :=
  sm_ok mixed (E := spec_l1Place.E) (pts := spec_l1Place.pts) (fun k => ⟨⟨tysOk, by kernel_rfl⟩, forall_nil⟩) (fun _ => rfl) (fun _ => rfl)
    ⟨Try.func150, by kernel_rfl, by kernel_rfl, by kernel_rfl, by kernel_rfl, by kernel_rfl, by kernel_rfl⟩ (forall_nil) (fun k x => spec_l1Place.hf k x.1 x.2.1) k
noncomputable def b162 : Code := Try.f162.body.getD .skip
theorem e162 : OM.Entry Try.prog 162 := ⟨_, Try.func162, by kernel_rfl, by kernel_rfl⟩
@[reducible] noncomputable def spec_l1Pick.g : Sig := ⟨[.ptr tl1Cur .z .z, .fz (.sl .str)], [.v .str .z], []⟩
@[reducible] noncomputable def spec_l1Pick.fk : Nat → denI spec_l1Pick.g.pms → Option (denR (outTys spec_l1Pick.g.rts spec_l1Pick.g.pms)) := fun k x => spec_l1Pick.f x.1 x.2.1
@[reducible] noncomputable def spec_l1Pick.sm (k : Nat) : Sm := ⟨162, spec_l1Pick.g.pms, spec_l1Pick.g.rts, spec_l1Pick.fk k⟩
noncomputable def spec_l1Pick.E (k : Nat) : Env := ⟨tys, [spec_l1Below.sm k], [], [], []⟩
noncomputable def spec_l1Pick.pts : List (Pt (denR (outTys spec_l1Pick.g.rts spec_l1Pick.g.pms))) := []
theorem spec_l1Pick.hf (k : Nat) (a0 : l1Cur) (a1 : (List ByteArray)) : (spec_l1Pick.f a0 a1 : Option (denR (outTys spec_l1Pick.g.rts spec_l1Pick.g.pms))) = evC (spec_l1Pick.E k) (fun κ s => lhOf k κ s spec_l1Pick.pts) b162 (OM.start spec_l1Pick.g.pms 0 (a0, a1, ())) (OM.fin spec_l1Pick.g Try.f162.results.toList) := by kernel_rfl
theorem spec_l1Pick.ok (k : Nat) : SmOk Try.prog (spec_l1Pick.sm k) :=
  sm_ok mixed (E := spec_l1Pick.E) (pts := spec_l1Pick.pts) (fun k => ⟨⟨tysOk, by kernel_rfl⟩, forall_cons ⟨spec_l1Below.ok k, e64⟩ (forall_nil)⟩) (fun _ => rfl) (fun _ => rfl)
    ⟨Try.func162, by kernel_rfl, by kernel_rfl, by kernel_rfl, by kernel_rfl, by kernel_rfl, by kernel_rfl⟩ (forall_nil) (fun k x => spec_l1Pick.hf k x.1 x.2.1) k
noncomputable def b67 : Code := Try.f67.body.getD .skip
theorem e67 : OM.Entry Try.prog 67 := ⟨_, Try.func67, by kernel_rfl, by kernel_rfl⟩
@[reducible] noncomputable def spec_l1In.g : Sig := ⟨[.fz (.int .i64), .fz (.int .i64), .fz (.int .i64)], [.v .bool .z], []⟩
@[reducible] noncomputable def spec_l1In.fk : Nat → denI spec_l1In.g.pms → Option (denR (outTys spec_l1In.g.rts spec_l1In.g.pms)) := fun k x => spec_l1In.f x.1 x.2.1 x.2.2.1
@[reducible] noncomputable def spec_l1In.sm (k : Nat) : Sm := ⟨67, spec_l1In.g.pms, spec_l1In.g.rts, spec_l1In.fk k⟩
noncomputable def spec_l1In.E (k : Nat) : Env := ⟨tys, [], [], [], []⟩
noncomputable def spec_l1In.pts : List (Pt (denR (outTys spec_l1In.g.rts spec_l1In.g.pms))) := []
theorem spec_l1In.hf (k : Nat) (a0 : Int) (a1 : Int) (a2 : Int) : (spec_l1In.f a0 a1 a2 : Option (denR (outTys spec_l1In.g.rts spec_l1In.g.pms))) = evC (spec_l1In.E k) (fun κ s => lhOf k κ s spec_l1In.pts) b67 (OM.start spec_l1In.g.pms 0 (a0, a1, a2, ())) (OM.fin spec_l1In.g Try.f67.results.toList) := by kernel_rfl
theorem spec_l1In.ok (k : Nat) : SmOk Try.prog (spec_l1In.sm k) :=
  sm_ok mixed (E := spec_l1In.E) (pts := spec_l1In.pts) (fun k => ⟨⟨tysOk, by kernel_rfl⟩, forall_nil⟩) (fun _ => rfl) (fun _ => rfl)
    ⟨Try.func67, by kernel_rfl, by kernel_rfl, by kernel_rfl, by kernel_rfl, by kernel_rfl, by kernel_rfl⟩ (forall_nil) (fun k x => spec_l1In.hf k x.1 x.2.1 x.2.2.1) k
noncomputable def b152 : Code := Try.f152.body.getD .skip
theorem e152 : OM.Entry Try.prog 152 := ⟨_, Try.func152, by kernel_rfl, by kernel_rfl⟩
@[reducible] noncomputable def spec_PlaceOk.g : Sig := ⟨[.fz (.int .i64)], [.v .bool .z], []⟩
@[reducible] noncomputable def spec_PlaceOk.fk : Nat → denI spec_PlaceOk.g.pms → Option (denR (outTys spec_PlaceOk.g.rts spec_PlaceOk.g.pms)) := fun k x => spec_PlaceOk.f x.1
@[reducible] noncomputable def spec_PlaceOk.sm (k : Nat) : Sm := ⟨152, spec_PlaceOk.g.pms, spec_PlaceOk.g.rts, spec_PlaceOk.fk k⟩
noncomputable def spec_PlaceOk.E (k : Nat) : Env := ⟨tys, [spec_l1In.sm k], [], [], []⟩
noncomputable def spec_PlaceOk.pts : List (Pt (denR (outTys spec_PlaceOk.g.rts spec_PlaceOk.g.pms))) := []
theorem spec_PlaceOk.hf (k : Nat) (a0 : Int) : (spec_PlaceOk.f a0 : Option (denR (outTys spec_PlaceOk.g.rts spec_PlaceOk.g.pms))) = evC (spec_PlaceOk.E k) (fun κ s => lhOf k κ s spec_PlaceOk.pts) b152 (OM.start spec_PlaceOk.g.pms 0 (a0, ())) (OM.fin spec_PlaceOk.g Try.f152.results.toList) := by kernel_rfl
theorem spec_PlaceOk.ok (k : Nat) : SmOk Try.prog (spec_PlaceOk.sm k) :=
  sm_ok mixed (E := spec_PlaceOk.E) (pts := spec_PlaceOk.pts) (fun k => ⟨⟨tysOk, by kernel_rfl⟩, forall_cons ⟨spec_l1In.ok k, e67⟩ (forall_nil)⟩) (fun _ => rfl) (fun _ => rfl)
    ⟨Try.func152, by kernel_rfl, by kernel_rfl, by kernel_rfl, by kernel_rfl, by kernel_rfl, by kernel_rfl⟩ (forall_nil) (fun k x => spec_PlaceOk.hf k x.1) k
noncomputable def b127 : Code := Try.f127.body.getD .skip
theorem e127 : OM.Entry Try.prog 127 := ⟨_, Try.func127, by kernel_rfl, by kernel_rfl⟩
@[reducible] noncomputable def spec_EpochOf.g : Sig := ⟨[.fz (.int .i64)], [.v (.int .i64) .z], []⟩
@[reducible] noncomputable def spec_EpochOf.fk : Nat → denI spec_EpochOf.g.pms → Option (denR (outTys spec_EpochOf.g.rts spec_EpochOf.g.pms)) := fun k x => spec_EpochOf.f x.1
@[reducible] noncomputable def spec_EpochOf.sm (k : Nat) : Sm := ⟨127, spec_EpochOf.g.pms, spec_EpochOf.g.rts, spec_EpochOf.fk k⟩
noncomputable def spec_EpochOf.E (k : Nat) : Env := ⟨tys, [spec_PlaceOk.sm k], [], [], []⟩
noncomputable def spec_EpochOf.pts : List (Pt (denR (outTys spec_EpochOf.g.rts spec_EpochOf.g.pms))) := []
theorem spec_EpochOf.hf (k : Nat) (a0 : Int) : (spec_EpochOf.f a0 : Option (denR (outTys spec_EpochOf.g.rts spec_EpochOf.g.pms))) = evC (spec_EpochOf.E k) (fun κ s => lhOf k κ s spec_EpochOf.pts) b127 (OM.start spec_EpochOf.g.pms 0 (a0, ())) (OM.fin spec_EpochOf.g Try.f127.results.toList) := by kernel_rfl
theorem spec_EpochOf.ok (k : Nat) : SmOk Try.prog (spec_EpochOf.sm k) :=
  sm_ok mixed (E := spec_EpochOf.E) (pts := spec_EpochOf.pts) (fun k => ⟨⟨tysOk, by kernel_rfl⟩, forall_cons ⟨spec_PlaceOk.ok k, e152⟩ (forall_nil)⟩) (fun _ => rfl) (fun _ => rfl)
    ⟨Try.func127, by kernel_rfl, by kernel_rfl, by kernel_rfl, by kernel_rfl, by kernel_rfl, by kernel_rfl⟩ (forall_nil) (fun k x => spec_EpochOf.hf k x.1) k
noncomputable def b147 : Code := Try.f147.body.getD .skip
theorem e147 : OM.Entry Try.prog 147 := ⟨_, Try.func147, by kernel_rfl, by kernel_rfl⟩
@[reducible] noncomputable def spec_l3DrawRight.g : Sig := ⟨[.ptr tl1Cur .z .z], [.v tEntry .z], []⟩
@[reducible] noncomputable def spec_l3DrawRight.fk : Nat → denI spec_l3DrawRight.g.pms → Option (denR (outTys spec_l3DrawRight.g.rts spec_l3DrawRight.g.pms)) := fun k x => spec_l3DrawRight.f x.1
@[reducible] noncomputable def spec_l3DrawRight.sm (k : Nat) : Sm := ⟨147, spec_l3DrawRight.g.pms, spec_l3DrawRight.g.rts, spec_l3DrawRight.fk k⟩
noncomputable def spec_l3DrawRight.E (k : Nat) : Env := ⟨tys, [spec_l1Below.sm k, spec_l1Once.sm k, spec_l1Place.sm k, spec_l1Pick.sm k, spec_EpochOf.sm k], [], [], []⟩
noncomputable def spec_l3DrawRight.pts : List (Pt (denR (outTys spec_l3DrawRight.g.rts spec_l3DrawRight.g.pms))) := []
theorem spec_l3DrawRight.hf (k : Nat) (a0 : l1Cur) : (spec_l3DrawRight.f a0 : Option (denR (outTys spec_l3DrawRight.g.rts spec_l3DrawRight.g.pms))) = evC (spec_l3DrawRight.E k) (fun κ s => lhOf k κ s spec_l3DrawRight.pts) b147 (OM.start spec_l3DrawRight.g.pms 0 (a0, ())) (OM.fin spec_l3DrawRight.g Try.f147.results.toList) := by kernel_rfl
theorem spec_l3DrawRight.ok (k : Nat) : SmOk Try.prog (spec_l3DrawRight.sm k) :=
  sm_ok mixed (E := spec_l3DrawRight.E) (pts := spec_l3DrawRight.pts) (fun k => ⟨⟨tysOk, by kernel_rfl⟩, forall_cons ⟨spec_l1Below.ok k, e64⟩ (forall_cons ⟨spec_l1Once.ok k, e70⟩ (forall_cons ⟨spec_l1Place.ok k, e150⟩ (forall_cons ⟨spec_l1Pick.ok k, e162⟩ (forall_cons ⟨spec_EpochOf.ok k, e127⟩ (forall_nil)))))⟩) (fun _ => rfl) (fun _ => rfl)
    ⟨Try.func147, by kernel_rfl, by kernel_rfl, by kernel_rfl, by kernel_rfl, by kernel_rfl, by kernel_rfl⟩ (forall_nil) (fun k x => spec_l3DrawRight.hf k x.1) k
noncomputable def b119 : Code := Try.f119.body.getD .skip
theorem e119 : OM.Entry Try.prog 119 := ⟨_, Try.func119, by kernel_rfl, by kernel_rfl⟩
@[reducible] noncomputable def spec_EntryOk.g : Sig := ⟨[.fz tEntry], [.v .bool .z], []⟩
@[reducible] noncomputable def spec_EntryOk.fk : Nat → denI spec_EntryOk.g.pms → Option (denR (outTys spec_EntryOk.g.rts spec_EntryOk.g.pms)) := fun k x => spec_EntryOk.f k x.1
@[reducible] noncomputable def spec_EntryOk.sm (k : Nat) : Sm := ⟨119, spec_EntryOk.g.pms, spec_EntryOk.g.rts, spec_EntryOk.fk k⟩
noncomputable def spec_EntryOk.E (k : Nat) : Env := ⟨tys, [spec_l1In.sm k, spec_PlaceOk.sm k, spec_EpochOf.sm k], [], [3], []⟩
@[reducible] noncomputable def spec_EntryOk.s6 : List Slot := [.r 4 5 [] tEntry, .v 5 tEntry .z [] 0]
noncomputable def spec_EntryOk.pts : List (Pt (denR (outTys spec_EntryOk.g.rts spec_EntryOk.g.pms))) := [⟨6, spec_EntryOk.s6, fun k x => spec_EntryOk.p6 k x.1⟩]
theorem spec_EntryOk.h6 (k : Nat) (x0 : Entry) : (spec_EntryOk.p6 (k + 1) x0 : Option (denR (outTys spec_EntryOk.g.rts spec_EntryOk.g.pms))) = evAt (spec_EntryOk.E k) (fun κ s => lhOf k κ s spec_EntryOk.pts) 6 b119 (unproj spec_EntryOk.s6 (x0, ())) (OM.fin spec_EntryOk.g Try.f119.results.toList) := by kernel_rfl
theorem spec_EntryOk.hf (k : Nat) (a0 : Entry) : (spec_EntryOk.f k a0 : Option (denR (outTys spec_EntryOk.g.rts spec_EntryOk.g.pms))) = evC (spec_EntryOk.E k) (fun κ s => lhOf k κ s spec_EntryOk.pts) b119 (OM.start spec_EntryOk.g.pms 0 (a0, ())) (OM.fin spec_EntryOk.g Try.f119.results.toList) := by kernel_rfl
theorem spec_EntryOk.ok (k : Nat) : SmOk Try.prog (spec_EntryOk.sm k) :=
  sm_ok mixed (E := spec_EntryOk.E) (pts := spec_EntryOk.pts) (fun k => ⟨⟨tysOk, by kernel_rfl⟩, forall_cons ⟨spec_l1In.ok k, e67⟩ (forall_cons ⟨spec_PlaceOk.ok k, e152⟩ (forall_cons ⟨spec_EpochOf.ok k, e127⟩ (forall_nil)))⟩) (fun _ => rfl) (fun _ => rfl)
    ⟨Try.func119, by kernel_rfl, by kernel_rfl, by kernel_rfl, by kernel_rfl, by kernel_rfl, by kernel_rfl⟩ (forall_cons (fun x => ⟨rfl, fun k => spec_EntryOk.h6 k x.1⟩) (forall_nil)) (fun k x => spec_EntryOk.hf k x.1) k
noncomputable def b65 : Code := Try.f65.body.getD .skip
theorem e65 : OM.Entry Try.prog 65 := ⟨_, Try.func65, by kernel_rfl, by kernel_rfl⟩
@[reducible] noncomputable def spec_l6List.g : Sig := ⟨[.fz (.sl tEntry), .fz (.int .i64)], [.v .bool .z], []⟩
@[reducible] noncomputable def spec_l6List.fk : Nat → denI spec_l6List.g.pms → Option (denR (outTys spec_l6List.g.rts spec_l6List.g.pms)) := fun k x => spec_l6List.f k x.1 x.2.1
@[reducible] noncomputable def spec_l6List.sm (k : Nat) : Sm := ⟨65, spec_l6List.g.pms, spec_l6List.g.rts, spec_l6List.fk k⟩
noncomputable def spec_l6List.E (k : Nat) : Env := ⟨tys, [spec_EntryOk.sm k], [], [], []⟩
@[reducible] noncomputable def spec_l6List.s9 : List Slot := [.v 0 (.sl tEntry) .z [] 0, .v 20 (.int .i64) .z [] 0]
noncomputable def spec_l6List.pts : List (Pt (denR (outTys spec_l6List.g.rts spec_l6List.g.pms))) := [⟨9, spec_l6List.s9, fun k x => spec_l6List.p9 k x.1 x.2.1⟩]
theorem spec_l6List.h9 (k : Nat) (x0 : (List Entry)) (x1 : Int) : (spec_l6List.p9 (k + 1) x0 x1 : Option (denR (outTys spec_l6List.g.rts spec_l6List.g.pms))) = evAt (spec_l6List.E k) (fun κ s => lhOf k κ s spec_l6List.pts) 9 b65 (unproj spec_l6List.s9 (x0, x1, ())) (OM.fin spec_l6List.g Try.f65.results.toList) := by kernel_rfl
theorem spec_l6List.hf (k : Nat) (a0 : (List Entry)) (a1 : Int) : (spec_l6List.f k a0 a1 : Option (denR (outTys spec_l6List.g.rts spec_l6List.g.pms))) = evC (spec_l6List.E k) (fun κ s => lhOf k κ s spec_l6List.pts) b65 (OM.start spec_l6List.g.pms 0 (a0, a1, ())) (OM.fin spec_l6List.g Try.f65.results.toList) := by kernel_rfl
theorem spec_l6List.ok (k : Nat) : SmOk Try.prog (spec_l6List.sm k) :=
  sm_ok mixed (E := spec_l6List.E) (pts := spec_l6List.pts) (fun k => ⟨⟨tysOk, by kernel_rfl⟩, forall_cons ⟨spec_EntryOk.ok k, e119⟩ (forall_nil)⟩) (fun _ => rfl) (fun _ => rfl)
    ⟨Try.func65, by kernel_rfl, by kernel_rfl, by kernel_rfl, by kernel_rfl, by kernel_rfl, by kernel_rfl⟩ (forall_cons (fun x => ⟨rfl, fun k => spec_l6List.h9 k x.1 x.2.1⟩) (forall_nil)) (fun k x => spec_l6List.hf k x.1 x.2.1) k
noncomputable def b66 : Code := Try.f66.body.getD .skip
theorem e66 : OM.Entry Try.prog 66 := ⟨_, Try.func66, by kernel_rfl, by kernel_rfl⟩
@[reducible] noncomputable def spec_l6Asc.g : Sig := ⟨[.fz (.sl tEntry)], [.v .bool .z], []⟩
@[reducible] noncomputable def spec_l6Asc.fk : Nat → denI spec_l6Asc.g.pms → Option (denR (outTys spec_l6Asc.g.rts spec_l6Asc.g.pms)) := fun k x => spec_l6Asc.f k x.1
@[reducible] noncomputable def spec_l6Asc.sm (k : Nat) : Sm := ⟨66, spec_l6Asc.g.pms, spec_l6Asc.g.rts, spec_l6Asc.fk k⟩
noncomputable def spec_l6Asc.E (k : Nat) : Env := ⟨tys, [], [], [], []⟩
@[reducible] noncomputable def spec_l6Asc.s5 : List Slot := [.v 0 (.sl tEntry) .z [] 0, .v 12 (.int .i64) .z [] 0]
noncomputable def spec_l6Asc.pts : List (Pt (denR (outTys spec_l6Asc.g.rts spec_l6Asc.g.pms))) := [⟨5, spec_l6Asc.s5, fun k x => spec_l6Asc.p5 k x.1 x.2.1⟩]
theorem spec_l6Asc.h5 (k : Nat) (x0 : (List Entry)) (x1 : Int) : (spec_l6Asc.p5 (k + 1) x0 x1 : Option (denR (outTys spec_l6Asc.g.rts spec_l6Asc.g.pms))) = evAt (spec_l6Asc.E k) (fun κ s => lhOf k κ s spec_l6Asc.pts) 5 b66 (unproj spec_l6Asc.s5 (x0, x1, ())) (OM.fin spec_l6Asc.g Try.f66.results.toList) := by kernel_rfl
theorem spec_l6Asc.hf (k : Nat) (a0 : (List Entry)) : (spec_l6Asc.f k a0 : Option (denR (outTys spec_l6Asc.g.rts spec_l6Asc.g.pms))) = evC (spec_l6Asc.E k) (fun κ s => lhOf k κ s spec_l6Asc.pts) b66 (OM.start spec_l6Asc.g.pms 0 (a0, ())) (OM.fin spec_l6Asc.g Try.f66.results.toList) := by kernel_rfl
theorem spec_l6Asc.ok (k : Nat) : SmOk Try.prog (spec_l6Asc.sm k) :=
  sm_ok mixed (E := spec_l6Asc.E) (pts := spec_l6Asc.pts) (fun k => ⟨⟨tysOk, by kernel_rfl⟩, forall_nil⟩) (fun _ => rfl) (fun _ => rfl)
    ⟨Try.func66, by kernel_rfl, by kernel_rfl, by kernel_rfl, by kernel_rfl, by kernel_rfl, by kernel_rfl⟩ (forall_cons (fun x => ⟨rfl, fun k => spec_l6Asc.h5 k x.1 x.2.1⟩) (forall_nil)) (fun k x => spec_l6Asc.hf k x.1) k
noncomputable def b21 : Code := Try.f21.body.getD .skip
theorem e21 : OM.Entry Try.prog 21 := ⟨_, Try.func21, by kernel_rfl, by kernel_rfl⟩
@[reducible] noncomputable def spec_StoreOk.g : Sig := ⟨[.fz tStore], [.v .bool .z], []⟩
@[reducible] noncomputable def spec_StoreOk.fk : Nat → denI spec_StoreOk.g.pms → Option (denR (outTys spec_StoreOk.g.rts spec_StoreOk.g.pms)) := fun k x => spec_StoreOk.f k x.1
@[reducible] noncomputable def spec_StoreOk.sm (k : Nat) : Sm := ⟨21, spec_StoreOk.g.pms, spec_StoreOk.g.rts, spec_StoreOk.fk k⟩
noncomputable def spec_StoreOk.E (k : Nat) : Env := ⟨tys, [spec_l1In.sm k, spec_l6List.sm k, spec_l6Asc.sm k], [], [], []⟩
noncomputable def spec_StoreOk.pts : List (Pt (denR (outTys spec_StoreOk.g.rts spec_StoreOk.g.pms))) := []
theorem spec_StoreOk.hf (k : Nat) (a0 : Store) : (spec_StoreOk.f k a0 : Option (denR (outTys spec_StoreOk.g.rts spec_StoreOk.g.pms))) = evC (spec_StoreOk.E k) (fun κ s => lhOf k κ s spec_StoreOk.pts) b21 (OM.start spec_StoreOk.g.pms 0 (a0, ())) (OM.fin spec_StoreOk.g Try.f21.results.toList) := by kernel_rfl
theorem spec_StoreOk.ok (k : Nat) : SmOk Try.prog (spec_StoreOk.sm k) :=
  sm_ok mixed (E := spec_StoreOk.E) (pts := spec_StoreOk.pts) (fun k => ⟨⟨tysOk, by kernel_rfl⟩, forall_cons ⟨spec_l1In.ok k, e67⟩ (forall_cons ⟨spec_l6List.ok k, e65⟩ (forall_cons ⟨spec_l6Asc.ok k, e66⟩ (forall_nil)))⟩) (fun _ => rfl) (fun _ => rfl)
    ⟨Try.func21, by kernel_rfl, by kernel_rfl, by kernel_rfl, by kernel_rfl, by kernel_rfl, by kernel_rfl⟩ (forall_nil) (fun k x => spec_StoreOk.hf k x.1) k
noncomputable def b160 : Code := Try.f160.body.getD .skip
theorem e160 : OM.Entry Try.prog 160 := ⟨_, Try.func160, by kernel_rfl, by kernel_rfl⟩
@[reducible] noncomputable def spec_l6Copy.g : Sig := ⟨[.fz tStore], [.v tStore (.two (.own .z) (.two (.own .z) .z))], []⟩
@[reducible] noncomputable def spec_l6Copy.fk : Nat → denI spec_l6Copy.g.pms → Option (denR (outTys spec_l6Copy.g.rts spec_l6Copy.g.pms)) := fun k x => spec_l6Copy.f x.1
@[reducible] noncomputable def spec_l6Copy.sm (k : Nat) : Sm := ⟨160, spec_l6Copy.g.pms, spec_l6Copy.g.rts, spec_l6Copy.fk k⟩
noncomputable def spec_l6Copy.E (k : Nat) : Env := ⟨tys, [], [12], [], []⟩
noncomputable def spec_l6Copy.pts : List (Pt (denR (outTys spec_l6Copy.g.rts spec_l6Copy.g.pms))) := []
theorem spec_l6Copy.hf (k : Nat) (a0 : Store) : (spec_l6Copy.f a0 : Option (denR (outTys spec_l6Copy.g.rts spec_l6Copy.g.pms))) = evC (spec_l6Copy.E k) (fun κ s => lhOf k κ s spec_l6Copy.pts) b160 (OM.start spec_l6Copy.g.pms 0 (a0, ())) (OM.fin spec_l6Copy.g Try.f160.results.toList) := by kernel_rfl
theorem spec_l6Copy.ok (k : Nat) : SmOk Try.prog (spec_l6Copy.sm k) :=
  sm_ok mixed (E := spec_l6Copy.E) (pts := spec_l6Copy.pts) (fun k => ⟨⟨tysOk, by kernel_rfl⟩, forall_nil⟩) (fun _ => rfl) (fun _ => rfl)
    ⟨Try.func160, by kernel_rfl, by kernel_rfl, by kernel_rfl, by kernel_rfl, by kernel_rfl, by kernel_rfl⟩ (forall_nil) (fun k x => spec_l6Copy.hf k x.1) k
noncomputable def b161 : Code := Try.f161.body.getD .skip
theorem e161 : OM.Entry Try.prog 161 := ⟨_, Try.func161, by kernel_rfl, by kernel_rfl⟩
@[reducible] noncomputable def spec_l6Takes.g : Sig := ⟨[.fz tStore, .fz tEntry], [.v .bool .z], []⟩
@[reducible] noncomputable def spec_l6Takes.fk : Nat → denI spec_l6Takes.g.pms → Option (denR (outTys spec_l6Takes.g.rts spec_l6Takes.g.pms)) := fun k x => spec_l6Takes.f x.1 x.2.1
@[reducible] noncomputable def spec_l6Takes.sm (k : Nat) : Sm := ⟨161, spec_l6Takes.g.pms, spec_l6Takes.g.rts, spec_l6Takes.fk k⟩
noncomputable def spec_l6Takes.E (k : Nat) : Env := ⟨tys, [spec_EpochOf.sm k], [], [], []⟩
noncomputable def spec_l6Takes.pts : List (Pt (denR (outTys spec_l6Takes.g.rts spec_l6Takes.g.pms))) := []
theorem spec_l6Takes.hf (k : Nat) (a0 : Store) (a1 : Entry) : (spec_l6Takes.f a0 a1 : Option (denR (outTys spec_l6Takes.g.rts spec_l6Takes.g.pms))) = evC (spec_l6Takes.E k) (fun κ s => lhOf k κ s spec_l6Takes.pts) b161 (OM.start spec_l6Takes.g.pms 0 (a0, a1, ())) (OM.fin spec_l6Takes.g Try.f161.results.toList) := by kernel_rfl
theorem spec_l6Takes.ok (k : Nat) : SmOk Try.prog (spec_l6Takes.sm k) :=
  sm_ok mixed (E := spec_l6Takes.E) (pts := spec_l6Takes.pts) (fun k => ⟨⟨tysOk, by kernel_rfl⟩, forall_cons ⟨spec_EpochOf.ok k, e127⟩ (forall_nil)⟩) (fun _ => rfl) (fun _ => rfl)
    ⟨Try.func161, by kernel_rfl, by kernel_rfl, by kernel_rfl, by kernel_rfl, by kernel_rfl, by kernel_rfl⟩ (forall_nil) (fun k x => spec_l6Takes.hf k x.1 x.2.1) k
noncomputable def b146 : Code := Try.f146.body.getD .skip
theorem e146 : OM.Entry Try.prog 146 := ⟨_, Try.func146, by kernel_rfl, by kernel_rfl⟩
@[reducible] noncomputable def spec_StorePut.g : Sig := ⟨[.fz tStore, .fz tEntry], [.v tStore (.two (.own .z) (.two (.own .z) .z)), .v .bool .z], []⟩
@[reducible] noncomputable def spec_StorePut.fk : Nat → denI spec_StorePut.g.pms → Option (denR (outTys spec_StorePut.g.rts spec_StorePut.g.pms)) := fun k x => spec_StorePut.f k x.1 x.2.1
@[reducible] noncomputable def spec_StorePut.sm (k : Nat) : Sm := ⟨146, spec_StorePut.g.pms, spec_StorePut.g.rts, spec_StorePut.fk k⟩
noncomputable def spec_StorePut.E (k : Nat) : Env := ⟨tys, [spec_EntryOk.sm k, spec_StoreOk.sm k, spec_l6Copy.sm k, spec_l6Takes.sm k], [31], [], []⟩
noncomputable def spec_StorePut.pts : List (Pt (denR (outTys spec_StorePut.g.rts spec_StorePut.g.pms))) := []
theorem spec_StorePut.hf (k : Nat) (a0 : Store) (a1 : Entry) : (spec_StorePut.f k a0 a1 : Option (denR (outTys spec_StorePut.g.rts spec_StorePut.g.pms))) = evC (spec_StorePut.E k) (fun κ s => lhOf k κ s spec_StorePut.pts) b146 (OM.start spec_StorePut.g.pms 0 (a0, a1, ())) (OM.fin spec_StorePut.g Try.f146.results.toList) := by kernel_rfl
theorem spec_StorePut.ok (k : Nat) : SmOk Try.prog (spec_StorePut.sm k) :=
  sm_ok mixed (E := spec_StorePut.E) (pts := spec_StorePut.pts) (fun k => ⟨⟨tysOk, by kernel_rfl⟩, forall_cons ⟨spec_EntryOk.ok k, e119⟩ (forall_cons ⟨spec_StoreOk.ok k, e21⟩ (forall_cons ⟨spec_l6Copy.ok k, e160⟩ (forall_cons ⟨spec_l6Takes.ok k, e161⟩ (forall_nil))))⟩) (fun _ => rfl) (fun _ => rfl)
    ⟨Try.func146, by kernel_rfl, by kernel_rfl, by kernel_rfl, by kernel_rfl, by kernel_rfl, by kernel_rfl⟩ (forall_nil) (fun k x => spec_StorePut.hf k x.1 x.2.1) k
noncomputable def b143 : Code := Try.f143.body.getD .skip
theorem e143 : OM.Entry Try.prog 143 := ⟨_, Try.func143, by kernel_rfl, by kernel_rfl⟩
@[reducible] noncomputable def spec_Better.g : Sig := ⟨[.fz tEntry, .fz tEntry], [.v tEntry .z], []⟩
@[reducible] noncomputable def spec_Better.fk : Nat → denI spec_Better.g.pms → Option (denR (outTys spec_Better.g.rts spec_Better.g.pms)) := fun k x => spec_Better.f x.1 x.2.1
@[reducible] noncomputable def spec_Better.sm (k : Nat) : Sm := ⟨143, spec_Better.g.pms, spec_Better.g.rts, spec_Better.fk k⟩
noncomputable def spec_Better.E (k : Nat) : Env := ⟨tys, [], [], [], []⟩
noncomputable def spec_Better.pts : List (Pt (denR (outTys spec_Better.g.rts spec_Better.g.pms))) := []
theorem spec_Better.hf (k : Nat) (a0 : Entry) (a1 : Entry) : (spec_Better.f a0 a1 : Option (denR (outTys spec_Better.g.rts spec_Better.g.pms))) = evC (spec_Better.E k) (fun κ s => lhOf k κ s spec_Better.pts) b143 (OM.start spec_Better.g.pms 0 (a0, a1, ())) (OM.fin spec_Better.g Try.f143.results.toList) := by kernel_rfl
theorem spec_Better.ok (k : Nat) : SmOk Try.prog (spec_Better.sm k) :=
  sm_ok mixed (E := spec_Better.E) (pts := spec_Better.pts) (fun k => ⟨⟨tysOk, by kernel_rfl⟩, forall_nil⟩) (fun _ => rfl) (fun _ => rfl)
    ⟨Try.func143, by kernel_rfl, by kernel_rfl, by kernel_rfl, by kernel_rfl, by kernel_rfl, by kernel_rfl⟩ (forall_nil) (fun k x => spec_Better.hf k x.1 x.2.1) k
noncomputable def b113 : Code := Try.f113.body.getD .skip
theorem e113 : OM.Entry Try.prog 113 := ⟨_, Try.func113, by kernel_rfl, by kernel_rfl⟩
@[reducible] noncomputable def spec_l6Keep.g : Sig := ⟨[.fz (.sl tEntry), .fz tEntry], [.v (.sl tEntry) (.own .z)], []⟩
@[reducible] noncomputable def spec_l6Keep.fk : Nat → denI spec_l6Keep.g.pms → Option (denR (outTys spec_l6Keep.g.rts spec_l6Keep.g.pms)) := fun k x => spec_l6Keep.f k x.1 x.2.1
@[reducible] noncomputable def spec_l6Keep.sm (k : Nat) : Sm := ⟨113, spec_l6Keep.g.pms, spec_l6Keep.g.rts, spec_l6Keep.fk k⟩
noncomputable def spec_l6Keep.E (k : Nat) : Env := ⟨tys, [spec_Better.sm k], [56, 62], [9], []⟩
@[reducible] noncomputable def spec_l6Keep.s9 : List Slot := [.v 0 (.sl tEntry) .z [] 0, .r 12 13 [] tEntry, .v 20 (.sl tEntry) (.own .z) [] 0, .v 24 .bool .z [] 0, .v 28 (.int .i64) .z [] 0, .v 13 tEntry .z [] 0]
@[reducible] noncomputable def spec_l6Keep.s18 : List Slot := [.v 0 (.sl tEntry) .z [] 0, .r 12 13 [] tEntry, .v 20 (.sl tEntry) (.own .z) [] 0, .v 24 .bool .z [] 0, .v 28 (.int .i64) .z [] 0, .v 13 tEntry .z [] 0]
noncomputable def spec_l6Keep.pts : List (Pt (denR (outTys spec_l6Keep.g.rts spec_l6Keep.g.pms))) := [⟨9, spec_l6Keep.s9, fun k x => spec_l6Keep.p9 k x.1 x.2.1 x.2.2.1 x.2.2.2.1 x.2.2.2.2.1⟩, ⟨18, spec_l6Keep.s18, fun k x => spec_l6Keep.p18 k x.1 x.2.1 x.2.2.1 x.2.2.2.1 x.2.2.2.2.1⟩]
theorem spec_l6Keep.h9 (k : Nat) (x0 : (List Entry)) (x1 : (List Entry)) (x2 : Bool) (x3 : Int) (x4 : Entry) : (spec_l6Keep.p9 (k + 1) x0 x1 x2 x3 x4 : Option (denR (outTys spec_l6Keep.g.rts spec_l6Keep.g.pms))) = evAt (spec_l6Keep.E k) (fun κ s => lhOf k κ s spec_l6Keep.pts) 9 b113 (unproj spec_l6Keep.s9 (x0, x1, x2, x3, x4, ())) (OM.fin spec_l6Keep.g Try.f113.results.toList) := by kernel_rfl
theorem spec_l6Keep.h18 (k : Nat) (x0 : (List Entry)) (x1 : (List Entry)) (x2 : Bool) (x3 : Int) (x4 : Entry) : (spec_l6Keep.p18 (k + 1) x0 x1 x2 x3 x4 : Option (denR (outTys spec_l6Keep.g.rts spec_l6Keep.g.pms))) = evAt (spec_l6Keep.E k) (fun κ s => lhOf k κ s spec_l6Keep.pts) 18 b113 (unproj spec_l6Keep.s18 (x0, x1, x2, x3, x4, ())) (OM.fin spec_l6Keep.g Try.f113.results.toList) := by kernel_rfl
theorem spec_l6Keep.hf (k : Nat) (a0 : (List Entry)) (a1 : Entry) : (spec_l6Keep.f k a0 a1 : Option (denR (outTys spec_l6Keep.g.rts spec_l6Keep.g.pms))) = evC (spec_l6Keep.E k) (fun κ s => lhOf k κ s spec_l6Keep.pts) b113 (OM.start spec_l6Keep.g.pms 0 (a0, a1, ())) (OM.fin spec_l6Keep.g Try.f113.results.toList) := by kernel_rfl
theorem spec_l6Keep.ok (k : Nat) : SmOk Try.prog (spec_l6Keep.sm k) :=
  sm_ok mixed (E := spec_l6Keep.E) (pts := spec_l6Keep.pts) (fun k => ⟨⟨tysOk, by kernel_rfl⟩, forall_cons ⟨spec_Better.ok k, e143⟩ (forall_nil)⟩) (fun _ => rfl) (fun _ => rfl)
    ⟨Try.func113, by kernel_rfl, by kernel_rfl, by kernel_rfl, by kernel_rfl, by kernel_rfl, by kernel_rfl⟩ (forall_cons (fun x => ⟨rfl, fun k => spec_l6Keep.h9 k x.1 x.2.1 x.2.2.1 x.2.2.2.1 x.2.2.2.2.1⟩) (forall_cons (fun x => ⟨rfl, fun k => spec_l6Keep.h18 k x.1 x.2.1 x.2.2.1 x.2.2.2.1 x.2.2.2.2.1⟩) (forall_nil))) (fun k x => spec_l6Keep.hf k x.1 x.2.1) k
noncomputable def b163 : Code := Try.f163.body.getD .skip
theorem e163 : OM.Entry Try.prog 163 := ⟨_, Try.func163, by kernel_rfl, by kernel_rfl⟩
@[reducible] noncomputable def spec_StoreCrash.g : Sig := ⟨[.fz tStore, .fz (.int .i64)], [.v tStore (.two (.own .z) (.two (.own .z) .z)), .v .bool .z], []⟩
@[reducible] noncomputable def spec_StoreCrash.fk : Nat → denI spec_StoreCrash.g.pms → Option (denR (outTys spec_StoreCrash.g.rts spec_StoreCrash.g.pms)) := fun k x => spec_StoreCrash.f k x.1 x.2.1
@[reducible] noncomputable def spec_StoreCrash.sm (k : Nat) : Sm := ⟨163, spec_StoreCrash.g.pms, spec_StoreCrash.g.rts, spec_StoreCrash.fk k⟩
noncomputable def spec_StoreCrash.E (k : Nat) : Env := ⟨tys, [spec_l1In.sm k, spec_StoreOk.sm k, spec_l6Copy.sm k, spec_l6Keep.sm k], [], [], []⟩
@[reducible] noncomputable def spec_StoreCrash.s11 : List Slot := [.v 4 (.int .i64) .z [] 0, .r 8 9 [] tStore, .r 16 17 [] tStore, .r 24 25 [] tStore, .v 28 (.int .i64) .z [] 0, .v 9 tStore .z [] 0, .v 17 tStore (.two (.own .a) (.two (.own .a) .z)) [] 0, .v 25 tStore (.two (.own .z) (.two (.own .a) .z)) [] 0]
noncomputable def spec_StoreCrash.pts : List (Pt (denR (outTys spec_StoreCrash.g.rts spec_StoreCrash.g.pms))) := [⟨11, spec_StoreCrash.s11, fun k x => spec_StoreCrash.p11 k x.1 x.2.1 x.2.2.1 x.2.2.2.1 x.2.2.2.2.1⟩]
theorem spec_StoreCrash.h11 (k : Nat) (x0 : Int) (x1 : Int) (x2 : Store) (x3 : Store) (x4 : Store) : (spec_StoreCrash.p11 (k + 1) x0 x1 x2 x3 x4 : Option (denR (outTys spec_StoreCrash.g.rts spec_StoreCrash.g.pms))) = evAt (spec_StoreCrash.E k) (fun κ s => lhOf k κ s spec_StoreCrash.pts) 11 b163 (unproj spec_StoreCrash.s11 (x0, x1, x2, x3, x4, ())) (OM.fin spec_StoreCrash.g Try.f163.results.toList) := by kernel_rfl
theorem spec_StoreCrash.hf (k : Nat) (a0 : Store) (a1 : Int) : (spec_StoreCrash.f k a0 a1 : Option (denR (outTys spec_StoreCrash.g.rts spec_StoreCrash.g.pms))) = evC (spec_StoreCrash.E k) (fun κ s => lhOf k κ s spec_StoreCrash.pts) b163 (OM.start spec_StoreCrash.g.pms 0 (a0, a1, ())) (OM.fin spec_StoreCrash.g Try.f163.results.toList) := by kernel_rfl
theorem spec_StoreCrash.ok (k : Nat) : SmOk Try.prog (spec_StoreCrash.sm k) :=
  sm_ok mixed (E := spec_StoreCrash.E) (pts := spec_StoreCrash.pts) (fun k => ⟨⟨tysOk, by kernel_rfl⟩, forall_cons ⟨spec_l1In.ok k, e67⟩ (forall_cons ⟨spec_StoreOk.ok k, e21⟩ (forall_cons ⟨spec_l6Copy.ok k, e160⟩ (forall_cons ⟨spec_l6Keep.ok k, e113⟩ (forall_nil))))⟩) (fun _ => rfl) (fun _ => rfl)
    ⟨Try.func163, by kernel_rfl, by kernel_rfl, by kernel_rfl, by kernel_rfl, by kernel_rfl, by kernel_rfl⟩ (forall_cons (fun x => ⟨rfl, fun k => spec_StoreCrash.h11 k x.1 x.2.1 x.2.2.1 x.2.2.2.1 x.2.2.2.2.1⟩) (forall_nil)) (fun k x => spec_StoreCrash.hf k x.1 x.2.1) k
noncomputable def b148 : Code := Try.f148.body.getD .skip
theorem e148 : OM.Entry Try.prog 148 := ⟨_, Try.func148, by kernel_rfl, by kernel_rfl⟩
@[reducible] noncomputable def spec_StoreSync.g : Sig := ⟨[.fz tStore], [.v tStore (.two (.own .z) (.two (.own .z) .z)), .v .bool .z], []⟩
@[reducible] noncomputable def spec_StoreSync.fk : Nat → denI spec_StoreSync.g.pms → Option (denR (outTys spec_StoreSync.g.rts spec_StoreSync.g.pms)) := fun k x => spec_StoreSync.f k x.1
@[reducible] noncomputable def spec_StoreSync.sm (k : Nat) : Sm := ⟨148, spec_StoreSync.g.pms, spec_StoreSync.g.rts, spec_StoreSync.fk k⟩
noncomputable def spec_StoreSync.E (k : Nat) : Env := ⟨tys, [spec_StoreCrash.sm k], [], [], []⟩
noncomputable def spec_StoreSync.pts : List (Pt (denR (outTys spec_StoreSync.g.rts spec_StoreSync.g.pms))) := []
theorem spec_StoreSync.hf (k : Nat) (a0 : Store) : (spec_StoreSync.f k a0 : Option (denR (outTys spec_StoreSync.g.rts spec_StoreSync.g.pms))) = evC (spec_StoreSync.E k) (fun κ s => lhOf k κ s spec_StoreSync.pts) b148 (OM.start spec_StoreSync.g.pms 0 (a0, ())) (OM.fin spec_StoreSync.g Try.f148.results.toList) := by kernel_rfl
theorem spec_StoreSync.ok (k : Nat) : SmOk Try.prog (spec_StoreSync.sm k) :=
  sm_ok mixed (E := spec_StoreSync.E) (pts := spec_StoreSync.pts) (fun k => ⟨⟨tysOk, by kernel_rfl⟩, forall_cons ⟨spec_StoreCrash.ok k, e163⟩ (forall_nil)⟩) (fun _ => rfl) (fun _ => rfl)
    ⟨Try.func148, by kernel_rfl, by kernel_rfl, by kernel_rfl, by kernel_rfl, by kernel_rfl, by kernel_rfl⟩ (forall_nil) (fun k x => spec_StoreSync.hf k x.1) k
noncomputable def b135 : Code := Try.f135.body.getD .skip
theorem e135 : OM.Entry Try.prog 135 := ⟨_, Try.func135, by kernel_rfl, by kernel_rfl⟩
@[reducible] noncomputable def spec_l1Max.g : Sig := ⟨[.fz (.int .i64), .fz (.int .i64)], [.v (.int .i64) .z], []⟩
@[reducible] noncomputable def spec_l1Max.fk : Nat → denI spec_l1Max.g.pms → Option (denR (outTys spec_l1Max.g.rts spec_l1Max.g.pms)) := fun k x => spec_l1Max.f x.1 x.2.1
@[reducible] noncomputable def spec_l1Max.sm (k : Nat) : Sm := ⟨135, spec_l1Max.g.pms, spec_l1Max.g.rts, spec_l1Max.fk k⟩
noncomputable def spec_l1Max.E (k : Nat) : Env := ⟨tys, [], [], [], []⟩
noncomputable def spec_l1Max.pts : List (Pt (denR (outTys spec_l1Max.g.rts spec_l1Max.g.pms))) := []
theorem spec_l1Max.hf (k : Nat) (a0 : Int) (a1 : Int) : (spec_l1Max.f a0 a1 : Option (denR (outTys spec_l1Max.g.rts spec_l1Max.g.pms))) = evC (spec_l1Max.E k) (fun κ s => lhOf k κ s spec_l1Max.pts) b135 (OM.start spec_l1Max.g.pms 0 (a0, a1, ())) (OM.fin spec_l1Max.g Try.f135.results.toList) := by kernel_rfl
theorem spec_l1Max.ok (k : Nat) : SmOk Try.prog (spec_l1Max.sm k) :=
  sm_ok mixed (E := spec_l1Max.E) (pts := spec_l1Max.pts) (fun k => ⟨⟨tysOk, by kernel_rfl⟩, forall_nil⟩) (fun _ => rfl) (fun _ => rfl)
    ⟨Try.func135, by kernel_rfl, by kernel_rfl, by kernel_rfl, by kernel_rfl, by kernel_rfl, by kernel_rfl⟩ (forall_nil) (fun k x => spec_l1Max.hf k x.1 x.2.1) k
noncomputable def b149 : Code := Try.f149.body.getD .skip
theorem e149 : OM.Entry Try.prog 149 := ⟨_, Try.func149, by kernel_rfl, by kernel_rfl⟩
@[reducible] noncomputable def spec_StoreSeal.g : Sig := ⟨[.fz tStore, .fz (.int .i64)], [.v tStore (.two (.own .z) (.two (.own .z) .z)), .v .bool .z], []⟩
@[reducible] noncomputable def spec_StoreSeal.fk : Nat → denI spec_StoreSeal.g.pms → Option (denR (outTys spec_StoreSeal.g.rts spec_StoreSeal.g.pms)) := fun k x => spec_StoreSeal.f k x.1 x.2.1
@[reducible] noncomputable def spec_StoreSeal.sm (k : Nat) : Sm := ⟨149, spec_StoreSeal.g.pms, spec_StoreSeal.g.rts, spec_StoreSeal.fk k⟩
noncomputable def spec_StoreSeal.E (k : Nat) : Env := ⟨tys, [spec_l1In.sm k, spec_StoreOk.sm k, spec_l6Copy.sm k, spec_StoreSync.sm k, spec_l1Max.sm k], [], [], []⟩
noncomputable def spec_StoreSeal.pts : List (Pt (denR (outTys spec_StoreSeal.g.rts spec_StoreSeal.g.pms))) := []
theorem spec_StoreSeal.hf (k : Nat) (a0 : Store) (a1 : Int) : (spec_StoreSeal.f k a0 a1 : Option (denR (outTys spec_StoreSeal.g.rts spec_StoreSeal.g.pms))) = evC (spec_StoreSeal.E k) (fun κ s => lhOf k κ s spec_StoreSeal.pts) b149 (OM.start spec_StoreSeal.g.pms 0 (a0, a1, ())) (OM.fin spec_StoreSeal.g Try.f149.results.toList) := by kernel_rfl
theorem spec_StoreSeal.ok (k : Nat) : SmOk Try.prog (spec_StoreSeal.sm k) :=
  sm_ok mixed (E := spec_StoreSeal.E) (pts := spec_StoreSeal.pts) (fun k => ⟨⟨tysOk, by kernel_rfl⟩, forall_cons ⟨spec_l1In.ok k, e67⟩ (forall_cons ⟨spec_StoreOk.ok k, e21⟩ (forall_cons ⟨spec_l6Copy.ok k, e160⟩ (forall_cons ⟨spec_StoreSync.ok k, e148⟩ (forall_cons ⟨spec_l1Max.ok k, e135⟩ (forall_nil)))))⟩) (fun _ => rfl) (fun _ => rfl)
    ⟨Try.func149, by kernel_rfl, by kernel_rfl, by kernel_rfl, by kernel_rfl, by kernel_rfl, by kernel_rfl⟩ (forall_nil) (fun k x => spec_StoreSeal.hf k x.1 x.2.1) k
noncomputable def b116 : Code := Try.f116.body.getD .skip
theorem e116 : OM.Entry Try.prog 116 := ⟨_, Try.func116, by kernel_rfl, by kernel_rfl⟩
@[reducible] noncomputable def spec_l6DrawRight.g : Sig := ⟨[.ptr tl1Cur .z .z], [.v tStore (.two (.own .z) (.two (.own .z) .z))], []⟩
@[reducible] noncomputable def spec_l6DrawRight.fk : Nat → denI spec_l6DrawRight.g.pms → Option (denR (outTys spec_l6DrawRight.g.rts spec_l6DrawRight.g.pms)) := fun k x => spec_l6DrawRight.f k x.1
@[reducible] noncomputable def spec_l6DrawRight.sm (k : Nat) : Sm := ⟨116, spec_l6DrawRight.g.pms, spec_l6DrawRight.g.rts, spec_l6DrawRight.fk k⟩
noncomputable def spec_l6DrawRight.E (k : Nat) : Env := ⟨tys, [spec_l1Below.sm k, spec_l1Once.sm k, spec_l1Place.sm k, spec_l3DrawRight.sm k, spec_StorePut.sm k, spec_StoreSync.sm k, spec_StoreSeal.sm k], [53], [], []⟩
@[reducible] noncomputable def spec_l6DrawRight.s9 : List Slot := [.r 0 36001 [] tl1Cur, .r 8 9 [] tStore, .r 12 13 [] tStore, .v 16 (.int .i64) .z [] 0, .v 20 (.int .i64) .z [] 0, .v 9 tStore (.two (.own .a) (.two (.own .a) .z)) [] 0, .v 13 tStore (.two (.own .z) (.two (.own .z) .z)) [] 0, .v 36001 tl1Cur .z [] 0]
@[reducible] noncomputable def spec_l6DrawRight.s41 : List Slot := [.r 0 36001 [] tl1Cur, .r 8 9 [] tStore, .r 12 13 [] tStore, .v 32 (.int .i64) .z [] 0, .v 9 tStore (.two (.own .a) (.two (.own .a) .z)) [] 0, .v 13 tStore (.two (.own .z) (.two (.own .z) .z)) [] 0, .v 36001 tl1Cur .z [] 0]
@[reducible] noncomputable def spec_l6DrawRight.s47 : List Slot := [.r 0 36001 [] tl1Cur, .r 8 9 [] tStore, .r 12 13 [] tStore, .v 32 (.int .i64) .z [] 0, .v 36 (.int .i64) .z [] 0, .v 9 tStore (.two (.own .a) (.two (.own .a) .z)) [] 0, .v 13 tStore (.two (.own .z) (.two (.own .z) .z)) [] 0, .v 36001 tl1Cur .z [] 0]
noncomputable def spec_l6DrawRight.pts : List (Pt (denR (outTys spec_l6DrawRight.g.rts spec_l6DrawRight.g.pms))) := [⟨9, spec_l6DrawRight.s9, fun k x => spec_l6DrawRight.p9 k x.1 x.2.1 x.2.2.1 x.2.2.2.1 x.2.2.2.2.1⟩, ⟨41, spec_l6DrawRight.s41, fun k x => spec_l6DrawRight.p41 k x.1 x.2.1 x.2.2.1 x.2.2.2.1⟩, ⟨47, spec_l6DrawRight.s47, fun k x => spec_l6DrawRight.p47 k x.1 x.2.1 x.2.2.1 x.2.2.2.1 x.2.2.2.2.1⟩]
theorem spec_l6DrawRight.h9 (k : Nat) (x0 : Int) (x1 : Int) (x2 : Store) (x3 : Store) (x4 : l1Cur) : (spec_l6DrawRight.p9 (k + 1) x0 x1 x2 x3 x4 : Option (denR (outTys spec_l6DrawRight.g.rts spec_l6DrawRight.g.pms))) = evAt (spec_l6DrawRight.E k) (fun κ s => lhOf k κ s spec_l6DrawRight.pts) 9 b116 (unproj spec_l6DrawRight.s9 (x0, x1, x2, x3, x4, ())) (OM.fin spec_l6DrawRight.g Try.f116.results.toList) := by kernel_rfl
theorem spec_l6DrawRight.h41 (k : Nat) (x0 : Int) (x1 : Store) (x2 : Store) (x3 : l1Cur) : (spec_l6DrawRight.p41 (k + 1) x0 x1 x2 x3 : Option (denR (outTys spec_l6DrawRight.g.rts spec_l6DrawRight.g.pms))) = evAt (spec_l6DrawRight.E k) (fun κ s => lhOf k κ s spec_l6DrawRight.pts) 41 b116 (unproj spec_l6DrawRight.s41 (x0, x1, x2, x3, ())) (OM.fin spec_l6DrawRight.g Try.f116.results.toList) := by kernel_rfl
theorem spec_l6DrawRight.h47 (k : Nat) (x0 : Int) (x1 : Int) (x2 : Store) (x3 : Store) (x4 : l1Cur) : (spec_l6DrawRight.p47 (k + 1) x0 x1 x2 x3 x4 : Option (denR (outTys spec_l6DrawRight.g.rts spec_l6DrawRight.g.pms))) = evAt (spec_l6DrawRight.E k) (fun κ s => lhOf k κ s spec_l6DrawRight.pts) 47 b116 (unproj spec_l6DrawRight.s47 (x0, x1, x2, x3, x4, ())) (OM.fin spec_l6DrawRight.g Try.f116.results.toList) := by kernel_rfl
theorem spec_l6DrawRight.hf (k : Nat) (a0 : l1Cur) : (spec_l6DrawRight.f k a0 : Option (denR (outTys spec_l6DrawRight.g.rts spec_l6DrawRight.g.pms))) = evC (spec_l6DrawRight.E k) (fun κ s => lhOf k κ s spec_l6DrawRight.pts) b116 (OM.start spec_l6DrawRight.g.pms 0 (a0, ())) (OM.fin spec_l6DrawRight.g Try.f116.results.toList) := by kernel_rfl
theorem spec_l6DrawRight.ok (k : Nat) : SmOk Try.prog (spec_l6DrawRight.sm k) :=
  sm_ok mixed (E := spec_l6DrawRight.E) (pts := spec_l6DrawRight.pts) (fun k => ⟨⟨tysOk, by kernel_rfl⟩, forall_cons ⟨spec_l1Below.ok k, e64⟩ (forall_cons ⟨spec_l1Once.ok k, e70⟩ (forall_cons ⟨spec_l1Place.ok k, e150⟩ (forall_cons ⟨spec_l3DrawRight.ok k, e147⟩ (forall_cons ⟨spec_StorePut.ok k, e146⟩ (forall_cons ⟨spec_StoreSync.ok k, e148⟩ (forall_cons ⟨spec_StoreSeal.ok k, e149⟩ (forall_nil)))))))⟩) (fun _ => rfl) (fun _ => rfl)
    ⟨Try.func116, by kernel_rfl, by kernel_rfl, by kernel_rfl, by kernel_rfl, by kernel_rfl, by kernel_rfl⟩ (forall_cons (fun x => ⟨rfl, fun k => spec_l6DrawRight.h9 k x.1 x.2.1 x.2.2.1 x.2.2.2.1 x.2.2.2.2.1⟩) (forall_cons (fun x => ⟨rfl, fun k => spec_l6DrawRight.h41 k x.1 x.2.1 x.2.2.1 x.2.2.2.1⟩) (forall_cons (fun x => ⟨rfl, fun k => spec_l6DrawRight.h47 k x.1 x.2.1 x.2.2.1 x.2.2.2.1 x.2.2.2.2.1⟩) (forall_nil)))) (fun k x => spec_l6DrawRight.hf k x.1) k
noncomputable def b72 : Code := Try.f72.body.getD .skip
theorem e72 : OM.Entry Try.prog 72 := ⟨_, Try.func72, by kernel_rfl, by kernel_rfl⟩
@[reducible] noncomputable def spec_l1PickInt.g : Sig := ⟨[.ptr tl1Cur .z .z, .fz (.sl (.int .i64))], [.v (.int .i64) .z], []⟩
@[reducible] noncomputable def spec_l1PickInt.fk : Nat → denI spec_l1PickInt.g.pms → Option (denR (outTys spec_l1PickInt.g.rts spec_l1PickInt.g.pms)) := fun k x => spec_l1PickInt.f x.1 x.2.1
@[reducible] noncomputable def spec_l1PickInt.sm (k : Nat) : Sm := ⟨72, spec_l1PickInt.g.pms, spec_l1PickInt.g.rts, spec_l1PickInt.fk k⟩
noncomputable def spec_l1PickInt.E (k : Nat) : Env := ⟨tys, [spec_l1Below.sm k], [], [], []⟩
noncomputable def spec_l1PickInt.pts : List (Pt (denR (outTys spec_l1PickInt.g.rts spec_l1PickInt.g.pms))) := []
theorem spec_l1PickInt.hf (k : Nat) (a0 : l1Cur) (a1 : (List Int)) : (spec_l1PickInt.f a0 a1 : Option (denR (outTys spec_l1PickInt.g.rts spec_l1PickInt.g.pms))) = evC (spec_l1PickInt.E k) (fun κ s => lhOf k κ s spec_l1PickInt.pts) b72 (OM.start spec_l1PickInt.g.pms 0 (a0, a1, ())) (OM.fin spec_l1PickInt.g Try.f72.results.toList) := by kernel_rfl
theorem spec_l1PickInt.ok (k : Nat) : SmOk Try.prog (spec_l1PickInt.sm k) :=
  sm_ok mixed (E := spec_l1PickInt.E) (pts := spec_l1PickInt.pts) (fun k => ⟨⟨tysOk, by kernel_rfl⟩, forall_cons ⟨spec_l1Below.ok k, e64⟩ (forall_nil)⟩) (fun _ => rfl) (fun _ => rfl)
    ⟨Try.func72, by kernel_rfl, by kernel_rfl, by kernel_rfl, by kernel_rfl, by kernel_rfl, by kernel_rfl⟩ (forall_nil) (fun k x => spec_l1PickInt.hf k x.1 x.2.1) k
noncomputable def b164 : Code := Try.f164.body.getD .skip
theorem e164 : OM.Entry Try.prog 164 := ⟨_, Try.func164, by kernel_rfl, by kernel_rfl⟩
@[reducible] noncomputable def spec_l1DrawPlace.g : Sig := ⟨[.ptr tl1Cur .z .z], [.v (.int .i64) .z], []⟩
@[reducible] noncomputable def spec_l1DrawPlace.fk : Nat → denI spec_l1DrawPlace.g.pms → Option (denR (outTys spec_l1DrawPlace.g.rts spec_l1DrawPlace.g.pms)) := fun k x => spec_l1DrawPlace.f x.1
@[reducible] noncomputable def spec_l1DrawPlace.sm (k : Nat) : Sm := ⟨164, spec_l1DrawPlace.g.pms, spec_l1DrawPlace.g.rts, spec_l1DrawPlace.fk k⟩
noncomputable def spec_l1DrawPlace.E (k : Nat) : Env := ⟨tys, [spec_l1Below.sm k, spec_l1Place.sm k, spec_l1PickInt.sm k], [], [], []⟩
noncomputable def spec_l1DrawPlace.pts : List (Pt (denR (outTys spec_l1DrawPlace.g.rts spec_l1DrawPlace.g.pms))) := []
theorem spec_l1DrawPlace.hf (k : Nat) (a0 : l1Cur) : (spec_l1DrawPlace.f a0 : Option (denR (outTys spec_l1DrawPlace.g.rts spec_l1DrawPlace.g.pms))) = evC (spec_l1DrawPlace.E k) (fun κ s => lhOf k κ s spec_l1DrawPlace.pts) b164 (OM.start spec_l1DrawPlace.g.pms 0 (a0, ())) (OM.fin spec_l1DrawPlace.g Try.f164.results.toList) := by kernel_rfl
theorem spec_l1DrawPlace.ok (k : Nat) : SmOk Try.prog (spec_l1DrawPlace.sm k) :=
  sm_ok mixed (E := spec_l1DrawPlace.E) (pts := spec_l1DrawPlace.pts) (fun k => ⟨⟨tysOk, by kernel_rfl⟩, forall_cons ⟨spec_l1Below.ok k, e64⟩ (forall_cons ⟨spec_l1Place.ok k, e150⟩ (forall_cons ⟨spec_l1PickInt.ok k, e72⟩ (forall_nil)))⟩) (fun _ => rfl) (fun _ => rfl)
    ⟨Try.func164, by kernel_rfl, by kernel_rfl, by kernel_rfl, by kernel_rfl, by kernel_rfl, by kernel_rfl⟩ (forall_nil) (fun k x => spec_l1DrawPlace.hf k x.1) k
noncomputable def b151 : Code := Try.f151.body.getD .skip
theorem e151 : OM.Entry Try.prog 151 := ⟨_, Try.func151, by kernel_rfl, by kernel_rfl⟩
@[reducible] noncomputable def spec_l3Draw.g : Sig := ⟨[.ptr tl1Cur .z .z], [.v tEntry .z], []⟩
@[reducible] noncomputable def spec_l3Draw.fk : Nat → denI spec_l3Draw.g.pms → Option (denR (outTys spec_l3Draw.g.rts spec_l3Draw.g.pms)) := fun k x => spec_l3Draw.f x.1
@[reducible] noncomputable def spec_l3Draw.sm (k : Nat) : Sm := ⟨151, spec_l3Draw.g.pms, spec_l3Draw.g.rts, spec_l3Draw.fk k⟩
noncomputable def spec_l3Draw.E (k : Nat) : Env := ⟨tys, [spec_l1Below.sm k, spec_l3DrawRight.sm k, spec_l1PickInt.sm k, spec_l1DrawPlace.sm k], [], [], []⟩
noncomputable def spec_l3Draw.pts : List (Pt (denR (outTys spec_l3Draw.g.rts spec_l3Draw.g.pms))) := []
theorem spec_l3Draw.hf (k : Nat) (a0 : l1Cur) : (spec_l3Draw.f a0 : Option (denR (outTys spec_l3Draw.g.rts spec_l3Draw.g.pms))) = evC (spec_l3Draw.E k) (fun κ s => lhOf k κ s spec_l3Draw.pts) b151 (OM.start spec_l3Draw.g.pms 0 (a0, ())) (OM.fin spec_l3Draw.g Try.f151.results.toList) := by kernel_rfl
theorem spec_l3Draw.ok (k : Nat) : SmOk Try.prog (spec_l3Draw.sm k) :=
  sm_ok mixed (E := spec_l3Draw.E) (pts := spec_l3Draw.pts) (fun k => ⟨⟨tysOk, by kernel_rfl⟩, forall_cons ⟨spec_l1Below.ok k, e64⟩ (forall_cons ⟨spec_l3DrawRight.ok k, e147⟩ (forall_cons ⟨spec_l1PickInt.ok k, e72⟩ (forall_cons ⟨spec_l1DrawPlace.ok k, e164⟩ (forall_nil))))⟩) (fun _ => rfl) (fun _ => rfl)
    ⟨Try.func151, by kernel_rfl, by kernel_rfl, by kernel_rfl, by kernel_rfl, by kernel_rfl, by kernel_rfl⟩ (forall_nil) (fun k x => spec_l3Draw.hf k x.1) k
noncomputable def b117 : Code := Try.f117.body.getD .skip
theorem e117 : OM.Entry Try.prog 117 := ⟨_, Try.func117, by kernel_rfl, by kernel_rfl⟩
@[reducible] noncomputable def spec_l6Draw.g : Sig := ⟨[.ptr tl1Cur .z .z], [.v tStore (.two (.own .z) (.two (.own .z) .z))], []⟩
@[reducible] noncomputable def spec_l6Draw.fk : Nat → denI spec_l6Draw.g.pms → Option (denR (outTys spec_l6Draw.g.rts spec_l6Draw.g.pms)) := fun k x => spec_l6Draw.f k x.1
@[reducible] noncomputable def spec_l6Draw.sm (k : Nat) : Sm := ⟨117, spec_l6Draw.g.pms, spec_l6Draw.g.rts, spec_l6Draw.fk k⟩
noncomputable def spec_l6Draw.E (k : Nat) : Env := ⟨tys, [spec_l1Below.sm k, spec_l1Place.sm k, spec_l6DrawRight.sm k, spec_l1PickInt.sm k, spec_l3Draw.sm k], [], [], []⟩
@[reducible] noncomputable def spec_l6Draw.s21 : List Slot := [.r 0 36001 [] tl1Cur, .r 8 9 [] tStore, .r 12 13 [] tStore, .v 9 tStore (.two (.own .a) (.two (.own .a) .z)) [] 0, .v 13 tStore (.two (.own .z) (.two (.own .z) .z)) [] 0, .v 36001 tl1Cur .z [] 0]
noncomputable def spec_l6Draw.pts : List (Pt (denR (outTys spec_l6Draw.g.rts spec_l6Draw.g.pms))) := [⟨21, spec_l6Draw.s21, fun k x => spec_l6Draw.p21 k x.1 x.2.1 x.2.2.1⟩]
theorem spec_l6Draw.h21 (k : Nat) (x0 : Store) (x1 : Store) (x2 : l1Cur) : (spec_l6Draw.p21 (k + 1) x0 x1 x2 : Option (denR (outTys spec_l6Draw.g.rts spec_l6Draw.g.pms))) = evAt (spec_l6Draw.E k) (fun κ s => lhOf k κ s spec_l6Draw.pts) 21 b117 (unproj spec_l6Draw.s21 (x0, x1, x2, ())) (OM.fin spec_l6Draw.g Try.f117.results.toList) := by kernel_rfl
theorem spec_l6Draw.hf (k : Nat) (a0 : l1Cur) : (spec_l6Draw.f k a0 : Option (denR (outTys spec_l6Draw.g.rts spec_l6Draw.g.pms))) = evC (spec_l6Draw.E k) (fun κ s => lhOf k κ s spec_l6Draw.pts) b117 (OM.start spec_l6Draw.g.pms 0 (a0, ())) (OM.fin spec_l6Draw.g Try.f117.results.toList) := by kernel_rfl
theorem spec_l6Draw.ok (k : Nat) : SmOk Try.prog (spec_l6Draw.sm k) :=
  sm_ok mixed (E := spec_l6Draw.E) (pts := spec_l6Draw.pts) (fun k => ⟨⟨tysOk, by kernel_rfl⟩, forall_cons ⟨spec_l1Below.ok k, e64⟩ (forall_cons ⟨spec_l1Place.ok k, e150⟩ (forall_cons ⟨spec_l6DrawRight.ok k, e116⟩ (forall_cons ⟨spec_l1PickInt.ok k, e72⟩ (forall_cons ⟨spec_l3Draw.ok k, e151⟩ (forall_nil)))))⟩) (fun _ => rfl) (fun _ => rfl)
    ⟨Try.func117, by kernel_rfl, by kernel_rfl, by kernel_rfl, by kernel_rfl, by kernel_rfl, by kernel_rfl⟩ (forall_cons (fun x => ⟨rfl, fun k => spec_l6Draw.h21 k x.1 x.2.1 x.2.2.1⟩) (forall_nil)) (fun k x => spec_l6Draw.hf k x.1) k
noncomputable def b63 : Code := Try.f63.body.getD .skip
theorem e63 : OM.Entry Try.prog 63 := ⟨_, Try.func63, by kernel_rfl, by kernel_rfl⟩
@[reducible] noncomputable def spec_l11DrawStores.g : Sig := ⟨[.ptr tl1Cur .z .z, .fz (.int .i64)], [.v (.sl tStore) (.own (.two (.own .z) (.two (.own .z) .z)))], []⟩
@[reducible] noncomputable def spec_l11DrawStores.fk : Nat → denI spec_l11DrawStores.g.pms → Option (denR (outTys spec_l11DrawStores.g.rts spec_l11DrawStores.g.pms)) := fun k x => spec_l11DrawStores.f k x.1 x.2.1
@[reducible] noncomputable def spec_l11DrawStores.sm (k : Nat) : Sm := ⟨63, spec_l11DrawStores.g.pms, spec_l11DrawStores.g.rts, spec_l11DrawStores.fk k⟩
noncomputable def spec_l11DrawStores.E (k : Nat) : Env := ⟨tys, [spec_l1Below.sm k, spec_l1Once.sm k, spec_l6DrawRight.sm k, spec_l6Draw.sm k], [], [], []⟩
@[reducible] noncomputable def spec_l11DrawStores.s7 : List Slot := [.r 0 36001 [] tl1Cur, .v 4 (.int .i64) .z [] 0, .v 20 (.sl tStore) (.own (.two (.own .z) (.two (.own .z) .z))) [] 0, .v 24 (.int .i64) .z [] 0, .v 36001 tl1Cur .z [] 0]
noncomputable def spec_l11DrawStores.pts : List (Pt (denR (outTys spec_l11DrawStores.g.rts spec_l11DrawStores.g.pms))) := [⟨7, spec_l11DrawStores.s7, fun k x => spec_l11DrawStores.p7 k x.1 x.2.1 x.2.2.1 x.2.2.2.1⟩]
theorem spec_l11DrawStores.h7 (k : Nat) (x0 : Int) (x1 : (List Store)) (x2 : Int) (x3 : l1Cur) : (spec_l11DrawStores.p7 (k + 1) x0 x1 x2 x3 : Option (denR (outTys spec_l11DrawStores.g.rts spec_l11DrawStores.g.pms))) = evAt (spec_l11DrawStores.E k) (fun κ s => lhOf k κ s spec_l11DrawStores.pts) 7 b63 (unproj spec_l11DrawStores.s7 (x0, x1, x2, x3, ())) (OM.fin spec_l11DrawStores.g Try.f63.results.toList) := by kernel_rfl
theorem spec_l11DrawStores.hf (k : Nat) (a0 : l1Cur) (a1 : Int) : (spec_l11DrawStores.f k a0 a1 : Option (denR (outTys spec_l11DrawStores.g.rts spec_l11DrawStores.g.pms))) = evC (spec_l11DrawStores.E k) (fun κ s => lhOf k κ s spec_l11DrawStores.pts) b63 (OM.start spec_l11DrawStores.g.pms 0 (a0, a1, ())) (OM.fin spec_l11DrawStores.g Try.f63.results.toList) := by kernel_rfl
theorem spec_l11DrawStores.ok (k : Nat) : SmOk Try.prog (spec_l11DrawStores.sm k) :=
  sm_ok mixed (E := spec_l11DrawStores.E) (pts := spec_l11DrawStores.pts) (fun k => ⟨⟨tysOk, by kernel_rfl⟩, forall_cons ⟨spec_l1Below.ok k, e64⟩ (forall_cons ⟨spec_l1Once.ok k, e70⟩ (forall_cons ⟨spec_l6DrawRight.ok k, e116⟩ (forall_cons ⟨spec_l6Draw.ok k, e117⟩ (forall_nil))))⟩) (fun _ => rfl) (fun _ => rfl)
    ⟨Try.func63, by kernel_rfl, by kernel_rfl, by kernel_rfl, by kernel_rfl, by kernel_rfl, by kernel_rfl⟩ (forall_cons (fun x => ⟨rfl, fun k => spec_l11DrawStores.h7 k x.1 x.2.1 x.2.2.1 x.2.2.2.1⟩) (forall_nil)) (fun k x => spec_l11DrawStores.hf k x.1 x.2.1) k
noncomputable def b75 : Code := Try.f75.body.getD .skip
theorem e75 : OM.Entry Try.prog 75 := ⟨_, Try.func75, by kernel_rfl, by kernel_rfl⟩
@[reducible] noncomputable def spec_l4Has.g : Sig := ⟨[.fz (.sl (.int .i64)), .fz (.int .i64)], [.v .bool .z], []⟩
@[reducible] noncomputable def spec_l4Has.fk : Nat → denI spec_l4Has.g.pms → Option (denR (outTys spec_l4Has.g.rts spec_l4Has.g.pms)) := fun k x => spec_l4Has.f k x.1 x.2.1
@[reducible] noncomputable def spec_l4Has.sm (k : Nat) : Sm := ⟨75, spec_l4Has.g.pms, spec_l4Has.g.rts, spec_l4Has.fk k⟩
noncomputable def spec_l4Has.E (k : Nat) : Env := ⟨tys, [], [], [], []⟩
@[reducible] noncomputable def spec_l4Has.s5 : List Slot := [.v 0 (.sl (.int .i64)) .z [] 0, .v 4 (.int .i64) .z [] 0, .v 20 (.int .i64) .z [] 0]
noncomputable def spec_l4Has.pts : List (Pt (denR (outTys spec_l4Has.g.rts spec_l4Has.g.pms))) := [⟨5, spec_l4Has.s5, fun k x => spec_l4Has.p5 k x.1 x.2.1 x.2.2.1⟩]
theorem spec_l4Has.h5 (k : Nat) (x0 : (List Int)) (x1 : Int) (x2 : Int) : (spec_l4Has.p5 (k + 1) x0 x1 x2 : Option (denR (outTys spec_l4Has.g.rts spec_l4Has.g.pms))) = evAt (spec_l4Has.E k) (fun κ s => lhOf k κ s spec_l4Has.pts) 5 b75 (unproj spec_l4Has.s5 (x0, x1, x2, ())) (OM.fin spec_l4Has.g Try.f75.results.toList) := by kernel_rfl
theorem spec_l4Has.hf (k : Nat) (a0 : (List Int)) (a1 : Int) : (spec_l4Has.f k a0 a1 : Option (denR (outTys spec_l4Has.g.rts spec_l4Has.g.pms))) = evC (spec_l4Has.E k) (fun κ s => lhOf k κ s spec_l4Has.pts) b75 (OM.start spec_l4Has.g.pms 0 (a0, a1, ())) (OM.fin spec_l4Has.g Try.f75.results.toList) := by kernel_rfl
theorem spec_l4Has.ok (k : Nat) : SmOk Try.prog (spec_l4Has.sm k) :=
  sm_ok mixed (E := spec_l4Has.E) (pts := spec_l4Has.pts) (fun k => ⟨⟨tysOk, by kernel_rfl⟩, forall_nil⟩) (fun _ => rfl) (fun _ => rfl)
    ⟨Try.func75, by kernel_rfl, by kernel_rfl, by kernel_rfl, by kernel_rfl, by kernel_rfl, by kernel_rfl⟩ (forall_cons (fun x => ⟨rfl, fun k => spec_l4Has.h5 k x.1 x.2.1 x.2.2.1⟩) (forall_nil)) (fun k x => spec_l4Has.hf k x.1 x.2.1) k
noncomputable def b71 : Code := Try.f71.body.getD .skip
theorem e71 : OM.Entry Try.prog 71 := ⟨_, Try.func71, by kernel_rfl, by kernel_rfl⟩
@[reducible] noncomputable def spec_l4Put.g : Sig := ⟨[.fz (.sl (.int .i64)), .fz (.int .i64)], [.v (.sl (.int .i64)) (.own .z)], []⟩
@[reducible] noncomputable def spec_l4Put.fk : Nat → denI spec_l4Put.g.pms → Option (denR (outTys spec_l4Put.g.rts spec_l4Put.g.pms)) := fun k x => spec_l4Put.f k x.1 x.2.1
@[reducible] noncomputable def spec_l4Put.sm (k : Nat) : Sm := ⟨71, spec_l4Put.g.pms, spec_l4Put.g.rts, spec_l4Put.fk k⟩
noncomputable def spec_l4Put.E (k : Nat) : Env := ⟨tys, [spec_l4Has.sm k], [36, 42], [], []⟩
@[reducible] noncomputable def spec_l4Put.s9 : List Slot := [.v 0 (.sl (.int .i64)) .z [] 0, .v 4 (.int .i64) .z [] 0, .v 20 (.sl (.int .i64)) (.own .z) [] 0, .v 24 .bool .z [] 0, .v 28 (.int .i64) .z [] 0]
noncomputable def spec_l4Put.pts : List (Pt (denR (outTys spec_l4Put.g.rts spec_l4Put.g.pms))) := [⟨9, spec_l4Put.s9, fun k x => spec_l4Put.p9 k x.1 x.2.1 x.2.2.1 x.2.2.2.1 x.2.2.2.2.1⟩]
theorem spec_l4Put.h9 (k : Nat) (x0 : (List Int)) (x1 : Int) (x2 : (List Int)) (x3 : Bool) (x4 : Int) : (spec_l4Put.p9 (k + 1) x0 x1 x2 x3 x4 : Option (denR (outTys spec_l4Put.g.rts spec_l4Put.g.pms))) = evAt (spec_l4Put.E k) (fun κ s => lhOf k κ s spec_l4Put.pts) 9 b71 (unproj spec_l4Put.s9 (x0, x1, x2, x3, x4, ())) (OM.fin spec_l4Put.g Try.f71.results.toList) := by kernel_rfl
theorem spec_l4Put.hf (k : Nat) (a0 : (List Int)) (a1 : Int) : (spec_l4Put.f k a0 a1 : Option (denR (outTys spec_l4Put.g.rts spec_l4Put.g.pms))) = evC (spec_l4Put.E k) (fun κ s => lhOf k κ s spec_l4Put.pts) b71 (OM.start spec_l4Put.g.pms 0 (a0, a1, ())) (OM.fin spec_l4Put.g Try.f71.results.toList) := by kernel_rfl
theorem spec_l4Put.ok (k : Nat) : SmOk Try.prog (spec_l4Put.sm k) :=
  sm_ok mixed (E := spec_l4Put.E) (pts := spec_l4Put.pts) (fun k => ⟨⟨tysOk, by kernel_rfl⟩, forall_cons ⟨spec_l4Has.ok k, e75⟩ (forall_nil)⟩) (fun _ => rfl) (fun _ => rfl)
    ⟨Try.func71, by kernel_rfl, by kernel_rfl, by kernel_rfl, by kernel_rfl, by kernel_rfl, by kernel_rfl⟩ (forall_cons (fun x => ⟨rfl, fun k => spec_l4Put.h9 k x.1 x.2.1 x.2.2.1 x.2.2.2.1 x.2.2.2.2.1⟩) (forall_nil)) (fun k x => spec_l4Put.hf k x.1 x.2.1) k
noncomputable def b24 : Code := Try.f24.body.getD .skip
theorem e24 : OM.Entry Try.prog 24 := ⟨_, Try.func24, by kernel_rfl, by kernel_rfl⟩
@[reducible] noncomputable def spec_DrawFill.g : Sig := ⟨[.fz (.sl (.int .u8))], [.v tConfig (.two (.own .z) .z), .v (.sl tStore) (.own (.two (.own .z) (.two (.own .z) .z))), .v (.sl (.int .i64)) (.own .z), .v (.int .i64) .z, .v (.int .i64) .z], []⟩
@[reducible] noncomputable def spec_DrawFill.fk : Nat → denI spec_DrawFill.g.pms → Option (denR (outTys spec_DrawFill.g.rts spec_DrawFill.g.pms)) := fun k x => spec_DrawFill.f k x.1
@[reducible] noncomputable def spec_DrawFill.sm (k : Nat) : Sm := ⟨24, spec_DrawFill.g.pms, spec_DrawFill.g.rts, spec_DrawFill.fk k⟩
noncomputable def spec_DrawFill.E (k : Nat) : Env := ⟨tys, [spec_l1New.sm k, spec_l1Below.sm k, spec_l1Once.sm k, spec_l4DrawRight.sm k, spec_l1PickInt.sm k, spec_l11DrawStores.sm k, spec_l4Put.sm k], [48], [8, 11], []⟩
@[reducible] noncomputable def spec_DrawFill.s16 : List Slot := [.r 8 9 [] tConfig, .r 28 57 [] tl1Cur, .r 32 33 [] tConfig, .v 40 (.sl tStore) (.own (.two (.own .z) (.two (.own .z) .z))) [] 0, .v 44 (.sl (.int .i64)) (.own .z) [] 0, .v 9 tConfig (.two (.own .a) .z) [] 0, .v 33 tConfig (.two (.own .z) .z) [] 0, .v 57 tl1Cur .z [] 0]
@[reducible] noncomputable def spec_DrawFill.s22 : List Slot := [.r 8 9 [] tConfig, .r 28 57 [] tl1Cur, .r 32 33 [] tConfig, .v 40 (.sl tStore) (.own (.two (.own .z) (.two (.own .z) .z))) [] 0, .v 44 (.sl (.int .i64)) (.own .z) [] 0, .v 48 (.int .i64) .z [] 0, .v 9 tConfig (.two (.own .a) .z) [] 0, .v 33 tConfig (.two (.own .z) .z) [] 0, .v 57 tl1Cur .z [] 0]
noncomputable def spec_DrawFill.pts : List (Pt (denR (outTys spec_DrawFill.g.rts spec_DrawFill.g.pms))) := [⟨16, spec_DrawFill.s16, fun k x => spec_DrawFill.p16 k x.1 x.2.1 x.2.2.1 x.2.2.2.1 x.2.2.2.2.1⟩, ⟨22, spec_DrawFill.s22, fun k x => spec_DrawFill.p22 k x.1 x.2.1 x.2.2.1 x.2.2.2.1 x.2.2.2.2.1 x.2.2.2.2.2.1⟩]
theorem spec_DrawFill.h16 (k : Nat) (x0 : (List Store)) (x1 : (List Int)) (x2 : Config) (x3 : Config) (x4 : l1Cur) : (spec_DrawFill.p16 (k + 1) x0 x1 x2 x3 x4 : Option (denR (outTys spec_DrawFill.g.rts spec_DrawFill.g.pms))) = evAt (spec_DrawFill.E k) (fun κ s => lhOf k κ s spec_DrawFill.pts) 16 b24 (unproj spec_DrawFill.s16 (x0, x1, x2, x3, x4, ())) (OM.fin spec_DrawFill.g Try.f24.results.toList) := by kernel_rfl
theorem spec_DrawFill.h22 (k : Nat) (x0 : (List Store)) (x1 : (List Int)) (x2 : Int) (x3 : Config) (x4 : Config) (x5 : l1Cur) : (spec_DrawFill.p22 (k + 1) x0 x1 x2 x3 x4 x5 : Option (denR (outTys spec_DrawFill.g.rts spec_DrawFill.g.pms))) = evAt (spec_DrawFill.E k) (fun κ s => lhOf k κ s spec_DrawFill.pts) 22 b24 (unproj spec_DrawFill.s22 (x0, x1, x2, x3, x4, x5, ())) (OM.fin spec_DrawFill.g Try.f24.results.toList) := by kernel_rfl
theorem spec_DrawFill.hf (k : Nat) (a0 : (List Int)) : (spec_DrawFill.f k a0 : Option (denR (outTys spec_DrawFill.g.rts spec_DrawFill.g.pms))) = evC (spec_DrawFill.E k) (fun κ s => lhOf k κ s spec_DrawFill.pts) b24 (OM.start spec_DrawFill.g.pms 0 (a0, ())) (OM.fin spec_DrawFill.g Try.f24.results.toList) := by kernel_rfl
theorem spec_DrawFill.ok (k : Nat) : SmOk Try.prog (spec_DrawFill.sm k) :=
  sm_ok mixed (E := spec_DrawFill.E) (pts := spec_DrawFill.pts) (fun k => ⟨⟨tysOk, by kernel_rfl⟩, forall_cons ⟨spec_l1New.ok k, e62⟩ (forall_cons ⟨spec_l1Below.ok k, e64⟩ (forall_cons ⟨spec_l1Once.ok k, e70⟩ (forall_cons ⟨spec_l4DrawRight.ok k, e69⟩ (forall_cons ⟨spec_l1PickInt.ok k, e72⟩ (forall_cons ⟨spec_l11DrawStores.ok k, e63⟩ (forall_cons ⟨spec_l4Put.ok k, e71⟩ (forall_nil)))))))⟩) (fun _ => rfl) (fun _ => rfl)
    ⟨Try.func24, by kernel_rfl, by kernel_rfl, by kernel_rfl, by kernel_rfl, by kernel_rfl, by kernel_rfl⟩ (forall_cons (fun x => ⟨rfl, fun k => spec_DrawFill.h16 k x.1 x.2.1 x.2.2.1 x.2.2.2.1 x.2.2.2.2.1⟩) (forall_cons (fun x => ⟨rfl, fun k => spec_DrawFill.h22 k x.1 x.2.1 x.2.2.1 x.2.2.2.1 x.2.2.2.2.1 x.2.2.2.2.2.1⟩) (forall_nil))) (fun k x => spec_DrawFill.hf k x.1) k
noncomputable def b81 : Code := Try.f81.body.getD .skip
theorem e81 : OM.Entry Try.prog 81 := ⟨_, Try.func81, by kernel_rfl, by kernel_rfl⟩
@[reducible] noncomputable def impl_within.g : Sig := ⟨[.fz (.int .i64), .fz (.int .i64), .fz (.int .i64)], [.v .bool .z], []⟩
@[reducible] noncomputable def impl_within.fk : Nat → denI impl_within.g.pms → Option (denR (outTys impl_within.g.rts impl_within.g.pms)) := fun k x => impl_within.f x.1 x.2.1 x.2.2.1
@[reducible] noncomputable def impl_within.sm (k : Nat) : Sm := ⟨81, impl_within.g.pms, impl_within.g.rts, impl_within.fk k⟩
noncomputable def impl_within.E (k : Nat) : Env := ⟨tys, [], [], [], []⟩
noncomputable def impl_within.pts : List (Pt (denR (outTys impl_within.g.rts impl_within.g.pms))) := []
theorem impl_within.hf (k : Nat) (a0 : Int) (a1 : Int) (a2 : Int) : (impl_within.f a0 a1 a2 : Option (denR (outTys impl_within.g.rts impl_within.g.pms))) = evC (impl_within.E k) (fun κ s => lhOf k κ s impl_within.pts) b81 (OM.start impl_within.g.pms 0 (a0, a1, a2, ())) (OM.fin impl_within.g Try.f81.results.toList) := by kernel_rfl
theorem impl_within.ok (k : Nat) : SmOk Try.prog (impl_within.sm k) :=
  sm_ok mixed (E := impl_within.E) (pts := impl_within.pts) (fun k => ⟨⟨tysOk, by kernel_rfl⟩, forall_nil⟩) (fun _ => rfl) (fun _ => rfl)
    ⟨Try.func81, by kernel_rfl, by kernel_rfl, by kernel_rfl, by kernel_rfl, by kernel_rfl, by kernel_rfl⟩ (forall_nil) (fun k x => impl_within.hf k x.1 x.2.1 x.2.2.1) k
noncomputable def b111 : Code := Try.f111.body.getD .skip
theorem e111 : OM.Entry Try.prog 111 := ⟨_, Try.func111, by kernel_rfl, by kernel_rfl⟩
@[reducible] noncomputable def impl_ConfigOk.g : Sig := ⟨[.fz tConfig], [.v .bool .z], []⟩
@[reducible] noncomputable def impl_ConfigOk.fk : Nat → denI impl_ConfigOk.g.pms → Option (denR (outTys impl_ConfigOk.g.rts impl_ConfigOk.g.pms)) := fun k x => impl_ConfigOk.f k x.1
@[reducible] noncomputable def impl_ConfigOk.sm (k : Nat) : Sm := ⟨111, impl_ConfigOk.g.pms, impl_ConfigOk.g.rts, impl_ConfigOk.fk k⟩
noncomputable def impl_ConfigOk.E (k : Nat) : Env := ⟨tys, [impl_within.sm k], [11], [], []⟩
@[reducible] noncomputable def impl_ConfigOk.s5 : List Slot := [.r 4 5 [] tConfig, .v 24 (.sl (.int .i64)) .z [] 0, .v 28 (.int .i64) .z [] 0, .v 32 (.int .i64) .z [] 0, .v 5 tConfig .z [] 0]
noncomputable def impl_ConfigOk.pts : List (Pt (denR (outTys impl_ConfigOk.g.rts impl_ConfigOk.g.pms))) := [⟨5, impl_ConfigOk.s5, fun k x => impl_ConfigOk.p5 k x.1 x.2.1 x.2.2.1 x.2.2.2.1⟩]
theorem impl_ConfigOk.h5 (k : Nat) (x0 : (List Int)) (x1 : Int) (x2 : Int) (x3 : Config) : (impl_ConfigOk.p5 (k + 1) x0 x1 x2 x3 : Option (denR (outTys impl_ConfigOk.g.rts impl_ConfigOk.g.pms))) = evAt (impl_ConfigOk.E k) (fun κ s => lhOf k κ s impl_ConfigOk.pts) 5 b111 (unproj impl_ConfigOk.s5 (x0, x1, x2, x3, ())) (OM.fin impl_ConfigOk.g Try.f111.results.toList) := by kernel_rfl
theorem impl_ConfigOk.hf (k : Nat) (a0 : Config) : (impl_ConfigOk.f k a0 : Option (denR (outTys impl_ConfigOk.g.rts impl_ConfigOk.g.pms))) = evC (impl_ConfigOk.E k) (fun κ s => lhOf k κ s impl_ConfigOk.pts) b111 (OM.start impl_ConfigOk.g.pms 0 (a0, ())) (OM.fin impl_ConfigOk.g Try.f111.results.toList) := by kernel_rfl
theorem impl_ConfigOk.ok (k : Nat) : SmOk Try.prog (impl_ConfigOk.sm k) :=
  sm_ok mixed (E := impl_ConfigOk.E) (pts := impl_ConfigOk.pts) (fun k => ⟨⟨tysOk, by kernel_rfl⟩, forall_cons ⟨impl_within.ok k, e81⟩ (forall_nil)⟩) (fun _ => rfl) (fun _ => rfl)
    ⟨Try.func111, by kernel_rfl, by kernel_rfl, by kernel_rfl, by kernel_rfl, by kernel_rfl, by kernel_rfl⟩ (forall_cons (fun x => ⟨rfl, fun k => impl_ConfigOk.h5 k x.1 x.2.1 x.2.2.1 x.2.2.2.1⟩) (forall_nil)) (fun k x => impl_ConfigOk.hf k x.1) k
noncomputable def b123 : Code := Try.f123.body.getD .skip
theorem e123 : OM.Entry Try.prog 123 := ⟨_, Try.func123, by kernel_rfl, by kernel_rfl⟩
@[reducible] noncomputable def impl_ascends.g : Sig := ⟨[.fz (.sl (.int .i64)), .fz (.int .i64)], [.v .bool .z], []⟩
@[reducible] noncomputable def impl_ascends.fk : Nat → denI impl_ascends.g.pms → Option (denR (outTys impl_ascends.g.rts impl_ascends.g.pms)) := fun k x => impl_ascends.f k x.1 x.2.1
@[reducible] noncomputable def impl_ascends.sm (k : Nat) : Sm := ⟨123, impl_ascends.g.pms, impl_ascends.g.rts, impl_ascends.fk k⟩
noncomputable def impl_ascends.E (k : Nat) : Env := ⟨tys, [impl_within.sm k], [13], [], []⟩
@[reducible] noncomputable def impl_ascends.s5 : List Slot := [.v 0 (.sl (.int .i64)) .z [] 0, .v 4 (.int .i64) .z [] 0, .v 28 (.sl (.int .i64)) .z [] 0, .v 32 (.int .i64) .z [] 0, .v 36 (.int .i64) .z [] 0]
noncomputable def impl_ascends.pts : List (Pt (denR (outTys impl_ascends.g.rts impl_ascends.g.pms))) := [⟨5, impl_ascends.s5, fun k x => impl_ascends.p5 k x.1 x.2.1 x.2.2.1 x.2.2.2.1 x.2.2.2.2.1⟩]
theorem impl_ascends.h5 (k : Nat) (x0 : (List Int)) (x1 : Int) (x2 : (List Int)) (x3 : Int) (x4 : Int) : (impl_ascends.p5 (k + 1) x0 x1 x2 x3 x4 : Option (denR (outTys impl_ascends.g.rts impl_ascends.g.pms))) = evAt (impl_ascends.E k) (fun κ s => lhOf k κ s impl_ascends.pts) 5 b123 (unproj impl_ascends.s5 (x0, x1, x2, x3, x4, ())) (OM.fin impl_ascends.g Try.f123.results.toList) := by kernel_rfl
theorem impl_ascends.hf (k : Nat) (a0 : (List Int)) (a1 : Int) : (impl_ascends.f k a0 a1 : Option (denR (outTys impl_ascends.g.rts impl_ascends.g.pms))) = evC (impl_ascends.E k) (fun κ s => lhOf k κ s impl_ascends.pts) b123 (OM.start impl_ascends.g.pms 0 (a0, a1, ())) (OM.fin impl_ascends.g Try.f123.results.toList) := by kernel_rfl
theorem impl_ascends.ok (k : Nat) : SmOk Try.prog (impl_ascends.sm k) :=
  sm_ok mixed (E := impl_ascends.E) (pts := impl_ascends.pts) (fun k => ⟨⟨tysOk, by kernel_rfl⟩, forall_cons ⟨impl_within.ok k, e81⟩ (forall_nil)⟩) (fun _ => rfl) (fun _ => rfl)
    ⟨Try.func123, by kernel_rfl, by kernel_rfl, by kernel_rfl, by kernel_rfl, by kernel_rfl, by kernel_rfl⟩ (forall_cons (fun x => ⟨rfl, fun k => impl_ascends.h5 k x.1 x.2.1 x.2.2.1 x.2.2.2.1 x.2.2.2.2.1⟩) (forall_nil)) (fun k x => impl_ascends.hf k x.1 x.2.1) k
noncomputable def b76 : Code := Try.f76.body.getD .skip
theorem e76 : OM.Entry Try.prog 76 := ⟨_, Try.func76, by kernel_rfl, by kernel_rfl⟩
@[reducible] noncomputable def impl_NodesOk.g : Sig := ⟨[.fz tConfig, .fz (.sl (.int .i64))], [.v .bool .z], []⟩
@[reducible] noncomputable def impl_NodesOk.fk : Nat → denI impl_NodesOk.g.pms → Option (denR (outTys impl_NodesOk.g.rts impl_NodesOk.g.pms)) := fun k x => impl_NodesOk.f k x.1 x.2.1
@[reducible] noncomputable def impl_NodesOk.sm (k : Nat) : Sm := ⟨76, impl_NodesOk.g.pms, impl_NodesOk.g.rts, impl_NodesOk.fk k⟩
noncomputable def impl_NodesOk.E (k : Nat) : Env := ⟨tys, [impl_ConfigOk.sm k, impl_ascends.sm k], [], [], []⟩
noncomputable def impl_NodesOk.pts : List (Pt (denR (outTys impl_NodesOk.g.rts impl_NodesOk.g.pms))) := []
theorem impl_NodesOk.hf (k : Nat) (a0 : Config) (a1 : (List Int)) : (impl_NodesOk.f k a0 a1 : Option (denR (outTys impl_NodesOk.g.rts impl_NodesOk.g.pms))) = evC (impl_NodesOk.E k) (fun κ s => lhOf k κ s impl_NodesOk.pts) b76 (OM.start impl_NodesOk.g.pms 0 (a0, a1, ())) (OM.fin impl_NodesOk.g Try.f76.results.toList) := by kernel_rfl
theorem impl_NodesOk.ok (k : Nat) : SmOk Try.prog (impl_NodesOk.sm k) :=
  sm_ok mixed (E := impl_NodesOk.E) (pts := impl_NodesOk.pts) (fun k => ⟨⟨tysOk, by kernel_rfl⟩, forall_cons ⟨impl_ConfigOk.ok k, e111⟩ (forall_cons ⟨impl_ascends.ok k, e123⟩ (forall_nil))⟩) (fun _ => rfl) (fun _ => rfl)
    ⟨Try.func76, by kernel_rfl, by kernel_rfl, by kernel_rfl, by kernel_rfl, by kernel_rfl, by kernel_rfl⟩ (forall_nil) (fun k x => impl_NodesOk.hf k x.1 x.2.1) k
noncomputable def b122 : Code := Try.f122.body.getD .skip
theorem e122 : OM.Entry Try.prog 122 := ⟨_, Try.func122, by kernel_rfl, by kernel_rfl⟩
@[reducible] noncomputable def slices_Index_int_int.g : Sig := ⟨[.fz (.sl (.int .i64)), .fz (.int .i64)], [.v (.int .i64) .z], []⟩
@[reducible] noncomputable def slices_Index_int_int.fk : Nat → denI slices_Index_int_int.g.pms → Option (denR (outTys slices_Index_int_int.g.rts slices_Index_int_int.g.pms)) := fun k x => slices_Index_int_int.f k x.1 x.2.1
@[reducible] noncomputable def slices_Index_int_int.sm (k : Nat) : Sm := ⟨122, slices_Index_int_int.g.pms, slices_Index_int_int.g.rts, slices_Index_int_int.fk k⟩
noncomputable def slices_Index_int_int.E (k : Nat) : Env := ⟨tys, [], [], [], []⟩
@[reducible] noncomputable def slices_Index_int_int.s5 : List Slot := [.v 0 (.sl (.int .i64)) .z [] 0, .v 4 (.int .i64) .z [] 0, .v 28 (.int .i64) .z [] 0, .v 32 (.int .i64) .z [] 0]
noncomputable def slices_Index_int_int.pts : List (Pt (denR (outTys slices_Index_int_int.g.rts slices_Index_int_int.g.pms))) := [⟨5, slices_Index_int_int.s5, fun k x => slices_Index_int_int.p5 k x.1 x.2.1 x.2.2.1 x.2.2.2.1⟩]
theorem slices_Index_int_int.h5 (k : Nat) (x0 : (List Int)) (x1 : Int) (x2 : Int) (x3 : Int) : (slices_Index_int_int.p5 (k + 1) x0 x1 x2 x3 : Option (denR (outTys slices_Index_int_int.g.rts slices_Index_int_int.g.pms))) = evAt (slices_Index_int_int.E k) (fun κ s => lhOf k κ s slices_Index_int_int.pts) 5 b122 (unproj slices_Index_int_int.s5 (x0, x1, x2, x3, ())) (OM.fin slices_Index_int_int.g Try.f122.results.toList) := by kernel_rfl
theorem slices_Index_int_int.hf (k : Nat) (a0 : (List Int)) (a1 : Int) : (slices_Index_int_int.f k a0 a1 : Option (denR (outTys slices_Index_int_int.g.rts slices_Index_int_int.g.pms))) = evC (slices_Index_int_int.E k) (fun κ s => lhOf k κ s slices_Index_int_int.pts) b122 (OM.start slices_Index_int_int.g.pms 0 (a0, a1, ())) (OM.fin slices_Index_int_int.g Try.f122.results.toList) := by kernel_rfl
theorem slices_Index_int_int.ok (k : Nat) : SmOk Try.prog (slices_Index_int_int.sm k) :=
  sm_ok mixed (E := slices_Index_int_int.E) (pts := slices_Index_int_int.pts) (fun k => ⟨⟨tysOk, by kernel_rfl⟩, forall_nil⟩) (fun _ => rfl) (fun _ => rfl)
    ⟨Try.func122, by kernel_rfl, by kernel_rfl, by kernel_rfl, by kernel_rfl, by kernel_rfl, by kernel_rfl⟩ (forall_cons (fun x => ⟨rfl, fun k => slices_Index_int_int.h5 k x.1 x.2.1 x.2.2.1 x.2.2.2.1⟩) (forall_nil)) (fun k x => slices_Index_int_int.hf k x.1 x.2.1) k
noncomputable def b73 : Code := Try.f73.body.getD .skip
theorem e73 : OM.Entry Try.prog 73 := ⟨_, Try.func73, by kernel_rfl, by kernel_rfl⟩
@[reducible] noncomputable def slices_Contains_int_int.g : Sig := ⟨[.fz (.sl (.int .i64)), .fz (.int .i64)], [.v .bool .z], []⟩
@[reducible] noncomputable def slices_Contains_int_int.fk : Nat → denI slices_Contains_int_int.g.pms → Option (denR (outTys slices_Contains_int_int.g.rts slices_Contains_int_int.g.pms)) := fun k x => slices_Contains_int_int.f k x.1 x.2.1
@[reducible] noncomputable def slices_Contains_int_int.sm (k : Nat) : Sm := ⟨73, slices_Contains_int_int.g.pms, slices_Contains_int_int.g.rts, slices_Contains_int_int.fk k⟩
noncomputable def slices_Contains_int_int.E (k : Nat) : Env := ⟨tys, [slices_Index_int_int.sm k], [], [], []⟩
noncomputable def slices_Contains_int_int.pts : List (Pt (denR (outTys slices_Contains_int_int.g.rts slices_Contains_int_int.g.pms))) := []
theorem slices_Contains_int_int.hf (k : Nat) (a0 : (List Int)) (a1 : Int) : (slices_Contains_int_int.f k a0 a1 : Option (denR (outTys slices_Contains_int_int.g.rts slices_Contains_int_int.g.pms))) = evC (slices_Contains_int_int.E k) (fun κ s => lhOf k κ s slices_Contains_int_int.pts) b73 (OM.start slices_Contains_int_int.g.pms 0 (a0, a1, ())) (OM.fin slices_Contains_int_int.g Try.f73.results.toList) := by kernel_rfl
theorem slices_Contains_int_int.ok (k : Nat) : SmOk Try.prog (slices_Contains_int_int.sm k) :=
  sm_ok mixed (E := slices_Contains_int_int.E) (pts := slices_Contains_int_int.pts) (fun k => ⟨⟨tysOk, by kernel_rfl⟩, forall_cons ⟨slices_Index_int_int.ok k, e122⟩ (forall_nil)⟩) (fun _ => rfl) (fun _ => rfl)
    ⟨Try.func73, by kernel_rfl, by kernel_rfl, by kernel_rfl, by kernel_rfl, by kernel_rfl, by kernel_rfl⟩ (forall_nil) (fun k x => slices_Contains_int_int.hf k x.1 x.2.1) k
noncomputable def b82 : Code := Try.f82.body.getD .skip
theorem e82 : OM.Entry Try.prog 82 := ⟨_, Try.func82, by kernel_rfl, by kernel_rfl⟩
@[reducible] noncomputable def impl_SpanOf.g : Sig := ⟨[.fz tConfig, .fz (.sl (.int .i64))], [.v (.int .i64) .z], []⟩
@[reducible] noncomputable def impl_SpanOf.fk : Nat → denI impl_SpanOf.g.pms → Option (denR (outTys impl_SpanOf.g.rts impl_SpanOf.g.pms)) := fun k x => impl_SpanOf.f k x.1 x.2.1
@[reducible] noncomputable def impl_SpanOf.sm (k : Nat) : Sm := ⟨82, impl_SpanOf.g.pms, impl_SpanOf.g.rts, impl_SpanOf.fk k⟩
noncomputable def impl_SpanOf.E (k : Nat) : Env := ⟨tys, [impl_NodesOk.sm k, slices_Contains_int_int.sm k], [18, 32], [], []⟩
@[reducible] noncomputable def impl_SpanOf.s11 : List Slot := [.r 8 9 [] tConfig, .v 20 (.sl (.int .i64)) (.own .z) [] 0, .v 52 (.sl (.int .i64)) .z [] 0, .v 56 (.int .i64) .z [] 0, .v 60 (.int .i64) .z [] 0, .v 9 tConfig .z [] 0]
noncomputable def impl_SpanOf.pts : List (Pt (denR (outTys impl_SpanOf.g.rts impl_SpanOf.g.pms))) := [⟨11, impl_SpanOf.s11, fun k x => impl_SpanOf.p11 k x.1 x.2.1 x.2.2.1 x.2.2.2.1 x.2.2.2.2.1⟩]
theorem impl_SpanOf.h11 (k : Nat) (x0 : (List Int)) (x1 : (List Int)) (x2 : Int) (x3 : Int) (x4 : Config) : (impl_SpanOf.p11 (k + 1) x0 x1 x2 x3 x4 : Option (denR (outTys impl_SpanOf.g.rts impl_SpanOf.g.pms))) = evAt (impl_SpanOf.E k) (fun κ s => lhOf k κ s impl_SpanOf.pts) 11 b82 (unproj impl_SpanOf.s11 (x0, x1, x2, x3, x4, ())) (OM.fin impl_SpanOf.g Try.f82.results.toList) := by kernel_rfl
theorem impl_SpanOf.hf (k : Nat) (a0 : Config) (a1 : (List Int)) : (impl_SpanOf.f k a0 a1 : Option (denR (outTys impl_SpanOf.g.rts impl_SpanOf.g.pms))) = evC (impl_SpanOf.E k) (fun κ s => lhOf k κ s impl_SpanOf.pts) b82 (OM.start impl_SpanOf.g.pms 0 (a0, a1, ())) (OM.fin impl_SpanOf.g Try.f82.results.toList) := by kernel_rfl
theorem impl_SpanOf.ok (k : Nat) : SmOk Try.prog (impl_SpanOf.sm k) :=
  sm_ok mixed (E := impl_SpanOf.E) (pts := impl_SpanOf.pts) (fun k => ⟨⟨tysOk, by kernel_rfl⟩, forall_cons ⟨impl_NodesOk.ok k, e76⟩ (forall_cons ⟨slices_Contains_int_int.ok k, e73⟩ (forall_nil))⟩) (fun _ => rfl) (fun _ => rfl)
    ⟨Try.func82, by kernel_rfl, by kernel_rfl, by kernel_rfl, by kernel_rfl, by kernel_rfl, by kernel_rfl⟩ (forall_cons (fun x => ⟨rfl, fun k => impl_SpanOf.h11 k x.1 x.2.1 x.2.2.1 x.2.2.2.1 x.2.2.2.2.1⟩) (forall_nil)) (fun k x => impl_SpanOf.hf k x.1 x.2.1) k
noncomputable def b31 : Code := Try.f31.body.getD .skip
theorem e31 : OM.Entry Try.prog 31 := ⟨_, Try.func31, by kernel_rfl, by kernel_rfl⟩
@[reducible] noncomputable def impl_Holds.g : Sig := ⟨[.fz tConfig, .fz (.sl (.int .i64))], [.v .bool .z], []⟩
@[reducible] noncomputable def impl_Holds.fk : Nat → denI impl_Holds.g.pms → Option (denR (outTys impl_Holds.g.rts impl_Holds.g.pms)) := fun k x => impl_Holds.f k x.1 x.2.1
@[reducible] noncomputable def impl_Holds.sm (k : Nat) : Sm := ⟨31, impl_Holds.g.pms, impl_Holds.g.rts, impl_Holds.fk k⟩
noncomputable def impl_Holds.E (k : Nat) : Env := ⟨tys, [impl_NodesOk.sm k, impl_SpanOf.sm k], [], [], []⟩
noncomputable def impl_Holds.pts : List (Pt (denR (outTys impl_Holds.g.rts impl_Holds.g.pms))) := []
theorem impl_Holds.hf (k : Nat) (a0 : Config) (a1 : (List Int)) : (impl_Holds.f k a0 a1 : Option (denR (outTys impl_Holds.g.rts impl_Holds.g.pms))) = evC (impl_Holds.E k) (fun κ s => lhOf k κ s impl_Holds.pts) b31 (OM.start impl_Holds.g.pms 0 (a0, a1, ())) (OM.fin impl_Holds.g Try.f31.results.toList) := by kernel_rfl
theorem impl_Holds.ok (k : Nat) : SmOk Try.prog (impl_Holds.sm k) :=
  sm_ok mixed (E := impl_Holds.E) (pts := impl_Holds.pts) (fun k => ⟨⟨tysOk, by kernel_rfl⟩, forall_cons ⟨impl_NodesOk.ok k, e76⟩ (forall_cons ⟨impl_SpanOf.ok k, e82⟩ (forall_nil))⟩) (fun _ => rfl) (fun _ => rfl)
    ⟨Try.func31, by kernel_rfl, by kernel_rfl, by kernel_rfl, by kernel_rfl, by kernel_rfl, by kernel_rfl⟩ (forall_nil) (fun k x => impl_Holds.hf k x.1 x.2.1) k
noncomputable def b27 : Code := Try.f27.body.getD .skip
theorem e27 : OM.Entry Try.prog 27 := ⟨_, Try.func27, by kernel_rfl, by kernel_rfl⟩
@[reducible] noncomputable def impl_LostOk.g : Sig := ⟨[.fz tConfig, .fz (.sl (.int .i64))], [.v .bool .z], []⟩
@[reducible] noncomputable def impl_LostOk.fk : Nat → denI impl_LostOk.g.pms → Option (denR (outTys impl_LostOk.g.rts impl_LostOk.g.pms)) := fun k x => impl_LostOk.f k x.1 x.2.1
@[reducible] noncomputable def impl_LostOk.sm (k : Nat) : Sm := ⟨27, impl_LostOk.g.pms, impl_LostOk.g.rts, impl_LostOk.fk k⟩
noncomputable def impl_LostOk.E (k : Nat) : Env := ⟨tys, [impl_NodesOk.sm k, impl_Holds.sm k], [], [], []⟩
noncomputable def impl_LostOk.pts : List (Pt (denR (outTys impl_LostOk.g.rts impl_LostOk.g.pms))) := []
theorem impl_LostOk.hf (k : Nat) (a0 : Config) (a1 : (List Int)) : (impl_LostOk.f k a0 a1 : Option (denR (outTys impl_LostOk.g.rts impl_LostOk.g.pms))) = evC (impl_LostOk.E k) (fun κ s => lhOf k κ s impl_LostOk.pts) b27 (OM.start impl_LostOk.g.pms 0 (a0, a1, ())) (OM.fin impl_LostOk.g Try.f27.results.toList) := by kernel_rfl
theorem impl_LostOk.ok (k : Nat) : SmOk Try.prog (impl_LostOk.sm k) :=
  sm_ok mixed (E := impl_LostOk.E) (pts := impl_LostOk.pts) (fun k => ⟨⟨tysOk, by kernel_rfl⟩, forall_cons ⟨impl_NodesOk.ok k, e76⟩ (forall_cons ⟨impl_Holds.ok k, e31⟩ (forall_nil))⟩) (fun _ => rfl) (fun _ => rfl)
    ⟨Try.func27, by kernel_rfl, by kernel_rfl, by kernel_rfl, by kernel_rfl, by kernel_rfl, by kernel_rfl⟩ (forall_nil) (fun k x => impl_LostOk.hf k x.1 x.2.1) k
noncomputable def b110 : Code := Try.f110.body.getD .skip
theorem e110 : OM.Entry Try.prog 110 := ⟨_, Try.func110, by kernel_rfl, by kernel_rfl⟩
@[reducible] noncomputable def impl_isEpoch.g : Sig := ⟨[.fz (.int .i64)], [.v .bool .z], []⟩
@[reducible] noncomputable def impl_isEpoch.fk : Nat → denI impl_isEpoch.g.pms → Option (denR (outTys impl_isEpoch.g.rts impl_isEpoch.g.pms)) := fun k x => impl_isEpoch.f x.1
@[reducible] noncomputable def impl_isEpoch.sm (k : Nat) : Sm := ⟨110, impl_isEpoch.g.pms, impl_isEpoch.g.rts, impl_isEpoch.fk k⟩
noncomputable def impl_isEpoch.E (k : Nat) : Env := ⟨tys, [impl_within.sm k], [], [], []⟩
noncomputable def impl_isEpoch.pts : List (Pt (denR (outTys impl_isEpoch.g.rts impl_isEpoch.g.pms))) := []
theorem impl_isEpoch.hf (k : Nat) (a0 : Int) : (impl_isEpoch.f a0 : Option (denR (outTys impl_isEpoch.g.rts impl_isEpoch.g.pms))) = evC (impl_isEpoch.E k) (fun κ s => lhOf k κ s impl_isEpoch.pts) b110 (OM.start impl_isEpoch.g.pms 0 (a0, ())) (OM.fin impl_isEpoch.g Try.f110.results.toList) := by kernel_rfl
theorem impl_isEpoch.ok (k : Nat) : SmOk Try.prog (impl_isEpoch.sm k) :=
  sm_ok mixed (E := impl_isEpoch.E) (pts := impl_isEpoch.pts) (fun k => ⟨⟨tysOk, by kernel_rfl⟩, forall_cons ⟨impl_within.ok k, e81⟩ (forall_nil)⟩) (fun _ => rfl) (fun _ => rfl)
    ⟨Try.func110, by kernel_rfl, by kernel_rfl, by kernel_rfl, by kernel_rfl, by kernel_rfl, by kernel_rfl⟩ (forall_nil) (fun k x => impl_isEpoch.hf k x.1) k
noncomputable def b142 : Code := Try.f142.body.getD .skip
theorem e142 : OM.Entry Try.prog 142 := ⟨_, Try.func142, by kernel_rfl, by kernel_rfl⟩
@[reducible] noncomputable def impl_isOff.g : Sig := ⟨[.fz (.int .i64)], [.v .bool .z], []⟩
@[reducible] noncomputable def impl_isOff.fk : Nat → denI impl_isOff.g.pms → Option (denR (outTys impl_isOff.g.rts impl_isOff.g.pms)) := fun k x => impl_isOff.f x.1
@[reducible] noncomputable def impl_isOff.sm (k : Nat) : Sm := ⟨142, impl_isOff.g.pms, impl_isOff.g.rts, impl_isOff.fk k⟩
noncomputable def impl_isOff.E (k : Nat) : Env := ⟨tys, [impl_within.sm k], [], [], []⟩
noncomputable def impl_isOff.pts : List (Pt (denR (outTys impl_isOff.g.rts impl_isOff.g.pms))) := []
theorem impl_isOff.hf (k : Nat) (a0 : Int) : (impl_isOff.f a0 : Option (denR (outTys impl_isOff.g.rts impl_isOff.g.pms))) = evC (impl_isOff.E k) (fun κ s => lhOf k κ s impl_isOff.pts) b142 (OM.start impl_isOff.g.pms 0 (a0, ())) (OM.fin impl_isOff.g Try.f142.results.toList) := by kernel_rfl
theorem impl_isOff.ok (k : Nat) : SmOk Try.prog (impl_isOff.sm k) :=
  sm_ok mixed (E := impl_isOff.E) (pts := impl_isOff.pts) (fun k => ⟨⟨tysOk, by kernel_rfl⟩, forall_cons ⟨impl_within.ok k, e81⟩ (forall_nil)⟩) (fun _ => rfl) (fun _ => rfl)
    ⟨Try.func142, by kernel_rfl, by kernel_rfl, by kernel_rfl, by kernel_rfl, by kernel_rfl, by kernel_rfl⟩ (forall_nil) (fun k x => impl_isOff.hf k x.1) k
noncomputable def b108 : Code := Try.f108.body.getD .skip
theorem e108 : OM.Entry Try.prog 108 := ⟨_, Try.func108, by kernel_rfl, by kernel_rfl⟩
@[reducible] noncomputable def impl_PlaceOk.g : Sig := ⟨[.fz (.int .i64)], [.v .bool .z], []⟩
@[reducible] noncomputable def impl_PlaceOk.fk : Nat → denI impl_PlaceOk.g.pms → Option (denR (outTys impl_PlaceOk.g.rts impl_PlaceOk.g.pms)) := fun k x => impl_PlaceOk.f x.1
@[reducible] noncomputable def impl_PlaceOk.sm (k : Nat) : Sm := ⟨108, impl_PlaceOk.g.pms, impl_PlaceOk.g.rts, impl_PlaceOk.fk k⟩
noncomputable def impl_PlaceOk.E (k : Nat) : Env := ⟨tys, [impl_isEpoch.sm k, impl_isOff.sm k], [], [], []⟩
noncomputable def impl_PlaceOk.pts : List (Pt (denR (outTys impl_PlaceOk.g.rts impl_PlaceOk.g.pms))) := []
theorem impl_PlaceOk.hf (k : Nat) (a0 : Int) : (impl_PlaceOk.f a0 : Option (denR (outTys impl_PlaceOk.g.rts impl_PlaceOk.g.pms))) = evC (impl_PlaceOk.E k) (fun κ s => lhOf k κ s impl_PlaceOk.pts) b108 (OM.start impl_PlaceOk.g.pms 0 (a0, ())) (OM.fin impl_PlaceOk.g Try.f108.results.toList) := by kernel_rfl
theorem impl_PlaceOk.ok (k : Nat) : SmOk Try.prog (impl_PlaceOk.sm k) :=
  sm_ok mixed (E := impl_PlaceOk.E) (pts := impl_PlaceOk.pts) (fun k => ⟨⟨tysOk, by kernel_rfl⟩, forall_cons ⟨impl_isEpoch.ok k, e110⟩ (forall_cons ⟨impl_isOff.ok k, e142⟩ (forall_nil))⟩) (fun _ => rfl) (fun _ => rfl)
    ⟨Try.func108, by kernel_rfl, by kernel_rfl, by kernel_rfl, by kernel_rfl, by kernel_rfl, by kernel_rfl⟩ (forall_nil) (fun k x => impl_PlaceOk.hf k x.1) k
noncomputable def b109 : Code := Try.f109.body.getD .skip
theorem e109 : OM.Entry Try.prog 109 := ⟨_, Try.func109, by kernel_rfl, by kernel_rfl⟩
@[reducible] noncomputable def impl_dataOk.g : Sig := ⟨[.fz .str], [.v .bool .z], []⟩
@[reducible] noncomputable def impl_dataOk.fk : Nat → denI impl_dataOk.g.pms → Option (denR (outTys impl_dataOk.g.rts impl_dataOk.g.pms)) := fun k x => impl_dataOk.f x.1
@[reducible] noncomputable def impl_dataOk.sm (k : Nat) : Sm := ⟨109, impl_dataOk.g.pms, impl_dataOk.g.rts, impl_dataOk.fk k⟩
noncomputable def impl_dataOk.E (k : Nat) : Env := ⟨tys, [], [], [], []⟩
noncomputable def impl_dataOk.pts : List (Pt (denR (outTys impl_dataOk.g.rts impl_dataOk.g.pms))) := []
theorem impl_dataOk.hf (k : Nat) (a0 : ByteArray) : (impl_dataOk.f a0 : Option (denR (outTys impl_dataOk.g.rts impl_dataOk.g.pms))) = evC (impl_dataOk.E k) (fun κ s => lhOf k κ s impl_dataOk.pts) b109 (OM.start impl_dataOk.g.pms 0 (a0, ())) (OM.fin impl_dataOk.g Try.f109.results.toList) := by kernel_rfl
theorem impl_dataOk.ok (k : Nat) : SmOk Try.prog (impl_dataOk.sm k) :=
  sm_ok mixed (E := impl_dataOk.E) (pts := impl_dataOk.pts) (fun k => ⟨⟨tysOk, by kernel_rfl⟩, forall_nil⟩) (fun _ => rfl) (fun _ => rfl)
    ⟨Try.func109, by kernel_rfl, by kernel_rfl, by kernel_rfl, by kernel_rfl, by kernel_rfl, by kernel_rfl⟩ (forall_nil) (fun k x => impl_dataOk.hf k x.1) k
noncomputable def b107 : Code := Try.f107.body.getD .skip
theorem e107 : OM.Entry Try.prog 107 := ⟨_, Try.func107, by kernel_rfl, by kernel_rfl⟩
@[reducible] noncomputable def impl_EpochOf.g : Sig := ⟨[.fz (.int .i64)], [.v (.int .i64) .z], []⟩
@[reducible] noncomputable def impl_EpochOf.fk : Nat → denI impl_EpochOf.g.pms → Option (denR (outTys impl_EpochOf.g.rts impl_EpochOf.g.pms)) := fun k x => impl_EpochOf.f x.1
@[reducible] noncomputable def impl_EpochOf.sm (k : Nat) : Sm := ⟨107, impl_EpochOf.g.pms, impl_EpochOf.g.rts, impl_EpochOf.fk k⟩
noncomputable def impl_EpochOf.E (k : Nat) : Env := ⟨tys, [impl_PlaceOk.sm k], [], [], []⟩
noncomputable def impl_EpochOf.pts : List (Pt (denR (outTys impl_EpochOf.g.rts impl_EpochOf.g.pms))) := []
theorem impl_EpochOf.hf (k : Nat) (a0 : Int) : (impl_EpochOf.f a0 : Option (denR (outTys impl_EpochOf.g.rts impl_EpochOf.g.pms))) = evC (impl_EpochOf.E k) (fun κ s => lhOf k κ s impl_EpochOf.pts) b107 (OM.start impl_EpochOf.g.pms 0 (a0, ())) (OM.fin impl_EpochOf.g Try.f107.results.toList) := by kernel_rfl
theorem impl_EpochOf.ok (k : Nat) : SmOk Try.prog (impl_EpochOf.sm k) :=
  sm_ok mixed (E := impl_EpochOf.E) (pts := impl_EpochOf.pts) (fun k => ⟨⟨tysOk, by kernel_rfl⟩, forall_cons ⟨impl_PlaceOk.ok k, e108⟩ (forall_nil)⟩) (fun _ => rfl) (fun _ => rfl)
    ⟨Try.func107, by kernel_rfl, by kernel_rfl, by kernel_rfl, by kernel_rfl, by kernel_rfl, by kernel_rfl⟩ (forall_nil) (fun k x => impl_EpochOf.hf k x.1) k
noncomputable def b53 : Code := Try.f53.body.getD .skip
theorem e53 : OM.Entry Try.prog 53 := ⟨_, Try.func53, by kernel_rfl, by kernel_rfl⟩
@[reducible] noncomputable def impl_EntryOk.g : Sig := ⟨[.fz tEntry], [.v .bool .z], []⟩
@[reducible] noncomputable def impl_EntryOk.fk : Nat → denI impl_EntryOk.g.pms → Option (denR (outTys impl_EntryOk.g.rts impl_EntryOk.g.pms)) := fun k x => impl_EntryOk.f k x.1
@[reducible] noncomputable def impl_EntryOk.sm (k : Nat) : Sm := ⟨53, impl_EntryOk.g.pms, impl_EntryOk.g.rts, impl_EntryOk.fk k⟩
noncomputable def impl_EntryOk.E (k : Nat) : Env := ⟨tys, [impl_within.sm k, impl_PlaceOk.sm k, impl_dataOk.sm k, impl_EpochOf.sm k], [], [2, 3], []⟩
@[reducible] noncomputable def impl_EntryOk.s4 : List Slot := [.r 4 5 [] tEntry, .v 12 .bool .z [] 0, .v 5 tEntry .z [] 0]
@[reducible] noncomputable def impl_EntryOk.s6 : List Slot := [.r 4 5 [] tEntry, .v 12 .bool .z [] 0, .v 16 .bool .z [] 0, .v 5 tEntry .z [] 0]
noncomputable def impl_EntryOk.pts : List (Pt (denR (outTys impl_EntryOk.g.rts impl_EntryOk.g.pms))) := [⟨4, impl_EntryOk.s4, fun k x => impl_EntryOk.p4 k x.1 x.2.1⟩, ⟨6, impl_EntryOk.s6, fun k x => impl_EntryOk.p6 k x.1 x.2.1 x.2.2.1⟩]
theorem impl_EntryOk.h4 (k : Nat) (x0 : Bool) (x1 : Entry) : (impl_EntryOk.p4 (k + 1) x0 x1 : Option (denR (outTys impl_EntryOk.g.rts impl_EntryOk.g.pms))) = evAt (impl_EntryOk.E k) (fun κ s => lhOf k κ s impl_EntryOk.pts) 4 b53 (unproj impl_EntryOk.s4 (x0, x1, ())) (OM.fin impl_EntryOk.g Try.f53.results.toList) := by kernel_rfl
theorem impl_EntryOk.h6 (k : Nat) (x0 : Bool) (x1 : Bool) (x2 : Entry) : (impl_EntryOk.p6 (k + 1) x0 x1 x2 : Option (denR (outTys impl_EntryOk.g.rts impl_EntryOk.g.pms))) = evAt (impl_EntryOk.E k) (fun κ s => lhOf k κ s impl_EntryOk.pts) 6 b53 (unproj impl_EntryOk.s6 (x0, x1, x2, ())) (OM.fin impl_EntryOk.g Try.f53.results.toList) := by kernel_rfl
theorem impl_EntryOk.hf (k : Nat) (a0 : Entry) : (impl_EntryOk.f k a0 : Option (denR (outTys impl_EntryOk.g.rts impl_EntryOk.g.pms))) = evC (impl_EntryOk.E k) (fun κ s => lhOf k κ s impl_EntryOk.pts) b53 (OM.start impl_EntryOk.g.pms 0 (a0, ())) (OM.fin impl_EntryOk.g Try.f53.results.toList) := by kernel_rfl
theorem impl_EntryOk.ok (k : Nat) : SmOk Try.prog (impl_EntryOk.sm k) :=
  sm_ok mixed (E := impl_EntryOk.E) (pts := impl_EntryOk.pts) (fun k => ⟨⟨tysOk, by kernel_rfl⟩, forall_cons ⟨impl_within.ok k, e81⟩ (forall_cons ⟨impl_PlaceOk.ok k, e108⟩ (forall_cons ⟨impl_dataOk.ok k, e109⟩ (forall_cons ⟨impl_EpochOf.ok k, e107⟩ (forall_nil))))⟩) (fun _ => rfl) (fun _ => rfl)
    ⟨Try.func53, by kernel_rfl, by kernel_rfl, by kernel_rfl, by kernel_rfl, by kernel_rfl, by kernel_rfl⟩ (forall_cons (fun x => ⟨rfl, fun k => impl_EntryOk.h4 k x.1 x.2.1⟩) (forall_cons (fun x => ⟨rfl, fun k => impl_EntryOk.h6 k x.1 x.2.1 x.2.2.1⟩) (forall_nil))) (fun k x => impl_EntryOk.hf k x.1) k
noncomputable def b79 : Code := Try.f79.body.getD .skip
theorem e79 : OM.Entry Try.prog 79 := ⟨_, Try.func79, by kernel_rfl, by kernel_rfl⟩
@[reducible] noncomputable def impl_entriesOk.g : Sig := ⟨[.fz (.sl tEntry)], [.v .bool .z], []⟩
@[reducible] noncomputable def impl_entriesOk.fk : Nat → denI impl_entriesOk.g.pms → Option (denR (outTys impl_entriesOk.g.rts impl_entriesOk.g.pms)) := fun k x => impl_entriesOk.f k x.1
@[reducible] noncomputable def impl_entriesOk.sm (k : Nat) : Sm := ⟨79, impl_entriesOk.g.pms, impl_entriesOk.g.rts, impl_entriesOk.fk k⟩
noncomputable def impl_entriesOk.E (k : Nat) : Env := ⟨tys, [impl_EntryOk.sm k], [10], [], []⟩
@[reducible] noncomputable def impl_entriesOk.s5 : List Slot := [.v 20 (.sl tEntry) .z [] 0, .v 24 (.int .i64) .z [] 0, .v 28 (.int .i64) .z [] 0]
noncomputable def impl_entriesOk.pts : List (Pt (denR (outTys impl_entriesOk.g.rts impl_entriesOk.g.pms))) := [⟨5, impl_entriesOk.s5, fun k x => impl_entriesOk.p5 k x.1 x.2.1 x.2.2.1⟩]
theorem impl_entriesOk.h5 (k : Nat) (x0 : (List Entry)) (x1 : Int) (x2 : Int) : (impl_entriesOk.p5 (k + 1) x0 x1 x2 : Option (denR (outTys impl_entriesOk.g.rts impl_entriesOk.g.pms))) = evAt (impl_entriesOk.E k) (fun κ s => lhOf k κ s impl_entriesOk.pts) 5 b79 (unproj impl_entriesOk.s5 (x0, x1, x2, ())) (OM.fin impl_entriesOk.g Try.f79.results.toList) := by kernel_rfl
theorem impl_entriesOk.hf (k : Nat) (a0 : (List Entry)) : (impl_entriesOk.f k a0 : Option (denR (outTys impl_entriesOk.g.rts impl_entriesOk.g.pms))) = evC (impl_entriesOk.E k) (fun κ s => lhOf k κ s impl_entriesOk.pts) b79 (OM.start impl_entriesOk.g.pms 0 (a0, ())) (OM.fin impl_entriesOk.g Try.f79.results.toList) := by kernel_rfl
theorem impl_entriesOk.ok (k : Nat) : SmOk Try.prog (impl_entriesOk.sm k) :=
  sm_ok mixed (E := impl_entriesOk.E) (pts := impl_entriesOk.pts) (fun k => ⟨⟨tysOk, by kernel_rfl⟩, forall_cons ⟨impl_EntryOk.ok k, e53⟩ (forall_nil)⟩) (fun _ => rfl) (fun _ => rfl)
    ⟨Try.func79, by kernel_rfl, by kernel_rfl, by kernel_rfl, by kernel_rfl, by kernel_rfl, by kernel_rfl⟩ (forall_cons (fun x => ⟨rfl, fun k => impl_entriesOk.h5 k x.1 x.2.1 x.2.2.1⟩) (forall_nil)) (fun k x => impl_entriesOk.hf k x.1) k
noncomputable def b80 : Code := Try.f80.body.getD .skip
theorem e80 : OM.Entry Try.prog 80 := ⟨_, Try.func80, by kernel_rfl, by kernel_rfl⟩
@[reducible] noncomputable def impl_placesAscend.g : Sig := ⟨[.fz (.sl tEntry)], [.v .bool .z], []⟩
@[reducible] noncomputable def impl_placesAscend.fk : Nat → denI impl_placesAscend.g.pms → Option (denR (outTys impl_placesAscend.g.rts impl_placesAscend.g.pms)) := fun k x => impl_placesAscend.f k x.1
@[reducible] noncomputable def impl_placesAscend.sm (k : Nat) : Sm := ⟨80, impl_placesAscend.g.pms, impl_placesAscend.g.rts, impl_placesAscend.fk k⟩
noncomputable def impl_placesAscend.E (k : Nat) : Env := ⟨tys, [], [11], [], []⟩
@[reducible] noncomputable def impl_placesAscend.s5 : List Slot := [.v 0 (.sl tEntry) .z [] 0, .v 20 (.sl tEntry) .z [] 0, .v 24 (.int .i64) .z [] 0, .v 28 (.int .i64) .z [] 0]
noncomputable def impl_placesAscend.pts : List (Pt (denR (outTys impl_placesAscend.g.rts impl_placesAscend.g.pms))) := [⟨5, impl_placesAscend.s5, fun k x => impl_placesAscend.p5 k x.1 x.2.1 x.2.2.1 x.2.2.2.1⟩]
theorem impl_placesAscend.h5 (k : Nat) (x0 : (List Entry)) (x1 : (List Entry)) (x2 : Int) (x3 : Int) : (impl_placesAscend.p5 (k + 1) x0 x1 x2 x3 : Option (denR (outTys impl_placesAscend.g.rts impl_placesAscend.g.pms))) = evAt (impl_placesAscend.E k) (fun κ s => lhOf k κ s impl_placesAscend.pts) 5 b80 (unproj impl_placesAscend.s5 (x0, x1, x2, x3, ())) (OM.fin impl_placesAscend.g Try.f80.results.toList) := by kernel_rfl
theorem impl_placesAscend.hf (k : Nat) (a0 : (List Entry)) : (impl_placesAscend.f k a0 : Option (denR (outTys impl_placesAscend.g.rts impl_placesAscend.g.pms))) = evC (impl_placesAscend.E k) (fun κ s => lhOf k κ s impl_placesAscend.pts) b80 (OM.start impl_placesAscend.g.pms 0 (a0, ())) (OM.fin impl_placesAscend.g Try.f80.results.toList) := by kernel_rfl
theorem impl_placesAscend.ok (k : Nat) : SmOk Try.prog (impl_placesAscend.sm k) :=
  sm_ok mixed (E := impl_placesAscend.E) (pts := impl_placesAscend.pts) (fun k => ⟨⟨tysOk, by kernel_rfl⟩, forall_nil⟩) (fun _ => rfl) (fun _ => rfl)
    ⟨Try.func80, by kernel_rfl, by kernel_rfl, by kernel_rfl, by kernel_rfl, by kernel_rfl, by kernel_rfl⟩ (forall_cons (fun x => ⟨rfl, fun k => impl_placesAscend.h5 k x.1 x.2.1 x.2.2.1 x.2.2.2.1⟩) (forall_nil)) (fun k x => impl_placesAscend.hf k x.1) k
noncomputable def b30 : Code := Try.f30.body.getD .skip
theorem e30 : OM.Entry Try.prog 30 := ⟨_, Try.func30, by kernel_rfl, by kernel_rfl⟩
@[reducible] noncomputable def impl_StoreOk.g : Sig := ⟨[.fz tStore], [.v .bool .z], []⟩
@[reducible] noncomputable def impl_StoreOk.fk : Nat → denI impl_StoreOk.g.pms → Option (denR (outTys impl_StoreOk.g.rts impl_StoreOk.g.pms)) := fun k x => impl_StoreOk.f k x.1
@[reducible] noncomputable def impl_StoreOk.sm (k : Nat) : Sm := ⟨30, impl_StoreOk.g.pms, impl_StoreOk.g.rts, impl_StoreOk.fk k⟩
noncomputable def impl_StoreOk.E (k : Nat) : Env := ⟨tys, [impl_within.sm k, impl_entriesOk.sm k, impl_placesAscend.sm k], [], [], []⟩
noncomputable def impl_StoreOk.pts : List (Pt (denR (outTys impl_StoreOk.g.rts impl_StoreOk.g.pms))) := []
theorem impl_StoreOk.hf (k : Nat) (a0 : Store) : (impl_StoreOk.f k a0 : Option (denR (outTys impl_StoreOk.g.rts impl_StoreOk.g.pms))) = evC (impl_StoreOk.E k) (fun κ s => lhOf k κ s impl_StoreOk.pts) b30 (OM.start impl_StoreOk.g.pms 0 (a0, ())) (OM.fin impl_StoreOk.g Try.f30.results.toList) := by kernel_rfl
theorem impl_StoreOk.ok (k : Nat) : SmOk Try.prog (impl_StoreOk.sm k) :=
  sm_ok mixed (E := impl_StoreOk.E) (pts := impl_StoreOk.pts) (fun k => ⟨⟨tysOk, by kernel_rfl⟩, forall_cons ⟨impl_within.ok k, e81⟩ (forall_cons ⟨impl_entriesOk.ok k, e79⟩ (forall_cons ⟨impl_placesAscend.ok k, e80⟩ (forall_nil)))⟩) (fun _ => rfl) (fun _ => rfl)
    ⟨Try.func30, by kernel_rfl, by kernel_rfl, by kernel_rfl, by kernel_rfl, by kernel_rfl, by kernel_rfl⟩ (forall_nil) (fun k x => impl_StoreOk.hf k x.1) k
noncomputable def b121 : Code := Try.f121.body.getD .skip
theorem e121 : OM.Entry Try.prog 121 := ⟨_, Try.func121, by kernel_rfl, by kernel_rfl⟩
@[reducible] noncomputable def impl_placeIn_1.g : Sig := ⟨[.fz tEntry, .fz (.int .i64)], [.v (.int .i64) .z], []⟩
@[reducible] noncomputable def impl_placeIn_1.fk : Nat → denI impl_placeIn_1.g.pms → Option (denR (outTys impl_placeIn_1.g.rts impl_placeIn_1.g.pms)) := fun k x => impl_placeIn_1.f x.1 x.2.1
@[reducible] noncomputable def impl_placeIn_1.sm (k : Nat) : Sm := ⟨121, impl_placeIn_1.g.pms, impl_placeIn_1.g.rts, impl_placeIn_1.fk k⟩
noncomputable def impl_placeIn_1.E (k : Nat) : Env := ⟨tys, [], [], [], []⟩
noncomputable def impl_placeIn_1.pts : List (Pt (denR (outTys impl_placeIn_1.g.rts impl_placeIn_1.g.pms))) := []
theorem impl_placeIn_1.hf (k : Nat) (a0 : Entry) (a1 : Int) : (impl_placeIn_1.f a0 a1 : Option (denR (outTys impl_placeIn_1.g.rts impl_placeIn_1.g.pms))) = evC (impl_placeIn_1.E k) (fun κ s => lhOf k κ s impl_placeIn_1.pts) b121 (OM.start impl_placeIn_1.g.pms 0 (a0, a1, ())) (OM.fin impl_placeIn_1.g Try.f121.results.toList) := by kernel_rfl
theorem impl_placeIn_1.ok (k : Nat) : SmOk Try.prog (impl_placeIn_1.sm k) :=
  sm_ok mixed (E := impl_placeIn_1.E) (pts := impl_placeIn_1.pts) (fun k => ⟨⟨tysOk, by kernel_rfl⟩, forall_nil⟩) (fun _ => rfl) (fun _ => rfl)
    ⟨Try.func121, by kernel_rfl, by kernel_rfl, by kernel_rfl, by kernel_rfl, by kernel_rfl, by kernel_rfl⟩ (forall_nil) (fun k x => impl_placeIn_1.hf k x.1 x.2.1) k
noncomputable def b120 : Code := Try.f120.body.getD .skip
theorem e120 : OM.Entry Try.prog 120 := ⟨_, Try.func120, by kernel_rfl, by kernel_rfl⟩
@[reducible] noncomputable def slices_BinarySearchFunc_impl_Entry_impl_Entry_int_impl_placeIn_1.g : Sig := ⟨[.fz (.sl tEntry), .fz (.int .i64), .fz (.fn 121 .unit)], [.v (.int .i64) .z, .v .bool .z], []⟩
@[reducible] noncomputable def slices_BinarySearchFunc_impl_Entry_impl_Entry_int_impl_placeIn_1.fk : Nat → denI slices_BinarySearchFunc_impl_Entry_impl_Entry_int_impl_placeIn_1.g.pms → Option (denR (outTys slices_BinarySearchFunc_impl_Entry_impl_Entry_int_impl_placeIn_1.g.rts slices_BinarySearchFunc_impl_Entry_impl_Entry_int_impl_placeIn_1.g.pms)) := fun k x => slices_BinarySearchFunc_impl_Entry_impl_Entry_int_impl_placeIn_1.f k x.1 x.2.1 x.2.2.1
@[reducible] noncomputable def slices_BinarySearchFunc_impl_Entry_impl_Entry_int_impl_placeIn_1.sm (k : Nat) : Sm := ⟨120, slices_BinarySearchFunc_impl_Entry_impl_Entry_int_impl_placeIn_1.g.pms, slices_BinarySearchFunc_impl_Entry_impl_Entry_int_impl_placeIn_1.g.rts, slices_BinarySearchFunc_impl_Entry_impl_Entry_int_impl_placeIn_1.fk k⟩
noncomputable def slices_BinarySearchFunc_impl_Entry_impl_Entry_int_impl_placeIn_1.E (k : Nat) : Env := ⟨tys, [impl_placeIn_1.sm k], [34], [], []⟩
@[reducible] noncomputable def slices_BinarySearchFunc_impl_Entry_impl_Entry_int_impl_placeIn_1.s7 : List Slot := [.v 0 (.sl tEntry) .z [] 0, .v 4 (.int .i64) .z [] 0, .v 8 (.fn 121 .unit) .z [] 0, .v 32 (.int .i64) .z [] 0, .v 36 (.int .i64) .z [] 0, .v 40 (.int .i64) .z [] 0]
noncomputable def slices_BinarySearchFunc_impl_Entry_impl_Entry_int_impl_placeIn_1.pts : List (Pt (denR (outTys slices_BinarySearchFunc_impl_Entry_impl_Entry_int_impl_placeIn_1.g.rts slices_BinarySearchFunc_impl_Entry_impl_Entry_int_impl_placeIn_1.g.pms))) := [⟨7, slices_BinarySearchFunc_impl_Entry_impl_Entry_int_impl_placeIn_1.s7, fun k x => slices_BinarySearchFunc_impl_Entry_impl_Entry_int_impl_placeIn_1.p7 k x.1 x.2.1 x.2.2.1 x.2.2.2.1 x.2.2.2.2.1 x.2.2.2.2.2.1⟩]
theorem slices_BinarySearchFunc_impl_Entry_impl_Entry_int_impl_placeIn_1.h7 (k : Nat) (x0 : (List Entry)) (x1 : Int) (x2 : Unit) (x3 : Int) (x4 : Int) (x5 : Int) : (slices_BinarySearchFunc_impl_Entry_impl_Entry_int_impl_placeIn_1.p7 (k + 1) x0 x1 x2 x3 x4 x5 : Option (denR (outTys slices_BinarySearchFunc_impl_Entry_impl_Entry_int_impl_placeIn_1.g.rts slices_BinarySearchFunc_impl_Entry_impl_Entry_int_impl_placeIn_1.g.pms))) = evAt (slices_BinarySearchFunc_impl_Entry_impl_Entry_int_impl_placeIn_1.E k) (fun κ s => lhOf k κ s slices_BinarySearchFunc_impl_Entry_impl_Entry_int_impl_placeIn_1.pts) 7 b120 (unproj slices_BinarySearchFunc_impl_Entry_impl_Entry_int_impl_placeIn_1.s7 (x0, x1, x2, x3, x4, x5, ())) (OM.fin slices_BinarySearchFunc_impl_Entry_impl_Entry_int_impl_placeIn_1.g Try.f120.results.toList) := by kernel_rfl
theorem slices_BinarySearchFunc_impl_Entry_impl_Entry_int_impl_placeIn_1.hf (k : Nat) (a0 : (List Entry)) (a1 : Int) (a2 : Unit) : (slices_BinarySearchFunc_impl_Entry_impl_Entry_int_impl_placeIn_1.f k a0 a1 a2 : Option (denR (outTys slices_BinarySearchFunc_impl_Entry_impl_Entry_int_impl_placeIn_1.g.rts slices_BinarySearchFunc_impl_Entry_impl_Entry_int_impl_placeIn_1.g.pms))) = evC (slices_BinarySearchFunc_impl_Entry_impl_Entry_int_impl_placeIn_1.E k) (fun κ s => lhOf k κ s slices_BinarySearchFunc_impl_Entry_impl_Entry_int_impl_placeIn_1.pts) b120 (OM.start slices_BinarySearchFunc_impl_Entry_impl_Entry_int_impl_placeIn_1.g.pms 0 (a0, a1, a2, ())) (OM.fin slices_BinarySearchFunc_impl_Entry_impl_Entry_int_impl_placeIn_1.g Try.f120.results.toList) := by kernel_rfl
theorem slices_BinarySearchFunc_impl_Entry_impl_Entry_int_impl_placeIn_1.ok (k : Nat) : SmOk Try.prog (slices_BinarySearchFunc_impl_Entry_impl_Entry_int_impl_placeIn_1.sm k) :=
  sm_ok mixed (E := slices_BinarySearchFunc_impl_Entry_impl_Entry_int_impl_placeIn_1.E) (pts := slices_BinarySearchFunc_impl_Entry_impl_Entry_int_impl_placeIn_1.pts) (fun k => ⟨⟨tysOk, by kernel_rfl⟩, forall_cons ⟨impl_placeIn_1.ok k, e121⟩ (forall_nil)⟩) (fun _ => rfl) (fun _ => rfl)
    ⟨Try.func120, by kernel_rfl, by kernel_rfl, by kernel_rfl, by kernel_rfl, by kernel_rfl, by kernel_rfl⟩ (forall_cons (fun x => ⟨rfl, fun k => slices_BinarySearchFunc_impl_Entry_impl_Entry_int_impl_placeIn_1.h7 k x.1 x.2.1 x.2.2.1 x.2.2.2.1 x.2.2.2.2.1 x.2.2.2.2.2.1⟩) (forall_nil)) (fun k x => slices_BinarySearchFunc_impl_Entry_impl_Entry_int_impl_placeIn_1.hf k x.1 x.2.1 x.2.2.1) k
noncomputable def b68 : Code := Try.f68.body.getD .skip
theorem e68 : OM.Entry Try.prog 68 := ⟨_, Try.func68, by kernel_rfl, by kernel_rfl⟩
@[reducible] noncomputable def impl_placeIn.g : Sig := ⟨[.fz (.sl tEntry), .fz (.int .i64)], [.v (.int .i64) .z, .v .bool .z], []⟩
@[reducible] noncomputable def impl_placeIn.fk : Nat → denI impl_placeIn.g.pms → Option (denR (outTys impl_placeIn.g.rts impl_placeIn.g.pms)) := fun k x => impl_placeIn.f k x.1 x.2.1
@[reducible] noncomputable def impl_placeIn.sm (k : Nat) : Sm := ⟨68, impl_placeIn.g.pms, impl_placeIn.g.rts, impl_placeIn.fk k⟩
noncomputable def impl_placeIn.E (k : Nat) : Env := ⟨tys, [slices_BinarySearchFunc_impl_Entry_impl_Entry_int_impl_placeIn_1.sm k], [], [], []⟩
noncomputable def impl_placeIn.pts : List (Pt (denR (outTys impl_placeIn.g.rts impl_placeIn.g.pms))) := []
theorem impl_placeIn.hf (k : Nat) (a0 : (List Entry)) (a1 : Int) : (impl_placeIn.f k a0 a1 : Option (denR (outTys impl_placeIn.g.rts impl_placeIn.g.pms))) = evC (impl_placeIn.E k) (fun κ s => lhOf k κ s impl_placeIn.pts) b68 (OM.start impl_placeIn.g.pms 0 (a0, a1, ())) (OM.fin impl_placeIn.g Try.f68.results.toList) := by kernel_rfl
theorem impl_placeIn.ok (k : Nat) : SmOk Try.prog (impl_placeIn.sm k) :=
  sm_ok mixed (E := impl_placeIn.E) (pts := impl_placeIn.pts) (fun k => ⟨⟨tysOk, by kernel_rfl⟩, forall_cons ⟨slices_BinarySearchFunc_impl_Entry_impl_Entry_int_impl_placeIn_1.ok k, e120⟩ (forall_nil)⟩) (fun _ => rfl) (fun _ => rfl)
    ⟨Try.func68, by kernel_rfl, by kernel_rfl, by kernel_rfl, by kernel_rfl, by kernel_rfl, by kernel_rfl⟩ (forall_nil) (fun k x => impl_placeIn.hf k x.1 x.2.1) k
noncomputable def b115 : Code := Try.f115.body.getD .skip
theorem e115 : OM.Entry Try.prog 115 := ⟨_, Try.func115, by kernel_rfl, by kernel_rfl⟩
@[reducible] noncomputable def impl_Better.g : Sig := ⟨[.fz tEntry, .fz tEntry], [.v tEntry .z], []⟩
@[reducible] noncomputable def impl_Better.fk : Nat → denI impl_Better.g.pms → Option (denR (outTys impl_Better.g.rts impl_Better.g.pms)) := fun k x => impl_Better.f x.1 x.2.1
@[reducible] noncomputable def impl_Better.sm (k : Nat) : Sm := ⟨115, impl_Better.g.pms, impl_Better.g.rts, impl_Better.fk k⟩
noncomputable def impl_Better.E (k : Nat) : Env := ⟨tys, [], [], [], []⟩
noncomputable def impl_Better.pts : List (Pt (denR (outTys impl_Better.g.rts impl_Better.g.pms))) := []
theorem impl_Better.hf (k : Nat) (a0 : Entry) (a1 : Entry) : (impl_Better.f a0 a1 : Option (denR (outTys impl_Better.g.rts impl_Better.g.pms))) = evC (impl_Better.E k) (fun κ s => lhOf k κ s impl_Better.pts) b115 (OM.start impl_Better.g.pms 0 (a0, a1, ())) (OM.fin impl_Better.g Try.f115.results.toList) := by kernel_rfl
theorem impl_Better.ok (k : Nat) : SmOk Try.prog (impl_Better.sm k) :=
  sm_ok mixed (E := impl_Better.E) (pts := impl_Better.pts) (fun k => ⟨⟨tysOk, by kernel_rfl⟩, forall_nil⟩) (fun _ => rfl) (fun _ => rfl)
    ⟨Try.func115, by kernel_rfl, by kernel_rfl, by kernel_rfl, by kernel_rfl, by kernel_rfl, by kernel_rfl⟩ (forall_nil) (fun k x => impl_Better.hf k x.1 x.2.1) k
noncomputable def b114 : Code := Try.f114.body.getD .skip
theorem e114 : OM.Entry Try.prog 114 := ⟨_, Try.func114, by kernel_rfl, by kernel_rfl⟩
noncomputable def slices_Insert_impl_Entry_impl_Entry.rho : Shelf.Ren := ⟨fun n => cond (Nat.beq n 21) 114 (cond (Nat.beq n 27) 144 (cond (Nat.beq n 28) 145 (n))), fun n => cond (Nat.beq n 22) 24 (cond (Nat.beq n 0) 0 (cond (Nat.beq n 3) 3 (cond (Nat.beq n 4) 4 (n)))), fun n => n⟩
theorem slices_Insert_impl_Entry_impl_Entry.lay : InsF Try.prog slices_Insert_impl_Entry_impl_Entry.rho 40 (Ty.size tEntry) 40 (.agg #[.int .i64 0, .int .i64 0, .bool false, .string ⟨#[]⟩]) := { mixed := mixed, f21 := ⟨"slices.Insert[[]loop.example/g00178/impl.Entry,loop.example/g00178/impl.Entry]", #[24, 40], by kernel_rfl, (Try.func114).trans (congrArg some (by kernel_rfl))⟩, ov := fun args w => run_callFunc_extern (P := Try.prog) (f := 144) Try.func144 (by kernel_rfl) (by kernel_rfl) (by kernel_rfl) (e := Extern.SlicesOverlaps.overlaps #[24, 24] #[4]) (by kernel_rfl) args w, t0 := Try.underlying0, a0 := Try.isAgg0, z0 := Try.sizeOf0, v0 := Try.zeroValue0, t3 := Try.underlying3, a3 := Try.isAgg3, z3 := Try.sizeOf3, v3 := Try.zeroValue3, t4 := Try.underlying4, a4 := Try.isAgg4, z4 := Try.sizeOf4, v4 := Try.zeroValue4, t22 := Try.underlying24, a22 := Try.isAgg24, z22 := Try.sizeOf24, v22 := Try.zeroValue24, ie := by kernel_rfl, ze := Try.sizeOf40 }
@[reducible] noncomputable def slices_Insert_impl_Entry_impl_Entry.g : Sig := ⟨[.own (.sl tEntry) (.own .z), .fz (.int .i64), .fz (.sl tEntry)], [.v (.sl tEntry) (.own .z)], []⟩
@[reducible] noncomputable def slices_Insert_impl_Entry_impl_Entry.fk : Nat → denI slices_Insert_impl_Entry_impl_Entry.g.pms → Option (denR (outTys slices_Insert_impl_Entry_impl_Entry.g.rts slices_Insert_impl_Entry_impl_Entry.g.pms)) := fun k x => slices_Insert_impl_Entry_impl_Entry.f x.1 x.2.1 x.2.2.1
@[reducible] noncomputable def slices_Insert_impl_Entry_impl_Entry.sm (k : Nat) : Sm := ⟨114, slices_Insert_impl_Entry_impl_Entry.g.pms, slices_Insert_impl_Entry_impl_Entry.g.rts, slices_Insert_impl_Entry_impl_Entry.fk k⟩
theorem slices_Insert_impl_Entry_impl_Entry.ok (k : Nat) : SmOk Try.prog (slices_Insert_impl_Entry_impl_Entry.sm k) :=
  ins_ok (E := ⟨tys, [], [], [], []⟩) ⟨tysOk, rfl⟩ slices_Insert_impl_Entry_impl_Entry.lay (by kernel_rfl) (by decide) (by kernel_rfl) (by decide)

noncomputable def b59 : Code := Try.f59.body.getD .skip
theorem e59 : OM.Entry Try.prog 59 := ⟨_, Try.func59, by kernel_rfl, by kernel_rfl⟩
@[reducible] noncomputable def impl_kept.g : Sig := ⟨[.own (.sl tEntry) (.own .z), .fz tEntry], [.v (.sl tEntry) (.own .z)], []⟩
@[reducible] noncomputable def impl_kept.fk : Nat → denI impl_kept.g.pms → Option (denR (outTys impl_kept.g.rts impl_kept.g.pms)) := fun k x => impl_kept.f k x.1 x.2.1
@[reducible] noncomputable def impl_kept.sm (k : Nat) : Sm := ⟨59, impl_kept.g.pms, impl_kept.g.rts, impl_kept.fk k⟩
noncomputable def impl_kept.E (k : Nat) : Env := ⟨tys, [impl_placeIn.sm k, impl_Better.sm k, slices_Insert_impl_Entry_impl_Entry.sm k], [18], [], []⟩
noncomputable def impl_kept.pts : List (Pt (denR (outTys impl_kept.g.rts impl_kept.g.pms))) := []
theorem impl_kept.hf (k : Nat) (a0 : (List Entry)) (a1 : Entry) : (impl_kept.f k a0 a1 : Option (denR (outTys impl_kept.g.rts impl_kept.g.pms))) = evC (impl_kept.E k) (fun κ s => lhOf k κ s impl_kept.pts) b59 (OM.start impl_kept.g.pms 0 (a0, a1, ())) (OM.fin impl_kept.g Try.f59.results.toList) := by kernel_rfl
theorem impl_kept.ok (k : Nat) : SmOk Try.prog (impl_kept.sm k) :=
  sm_ok mixed (E := impl_kept.E) (pts := impl_kept.pts) (fun k => ⟨⟨tysOk, by kernel_rfl⟩, forall_cons ⟨impl_placeIn.ok k, e68⟩ (forall_cons ⟨impl_Better.ok k, e115⟩ (forall_cons ⟨slices_Insert_impl_Entry_impl_Entry.ok k, e114⟩ (forall_nil)))⟩) (fun _ => rfl) (fun _ => rfl)
    ⟨Try.func59, by kernel_rfl, by kernel_rfl, by kernel_rfl, by kernel_rfl, by kernel_rfl, by kernel_rfl⟩ (forall_nil) (fun k x => impl_kept.hf k x.1 x.2.1) k
noncomputable def b12 : Code := Try.f12.body.getD .skip
theorem e12 : OM.Entry Try.prog 12 := ⟨_, Try.func12, by kernel_rfl, by kernel_rfl⟩
@[reducible] noncomputable def impl_Union.g : Sig := ⟨[.fz (.sl tStore)], [.v (.sl tEntry) (.own .z)], []⟩
@[reducible] noncomputable def impl_Union.fk : Nat → denI impl_Union.g.pms → Option (denR (outTys impl_Union.g.rts impl_Union.g.pms)) := fun k x => impl_Union.f k x.1
@[reducible] noncomputable def impl_Union.sm (k : Nat) : Sm := ⟨12, impl_Union.g.pms, impl_Union.g.rts, impl_Union.fk k⟩
noncomputable def impl_Union.E (k : Nat) : Env := ⟨tys, [impl_StoreOk.sm k, impl_kept.sm k], [14, 24], [], []⟩
@[reducible] noncomputable def impl_Union.s7 : List Slot := [.v 12 (.sl tEntry) (.own .z) [] 0, .v 36 (.sl tStore) .z [] 0, .v 40 (.int .i64) .z [] 0, .v 44 (.int .i64) .z [] 0]
@[reducible] noncomputable def impl_Union.s17 : List Slot := [.v 12 (.sl tEntry) (.own .z) [] 0, .v 36 (.sl tStore) .z [] 0, .v 40 (.int .i64) .z [] 0, .v 44 (.int .i64) .z [] 0, .v 76 (.sl tEntry) .z [] 0, .v 80 (.int .i64) .z [] 0, .v 84 (.int .i64) .z [] 0]
noncomputable def impl_Union.pts : List (Pt (denR (outTys impl_Union.g.rts impl_Union.g.pms))) := [⟨7, impl_Union.s7, fun k x => impl_Union.p7 k x.1 x.2.1 x.2.2.1 x.2.2.2.1⟩, ⟨17, impl_Union.s17, fun k x => impl_Union.p17 k x.1 x.2.1 x.2.2.1 x.2.2.2.1 x.2.2.2.2.1 x.2.2.2.2.2.1 x.2.2.2.2.2.2.1⟩]
theorem impl_Union.h7 (k : Nat) (x0 : (List Entry)) (x1 : (List Store)) (x2 : Int) (x3 : Int) : (impl_Union.p7 (k + 1) x0 x1 x2 x3 : Option (denR (outTys impl_Union.g.rts impl_Union.g.pms))) = evAt (impl_Union.E k) (fun κ s => lhOf k κ s impl_Union.pts) 7 b12 (unproj impl_Union.s7 (x0, x1, x2, x3, ())) (OM.fin impl_Union.g Try.f12.results.toList) := by kernel_rfl
theorem impl_Union.h17 (k : Nat) (x0 : (List Entry)) (x1 : (List Store)) (x2 : Int) (x3 : Int) (x4 : (List Entry)) (x5 : Int) (x6 : Int) : (impl_Union.p17 (k + 1) x0 x1 x2 x3 x4 x5 x6 : Option (denR (outTys impl_Union.g.rts impl_Union.g.pms))) = evAt (impl_Union.E k) (fun κ s => lhOf k κ s impl_Union.pts) 17 b12 (unproj impl_Union.s17 (x0, x1, x2, x3, x4, x5, x6, ())) (OM.fin impl_Union.g Try.f12.results.toList) := by kernel_rfl
theorem impl_Union.hf (k : Nat) (a0 : (List Store)) : (impl_Union.f k a0 : Option (denR (outTys impl_Union.g.rts impl_Union.g.pms))) = evC (impl_Union.E k) (fun κ s => lhOf k κ s impl_Union.pts) b12 (OM.start impl_Union.g.pms 0 (a0, ())) (OM.fin impl_Union.g Try.f12.results.toList) := by kernel_rfl
theorem impl_Union.ok (k : Nat) : SmOk Try.prog (impl_Union.sm k) :=
  sm_ok mixed (E := impl_Union.E) (pts := impl_Union.pts) (fun k => ⟨⟨tysOk, by kernel_rfl⟩, forall_cons ⟨impl_StoreOk.ok k, e30⟩ (forall_cons ⟨impl_kept.ok k, e59⟩ (forall_nil))⟩) (fun _ => rfl) (fun _ => rfl)
    ⟨Try.func12, by kernel_rfl, by kernel_rfl, by kernel_rfl, by kernel_rfl, by kernel_rfl, by kernel_rfl⟩ (forall_cons (fun x => ⟨rfl, fun k => impl_Union.h7 k x.1 x.2.1 x.2.2.1 x.2.2.2.1⟩) (forall_cons (fun x => ⟨rfl, fun k => impl_Union.h17 k x.1 x.2.1 x.2.2.1 x.2.2.2.1 x.2.2.2.2.1 x.2.2.2.2.2.1 x.2.2.2.2.2.2.1⟩) (forall_nil))) (fun k x => impl_Union.hf k x.1) k
noncomputable def b25 : Code := Try.f25.body.getD .skip
theorem e25 : OM.Entry Try.prog 25 := ⟨_, Try.func25, by kernel_rfl, by kernel_rfl⟩
@[reducible] noncomputable def impl_Fill.g : Sig := ⟨[.fz tConfig, .fz (.sl tStore), .fz (.sl (.int .i64)), .fz (.int .i64), .fz (.int .i64)], [.v tStore (.two (.own .z) (.two (.own .a) .z)), .v .bool .z], []⟩
@[reducible] noncomputable def impl_Fill.fk : Nat → denI impl_Fill.g.pms → Option (denR (outTys impl_Fill.g.rts impl_Fill.g.pms)) := fun k x => impl_Fill.f k x.1 x.2.1 x.2.2.1 x.2.2.2.1 x.2.2.2.2.1
@[reducible] noncomputable def impl_Fill.sm (k : Nat) : Sm := ⟨25, impl_Fill.g.pms, impl_Fill.g.rts, impl_Fill.fk k⟩
noncomputable def impl_Fill.E (k : Nat) : Env := ⟨tys, [slices_Contains_int_int.sm k, impl_LostOk.sm k, impl_StoreOk.sm k, impl_Union.sm k], [42, 51, 57], [], []⟩
@[reducible] noncomputable def impl_Fill.s11 : List Slot := [.v 8 (.sl (.int .i64)) .z [] 0, .v 16 (.int .i64) .z [] 0, .r 40 41 [] tStore, .v 48 (.sl tStore) (.own .z) [] 0, .v 144 (.sl tStore) .z [] 0, .v 148 (.int .i64) .z [] 0, .v 152 (.int .i64) .z [] 0, .v 41 tStore (.two (.own .a) (.two (.own .a) .z)) [] 0]
noncomputable def impl_Fill.pts : List (Pt (denR (outTys impl_Fill.g.rts impl_Fill.g.pms))) := [⟨11, impl_Fill.s11, fun k x => impl_Fill.p11 k x.1 x.2.1 x.2.2.1 x.2.2.2.1 x.2.2.2.2.1 x.2.2.2.2.2.1 x.2.2.2.2.2.2.1⟩]
theorem impl_Fill.h11 (k : Nat) (x0 : (List Int)) (x1 : Int) (x2 : (List Store)) (x3 : (List Store)) (x4 : Int) (x5 : Int) (x6 : Store) : (impl_Fill.p11 (k + 1) x0 x1 x2 x3 x4 x5 x6 : Option (denR (outTys impl_Fill.g.rts impl_Fill.g.pms))) = evAt (impl_Fill.E k) (fun κ s => lhOf k κ s impl_Fill.pts) 11 b25 (unproj impl_Fill.s11 (x0, x1, x2, x3, x4, x5, x6, ())) (OM.fin impl_Fill.g Try.f25.results.toList) := by kernel_rfl
theorem impl_Fill.hf (k : Nat) (a0 : Config) (a1 : (List Store)) (a2 : (List Int)) (a3 : Int) (a4 : Int) : (impl_Fill.f k a0 a1 a2 a3 a4 : Option (denR (outTys impl_Fill.g.rts impl_Fill.g.pms))) = evC (impl_Fill.E k) (fun κ s => lhOf k κ s impl_Fill.pts) b25 (OM.start impl_Fill.g.pms 0 (a0, a1, a2, a3, a4, ())) (OM.fin impl_Fill.g Try.f25.results.toList) := by kernel_rfl
theorem impl_Fill.ok (k : Nat) : SmOk Try.prog (impl_Fill.sm k) :=
  sm_ok mixed (E := impl_Fill.E) (pts := impl_Fill.pts) (fun k => ⟨⟨tysOk, by kernel_rfl⟩, forall_cons ⟨slices_Contains_int_int.ok k, e73⟩ (forall_cons ⟨impl_LostOk.ok k, e27⟩ (forall_cons ⟨impl_StoreOk.ok k, e30⟩ (forall_cons ⟨impl_Union.ok k, e12⟩ (forall_nil))))⟩) (fun _ => rfl) (fun _ => rfl)
    ⟨Try.func25, by kernel_rfl, by kernel_rfl, by kernel_rfl, by kernel_rfl, by kernel_rfl, by kernel_rfl⟩ (forall_cons (fun x => ⟨rfl, fun k => impl_Fill.h11 k x.1 x.2.1 x.2.2.1 x.2.2.2.1 x.2.2.2.2.1 x.2.2.2.2.2.1 x.2.2.2.2.2.2.1⟩) (forall_nil)) (fun k x => impl_Fill.hf k x.1 x.2.1 x.2.2.1 x.2.2.2.1 x.2.2.2.2.1) k
noncomputable def b74 : Code := Try.f74.body.getD .skip
theorem e74 : OM.Entry Try.prog 74 := ⟨_, Try.func74, by kernel_rfl, by kernel_rfl⟩
@[reducible] noncomputable def spec_ConfigOk.g : Sig := ⟨[.fz tConfig], [.v .bool .z], []⟩
@[reducible] noncomputable def spec_ConfigOk.fk : Nat → denI spec_ConfigOk.g.pms → Option (denR (outTys spec_ConfigOk.g.rts spec_ConfigOk.g.pms)) := fun k x => spec_ConfigOk.f k x.1
@[reducible] noncomputable def spec_ConfigOk.sm (k : Nat) : Sm := ⟨74, spec_ConfigOk.g.pms, spec_ConfigOk.g.rts, spec_ConfigOk.fk k⟩
noncomputable def spec_ConfigOk.E (k : Nat) : Env := ⟨tys, [spec_l1In.sm k], [], [], []⟩
@[reducible] noncomputable def spec_ConfigOk.s9 : List Slot := [.r 4 5 [] tConfig, .v 12 (.int .i64) .z [] 0, .v 5 tConfig .z [] 0]
noncomputable def spec_ConfigOk.pts : List (Pt (denR (outTys spec_ConfigOk.g.rts spec_ConfigOk.g.pms))) := [⟨9, spec_ConfigOk.s9, fun k x => spec_ConfigOk.p9 k x.1 x.2.1⟩]
theorem spec_ConfigOk.h9 (k : Nat) (x0 : Int) (x1 : Config) : (spec_ConfigOk.p9 (k + 1) x0 x1 : Option (denR (outTys spec_ConfigOk.g.rts spec_ConfigOk.g.pms))) = evAt (spec_ConfigOk.E k) (fun κ s => lhOf k κ s spec_ConfigOk.pts) 9 b74 (unproj spec_ConfigOk.s9 (x0, x1, ())) (OM.fin spec_ConfigOk.g Try.f74.results.toList) := by kernel_rfl
theorem spec_ConfigOk.hf (k : Nat) (a0 : Config) : (spec_ConfigOk.f k a0 : Option (denR (outTys spec_ConfigOk.g.rts spec_ConfigOk.g.pms))) = evC (spec_ConfigOk.E k) (fun κ s => lhOf k κ s spec_ConfigOk.pts) b74 (OM.start spec_ConfigOk.g.pms 0 (a0, ())) (OM.fin spec_ConfigOk.g Try.f74.results.toList) := by kernel_rfl
theorem spec_ConfigOk.ok (k : Nat) : SmOk Try.prog (spec_ConfigOk.sm k) :=
  sm_ok mixed (E := spec_ConfigOk.E) (pts := spec_ConfigOk.pts) (fun k => ⟨⟨tysOk, by kernel_rfl⟩, forall_cons ⟨spec_l1In.ok k, e67⟩ (forall_nil)⟩) (fun _ => rfl) (fun _ => rfl)
    ⟨Try.func74, by kernel_rfl, by kernel_rfl, by kernel_rfl, by kernel_rfl, by kernel_rfl, by kernel_rfl⟩ (forall_cons (fun x => ⟨rfl, fun k => spec_ConfigOk.h9 k x.1 x.2.1⟩) (forall_nil)) (fun k x => spec_ConfigOk.hf k x.1) k
noncomputable def b124 : Code := Try.f124.body.getD .skip
theorem e124 : OM.Entry Try.prog 124 := ⟨_, Try.func124, by kernel_rfl, by kernel_rfl⟩
@[reducible] noncomputable def spec_l4Asc.g : Sig := ⟨[.fz (.sl (.int .i64)), .fz (.int .i64), .fz (.int .i64)], [.v .bool .z], []⟩
@[reducible] noncomputable def spec_l4Asc.fk : Nat → denI spec_l4Asc.g.pms → Option (denR (outTys spec_l4Asc.g.rts spec_l4Asc.g.pms)) := fun k x => spec_l4Asc.f k x.1 x.2.1 x.2.2.1
@[reducible] noncomputable def spec_l4Asc.sm (k : Nat) : Sm := ⟨124, spec_l4Asc.g.pms, spec_l4Asc.g.rts, spec_l4Asc.fk k⟩
noncomputable def spec_l4Asc.E (k : Nat) : Env := ⟨tys, [spec_l1In.sm k], [], [], []⟩
@[reducible] noncomputable def spec_l4Asc.s5 : List Slot := [.v 0 (.sl (.int .i64)) .z [] 0, .v 4 (.int .i64) .z [] 0, .v 8 (.int .i64) .z [] 0, .v 28 (.int .i64) .z [] 0]
noncomputable def spec_l4Asc.pts : List (Pt (denR (outTys spec_l4Asc.g.rts spec_l4Asc.g.pms))) := [⟨5, spec_l4Asc.s5, fun k x => spec_l4Asc.p5 k x.1 x.2.1 x.2.2.1 x.2.2.2.1⟩]
theorem spec_l4Asc.h5 (k : Nat) (x0 : (List Int)) (x1 : Int) (x2 : Int) (x3 : Int) : (spec_l4Asc.p5 (k + 1) x0 x1 x2 x3 : Option (denR (outTys spec_l4Asc.g.rts spec_l4Asc.g.pms))) = evAt (spec_l4Asc.E k) (fun κ s => lhOf k κ s spec_l4Asc.pts) 5 b124 (unproj spec_l4Asc.s5 (x0, x1, x2, x3, ())) (OM.fin spec_l4Asc.g Try.f124.results.toList) := by kernel_rfl
theorem spec_l4Asc.hf (k : Nat) (a0 : (List Int)) (a1 : Int) (a2 : Int) : (spec_l4Asc.f k a0 a1 a2 : Option (denR (outTys spec_l4Asc.g.rts spec_l4Asc.g.pms))) = evC (spec_l4Asc.E k) (fun κ s => lhOf k κ s spec_l4Asc.pts) b124 (OM.start spec_l4Asc.g.pms 0 (a0, a1, a2, ())) (OM.fin spec_l4Asc.g Try.f124.results.toList) := by kernel_rfl
theorem spec_l4Asc.ok (k : Nat) : SmOk Try.prog (spec_l4Asc.sm k) :=
  sm_ok mixed (E := spec_l4Asc.E) (pts := spec_l4Asc.pts) (fun k => ⟨⟨tysOk, by kernel_rfl⟩, forall_cons ⟨spec_l1In.ok k, e67⟩ (forall_nil)⟩) (fun _ => rfl) (fun _ => rfl)
    ⟨Try.func124, by kernel_rfl, by kernel_rfl, by kernel_rfl, by kernel_rfl, by kernel_rfl, by kernel_rfl⟩ (forall_cons (fun x => ⟨rfl, fun k => spec_l4Asc.h5 k x.1 x.2.1 x.2.2.1 x.2.2.2.1⟩) (forall_nil)) (fun k x => spec_l4Asc.hf k x.1 x.2.1 x.2.2.1) k
noncomputable def b77 : Code := Try.f77.body.getD .skip
theorem e77 : OM.Entry Try.prog 77 := ⟨_, Try.func77, by kernel_rfl, by kernel_rfl⟩
@[reducible] noncomputable def spec_NodesOk.g : Sig := ⟨[.fz tConfig, .fz (.sl (.int .i64))], [.v .bool .z], []⟩
@[reducible] noncomputable def spec_NodesOk.fk : Nat → denI spec_NodesOk.g.pms → Option (denR (outTys spec_NodesOk.g.rts spec_NodesOk.g.pms)) := fun k x => spec_NodesOk.f k x.1 x.2.1
@[reducible] noncomputable def spec_NodesOk.sm (k : Nat) : Sm := ⟨77, spec_NodesOk.g.pms, spec_NodesOk.g.rts, spec_NodesOk.fk k⟩
noncomputable def spec_NodesOk.E (k : Nat) : Env := ⟨tys, [spec_ConfigOk.sm k, spec_l4Asc.sm k], [], [], []⟩
noncomputable def spec_NodesOk.pts : List (Pt (denR (outTys spec_NodesOk.g.rts spec_NodesOk.g.pms))) := []
theorem spec_NodesOk.hf (k : Nat) (a0 : Config) (a1 : (List Int)) : (spec_NodesOk.f k a0 a1 : Option (denR (outTys spec_NodesOk.g.rts spec_NodesOk.g.pms))) = evC (spec_NodesOk.E k) (fun κ s => lhOf k κ s spec_NodesOk.pts) b77 (OM.start spec_NodesOk.g.pms 0 (a0, a1, ())) (OM.fin spec_NodesOk.g Try.f77.results.toList) := by kernel_rfl
theorem spec_NodesOk.ok (k : Nat) : SmOk Try.prog (spec_NodesOk.sm k) :=
  sm_ok mixed (E := spec_NodesOk.E) (pts := spec_NodesOk.pts) (fun k => ⟨⟨tysOk, by kernel_rfl⟩, forall_cons ⟨spec_ConfigOk.ok k, e74⟩ (forall_cons ⟨spec_l4Asc.ok k, e124⟩ (forall_nil))⟩) (fun _ => rfl) (fun _ => rfl)
    ⟨Try.func77, by kernel_rfl, by kernel_rfl, by kernel_rfl, by kernel_rfl, by kernel_rfl, by kernel_rfl⟩ (forall_nil) (fun k x => spec_NodesOk.hf k x.1 x.2.1) k
noncomputable def b125 : Code := Try.f125.body.getD .skip
theorem e125 : OM.Entry Try.prog 125 := ⟨_, Try.func125, by kernel_rfl, by kernel_rfl⟩
@[reducible] noncomputable def spec_l4Span.g : Sig := ⟨[.fz tConfig, .fz (.sl (.int .i64))], [.v (.int .i64) .z], []⟩
@[reducible] noncomputable def spec_l4Span.fk : Nat → denI spec_l4Span.g.pms → Option (denR (outTys spec_l4Span.g.rts spec_l4Span.g.pms)) := fun k x => spec_l4Span.f k x.1 x.2.1
@[reducible] noncomputable def spec_l4Span.sm (k : Nat) : Sm := ⟨125, spec_l4Span.g.pms, spec_l4Span.g.rts, spec_l4Span.fk k⟩
noncomputable def spec_l4Span.E (k : Nat) : Env := ⟨tys, [], [23], [], []⟩
@[reducible] noncomputable def spec_l4Span.s9 : List Slot := [.v 4 (.sl (.int .i64)) .z [] 0, .r 8 9 [] tConfig, .v 20 (.sl .bool) (.own .z) [] 0, .v 24 (.int .i64) .z [] 0, .v 28 (.int .i64) .z [] 0, .v 9 tConfig .z [] 0]
noncomputable def spec_l4Span.pts : List (Pt (denR (outTys spec_l4Span.g.rts spec_l4Span.g.pms))) := [⟨9, spec_l4Span.s9, fun k x => spec_l4Span.p9 k x.1 x.2.1 x.2.2.1 x.2.2.2.1 x.2.2.2.2.1⟩]
theorem spec_l4Span.h9 (k : Nat) (x0 : (List Int)) (x1 : (List Bool)) (x2 : Int) (x3 : Int) (x4 : Config) : (spec_l4Span.p9 (k + 1) x0 x1 x2 x3 x4 : Option (denR (outTys spec_l4Span.g.rts spec_l4Span.g.pms))) = evAt (spec_l4Span.E k) (fun κ s => lhOf k κ s spec_l4Span.pts) 9 b125 (unproj spec_l4Span.s9 (x0, x1, x2, x3, x4, ())) (OM.fin spec_l4Span.g Try.f125.results.toList) := by kernel_rfl
theorem spec_l4Span.hf (k : Nat) (a0 : Config) (a1 : (List Int)) : (spec_l4Span.f k a0 a1 : Option (denR (outTys spec_l4Span.g.rts spec_l4Span.g.pms))) = evC (spec_l4Span.E k) (fun κ s => lhOf k κ s spec_l4Span.pts) b125 (OM.start spec_l4Span.g.pms 0 (a0, a1, ())) (OM.fin spec_l4Span.g Try.f125.results.toList) := by kernel_rfl
theorem spec_l4Span.ok (k : Nat) : SmOk Try.prog (spec_l4Span.sm k) :=
  sm_ok mixed (E := spec_l4Span.E) (pts := spec_l4Span.pts) (fun k => ⟨⟨tysOk, by kernel_rfl⟩, forall_nil⟩) (fun _ => rfl) (fun _ => rfl)
    ⟨Try.func125, by kernel_rfl, by kernel_rfl, by kernel_rfl, by kernel_rfl, by kernel_rfl, by kernel_rfl⟩ (forall_cons (fun x => ⟨rfl, fun k => spec_l4Span.h9 k x.1 x.2.1 x.2.2.1 x.2.2.2.1 x.2.2.2.2.1⟩) (forall_nil)) (fun k x => spec_l4Span.hf k x.1 x.2.1) k
noncomputable def b78 : Code := Try.f78.body.getD .skip
theorem e78 : OM.Entry Try.prog 78 := ⟨_, Try.func78, by kernel_rfl, by kernel_rfl⟩
@[reducible] noncomputable def spec_Holds.g : Sig := ⟨[.fz tConfig, .fz (.sl (.int .i64))], [.v .bool .z], []⟩
@[reducible] noncomputable def spec_Holds.fk : Nat → denI spec_Holds.g.pms → Option (denR (outTys spec_Holds.g.rts spec_Holds.g.pms)) := fun k x => spec_Holds.f k x.1 x.2.1
@[reducible] noncomputable def spec_Holds.sm (k : Nat) : Sm := ⟨78, spec_Holds.g.pms, spec_Holds.g.rts, spec_Holds.fk k⟩
noncomputable def spec_Holds.E (k : Nat) : Env := ⟨tys, [spec_NodesOk.sm k, spec_l4Span.sm k], [], [], []⟩
noncomputable def spec_Holds.pts : List (Pt (denR (outTys spec_Holds.g.rts spec_Holds.g.pms))) := []
theorem spec_Holds.hf (k : Nat) (a0 : Config) (a1 : (List Int)) : (spec_Holds.f k a0 a1 : Option (denR (outTys spec_Holds.g.rts spec_Holds.g.pms))) = evC (spec_Holds.E k) (fun κ s => lhOf k κ s spec_Holds.pts) b78 (OM.start spec_Holds.g.pms 0 (a0, a1, ())) (OM.fin spec_Holds.g Try.f78.results.toList) := by kernel_rfl
theorem spec_Holds.ok (k : Nat) : SmOk Try.prog (spec_Holds.sm k) :=
  sm_ok mixed (E := spec_Holds.E) (pts := spec_Holds.pts) (fun k => ⟨⟨tysOk, by kernel_rfl⟩, forall_cons ⟨spec_NodesOk.ok k, e77⟩ (forall_cons ⟨spec_l4Span.ok k, e125⟩ (forall_nil))⟩) (fun _ => rfl) (fun _ => rfl)
    ⟨Try.func78, by kernel_rfl, by kernel_rfl, by kernel_rfl, by kernel_rfl, by kernel_rfl, by kernel_rfl⟩ (forall_nil) (fun k x => spec_Holds.hf k x.1 x.2.1) k
noncomputable def b28 : Code := Try.f28.body.getD .skip
theorem e28 : OM.Entry Try.prog 28 := ⟨_, Try.func28, by kernel_rfl, by kernel_rfl⟩
@[reducible] noncomputable def spec_LostOk.g : Sig := ⟨[.fz tConfig, .fz (.sl (.int .i64))], [.v .bool .z], []⟩
@[reducible] noncomputable def spec_LostOk.fk : Nat → denI spec_LostOk.g.pms → Option (denR (outTys spec_LostOk.g.rts spec_LostOk.g.pms)) := fun k x => spec_LostOk.f k x.1 x.2.1
@[reducible] noncomputable def spec_LostOk.sm (k : Nat) : Sm := ⟨28, spec_LostOk.g.pms, spec_LostOk.g.rts, spec_LostOk.fk k⟩
noncomputable def spec_LostOk.E (k : Nat) : Env := ⟨tys, [spec_NodesOk.sm k, spec_Holds.sm k], [], [], []⟩
noncomputable def spec_LostOk.pts : List (Pt (denR (outTys spec_LostOk.g.rts spec_LostOk.g.pms))) := []
theorem spec_LostOk.hf (k : Nat) (a0 : Config) (a1 : (List Int)) : (spec_LostOk.f k a0 a1 : Option (denR (outTys spec_LostOk.g.rts spec_LostOk.g.pms))) = evC (spec_LostOk.E k) (fun κ s => lhOf k κ s spec_LostOk.pts) b28 (OM.start spec_LostOk.g.pms 0 (a0, a1, ())) (OM.fin spec_LostOk.g Try.f28.results.toList) := by kernel_rfl
theorem spec_LostOk.ok (k : Nat) : SmOk Try.prog (spec_LostOk.sm k) :=
  sm_ok mixed (E := spec_LostOk.E) (pts := spec_LostOk.pts) (fun k => ⟨⟨tysOk, by kernel_rfl⟩, forall_cons ⟨spec_NodesOk.ok k, e77⟩ (forall_cons ⟨spec_Holds.ok k, e78⟩ (forall_nil))⟩) (fun _ => rfl) (fun _ => rfl)
    ⟨Try.func28, by kernel_rfl, by kernel_rfl, by kernel_rfl, by kernel_rfl, by kernel_rfl, by kernel_rfl⟩ (forall_nil) (fun k x => spec_LostOk.hf k x.1 x.2.1) k
noncomputable def b57 : Code := Try.f57.body.getD .skip
theorem e57 : OM.Entry Try.prog 57 := ⟨_, Try.func57, by kernel_rfl, by kernel_rfl⟩
@[reducible] noncomputable def spec_l11Union.g : Sig := ⟨[.fz (.sl tStore)], [.v (.sl tEntry) (.own .z)], []⟩
@[reducible] noncomputable def spec_l11Union.fk : Nat → denI spec_l11Union.g.pms → Option (denR (outTys spec_l11Union.g.rts spec_l11Union.g.pms)) := fun k x => spec_l11Union.f k x.1
@[reducible] noncomputable def spec_l11Union.sm (k : Nat) : Sm := ⟨57, spec_l11Union.g.pms, spec_l11Union.g.rts, spec_l11Union.fk k⟩
noncomputable def spec_l11Union.E (k : Nat) : Env := ⟨tys, [spec_l6Keep.sm k], [], [], []⟩
@[reducible] noncomputable def spec_l11Union.s7 : List Slot := [.v 0 (.sl tStore) .z [] 0, .v 12 (.sl tEntry) (.own .z) [] 0, .v 16 (.int .i64) .z [] 0]
@[reducible] noncomputable def spec_l11Union.s13 : List Slot := [.v 0 (.sl tStore) .z [] 0, .v 12 (.sl tEntry) (.own .z) [] 0, .v 16 (.int .i64) .z [] 0, .v 20 (.int .i64) .z [] 0]
noncomputable def spec_l11Union.pts : List (Pt (denR (outTys spec_l11Union.g.rts spec_l11Union.g.pms))) := [⟨7, spec_l11Union.s7, fun k x => spec_l11Union.p7 k x.1 x.2.1 x.2.2.1⟩, ⟨13, spec_l11Union.s13, fun k x => spec_l11Union.p13 k x.1 x.2.1 x.2.2.1 x.2.2.2.1⟩]
theorem spec_l11Union.h7 (k : Nat) (x0 : (List Store)) (x1 : (List Entry)) (x2 : Int) : (spec_l11Union.p7 (k + 1) x0 x1 x2 : Option (denR (outTys spec_l11Union.g.rts spec_l11Union.g.pms))) = evAt (spec_l11Union.E k) (fun κ s => lhOf k κ s spec_l11Union.pts) 7 b57 (unproj spec_l11Union.s7 (x0, x1, x2, ())) (OM.fin spec_l11Union.g Try.f57.results.toList) := by kernel_rfl
theorem spec_l11Union.h13 (k : Nat) (x0 : (List Store)) (x1 : (List Entry)) (x2 : Int) (x3 : Int) : (spec_l11Union.p13 (k + 1) x0 x1 x2 x3 : Option (denR (outTys spec_l11Union.g.rts spec_l11Union.g.pms))) = evAt (spec_l11Union.E k) (fun κ s => lhOf k κ s spec_l11Union.pts) 13 b57 (unproj spec_l11Union.s13 (x0, x1, x2, x3, ())) (OM.fin spec_l11Union.g Try.f57.results.toList) := by kernel_rfl
theorem spec_l11Union.hf (k : Nat) (a0 : (List Store)) : (spec_l11Union.f k a0 : Option (denR (outTys spec_l11Union.g.rts spec_l11Union.g.pms))) = evC (spec_l11Union.E k) (fun κ s => lhOf k κ s spec_l11Union.pts) b57 (OM.start spec_l11Union.g.pms 0 (a0, ())) (OM.fin spec_l11Union.g Try.f57.results.toList) := by kernel_rfl
theorem spec_l11Union.ok (k : Nat) : SmOk Try.prog (spec_l11Union.sm k) :=
  sm_ok mixed (E := spec_l11Union.E) (pts := spec_l11Union.pts) (fun k => ⟨⟨tysOk, by kernel_rfl⟩, forall_cons ⟨spec_l6Keep.ok k, e113⟩ (forall_nil)⟩) (fun _ => rfl) (fun _ => rfl)
    ⟨Try.func57, by kernel_rfl, by kernel_rfl, by kernel_rfl, by kernel_rfl, by kernel_rfl, by kernel_rfl⟩ (forall_cons (fun x => ⟨rfl, fun k => spec_l11Union.h7 k x.1 x.2.1 x.2.2.1⟩) (forall_cons (fun x => ⟨rfl, fun k => spec_l11Union.h13 k x.1 x.2.1 x.2.2.1 x.2.2.2.1⟩) (forall_nil))) (fun k x => spec_l11Union.hf k x.1) k
noncomputable def b26 : Code := Try.f26.body.getD .skip
theorem e26 : OM.Entry Try.prog 26 := ⟨_, Try.func26, by kernel_rfl, by kernel_rfl⟩
@[reducible] noncomputable def spec_Fill.g : Sig := ⟨[.fz tConfig, .fz (.sl tStore), .fz (.sl (.int .i64)), .fz (.int .i64), .fz (.int .i64)], [.v tStore (.two (.own .z) (.two (.own .a) .z)), .v .bool .z], []⟩
@[reducible] noncomputable def spec_Fill.fk : Nat → denI spec_Fill.g.pms → Option (denR (outTys spec_Fill.g.rts spec_Fill.g.pms)) := fun k x => spec_Fill.f k x.1 x.2.1 x.2.2.1 x.2.2.2.1 x.2.2.2.2.1
@[reducible] noncomputable def spec_Fill.sm (k : Nat) : Sm := ⟨26, spec_Fill.g.pms, spec_Fill.g.rts, spec_Fill.fk k⟩
noncomputable def spec_Fill.E (k : Nat) : Env := ⟨tys, [spec_StoreOk.sm k, spec_l4Has.sm k, spec_ConfigOk.sm k, spec_LostOk.sm k, spec_l11Union.sm k], [57, 75], [], []⟩
@[reducible] noncomputable def spec_Fill.s13 : List Slot := [.v 4 (.sl tStore) .z [] 0, .v 8 (.sl (.int .i64)) .z [] 0, .v 16 (.int .i64) .z [] 0, .r 40 41 [] tStore, .r 48 49 [] tStore, .v 52 (.sl tStore) (.own .z) [] 0, .v 56 (.int .i64) .z [] 0, .v 41 tStore (.two (.own .a) (.two (.own .a) .z)) [] 0, .v 49 tStore (.two (.own .a) (.two (.own .a) .z)) [] 0]
@[reducible] noncomputable def spec_Fill.s23 : List Slot := [.v 16 (.int .i64) .z [] 0, .r 40 41 [] tStore, .r 48 49 [] tStore, .v 52 (.sl tStore) (.own .z) [] 0, .v 60 (.int .i64) .z [] 0, .v 41 tStore (.two (.own .a) (.two (.own .a) .z)) [] 0, .v 49 tStore (.two (.own .a) (.two (.own .a) .z)) [] 0]
noncomputable def spec_Fill.pts : List (Pt (denR (outTys spec_Fill.g.rts spec_Fill.g.pms))) := [⟨13, spec_Fill.s13, fun k x => spec_Fill.p13 k x.1 x.2.1 x.2.2.1 x.2.2.2.1 x.2.2.2.2.1 x.2.2.2.2.2.1 x.2.2.2.2.2.2.1⟩, ⟨23, spec_Fill.s23, fun k x => spec_Fill.p23 k x.1 x.2.1 x.2.2.1 x.2.2.2.1 x.2.2.2.2.1⟩]
theorem spec_Fill.h13 (k : Nat) (x0 : (List Store)) (x1 : (List Int)) (x2 : Int) (x3 : (List Store)) (x4 : Int) (x5 : Store) (x6 : Store) : (spec_Fill.p13 (k + 1) x0 x1 x2 x3 x4 x5 x6 : Option (denR (outTys spec_Fill.g.rts spec_Fill.g.pms))) = evAt (spec_Fill.E k) (fun κ s => lhOf k κ s spec_Fill.pts) 13 b26 (unproj spec_Fill.s13 (x0, x1, x2, x3, x4, x5, x6, ())) (OM.fin spec_Fill.g Try.f26.results.toList) := by kernel_rfl
theorem spec_Fill.h23 (k : Nat) (x0 : Int) (x1 : (List Store)) (x2 : Int) (x3 : Store) (x4 : Store) : (spec_Fill.p23 (k + 1) x0 x1 x2 x3 x4 : Option (denR (outTys spec_Fill.g.rts spec_Fill.g.pms))) = evAt (spec_Fill.E k) (fun κ s => lhOf k κ s spec_Fill.pts) 23 b26 (unproj spec_Fill.s23 (x0, x1, x2, x3, x4, ())) (OM.fin spec_Fill.g Try.f26.results.toList) := by kernel_rfl
theorem spec_Fill.hf (k : Nat) (a0 : Config) (a1 : (List Store)) (a2 : (List Int)) (a3 : Int) (a4 : Int) : (spec_Fill.f k a0 a1 a2 a3 a4 : Option (denR (outTys spec_Fill.g.rts spec_Fill.g.pms))) = evC (spec_Fill.E k) (fun κ s => lhOf k κ s spec_Fill.pts) b26 (OM.start spec_Fill.g.pms 0 (a0, a1, a2, a3, a4, ())) (OM.fin spec_Fill.g Try.f26.results.toList) := by kernel_rfl
theorem spec_Fill.ok (k : Nat) : SmOk Try.prog (spec_Fill.sm k) :=
  sm_ok mixed (E := spec_Fill.E) (pts := spec_Fill.pts) (fun k => ⟨⟨tysOk, by kernel_rfl⟩, forall_cons ⟨spec_StoreOk.ok k, e21⟩ (forall_cons ⟨spec_l4Has.ok k, e75⟩ (forall_cons ⟨spec_ConfigOk.ok k, e74⟩ (forall_cons ⟨spec_LostOk.ok k, e28⟩ (forall_cons ⟨spec_l11Union.ok k, e57⟩ (forall_nil)))))⟩) (fun _ => rfl) (fun _ => rfl)
    ⟨Try.func26, by kernel_rfl, by kernel_rfl, by kernel_rfl, by kernel_rfl, by kernel_rfl, by kernel_rfl⟩ (forall_cons (fun x => ⟨rfl, fun k => spec_Fill.h13 k x.1 x.2.1 x.2.2.1 x.2.2.2.1 x.2.2.2.2.1 x.2.2.2.2.2.1 x.2.2.2.2.2.2.1⟩) (forall_cons (fun x => ⟨rfl, fun k => spec_Fill.h23 k x.1 x.2.1 x.2.2.1 x.2.2.2.1 x.2.2.2.2.1⟩) (forall_nil))) (fun k x => spec_Fill.hf k x.1 x.2.1 x.2.2.1 x.2.2.2.1 x.2.2.2.2.1) k
noncomputable def b29 : Code := Try.f29.body.getD .skip
theorem e29 : OM.Entry Try.prog 29 := ⟨_, Try.func29, by kernel_rfl, by kernel_rfl⟩
@[reducible] noncomputable def laws_within.g : Sig := ⟨[.fz (.sl (.int .i64)), .fz (.int .i64)], [.v .bool .z], []⟩
@[reducible] noncomputable def laws_within.fk : Nat → denI laws_within.g.pms → Option (denR (outTys laws_within.g.rts laws_within.g.pms)) := fun k x => laws_within.f k x.1 x.2.1
@[reducible] noncomputable def laws_within.sm (k : Nat) : Sm := ⟨29, laws_within.g.pms, laws_within.g.rts, laws_within.fk k⟩
noncomputable def laws_within.E (k : Nat) : Env := ⟨tys, [], [], [], []⟩
@[reducible] noncomputable def laws_within.s5 : List Slot := [.v 0 (.sl (.int .i64)) .z [] 0, .v 4 (.int .i64) .z [] 0, .v 20 (.int .i64) .z [] 0]
noncomputable def laws_within.pts : List (Pt (denR (outTys laws_within.g.rts laws_within.g.pms))) := [⟨5, laws_within.s5, fun k x => laws_within.p5 k x.1 x.2.1 x.2.2.1⟩]
theorem laws_within.h5 (k : Nat) (x0 : (List Int)) (x1 : Int) (x2 : Int) : (laws_within.p5 (k + 1) x0 x1 x2 : Option (denR (outTys laws_within.g.rts laws_within.g.pms))) = evAt (laws_within.E k) (fun κ s => lhOf k κ s laws_within.pts) 5 b29 (unproj laws_within.s5 (x0, x1, x2, ())) (OM.fin laws_within.g Try.f29.results.toList) := by kernel_rfl
theorem laws_within.hf (k : Nat) (a0 : (List Int)) (a1 : Int) : (laws_within.f k a0 a1 : Option (denR (outTys laws_within.g.rts laws_within.g.pms))) = evC (laws_within.E k) (fun κ s => lhOf k κ s laws_within.pts) b29 (OM.start laws_within.g.pms 0 (a0, a1, ())) (OM.fin laws_within.g Try.f29.results.toList) := by kernel_rfl
theorem laws_within.ok (k : Nat) : SmOk Try.prog (laws_within.sm k) :=
  sm_ok mixed (E := laws_within.E) (pts := laws_within.pts) (fun k => ⟨⟨tysOk, by kernel_rfl⟩, forall_nil⟩) (fun _ => rfl) (fun _ => rfl)
    ⟨Try.func29, by kernel_rfl, by kernel_rfl, by kernel_rfl, by kernel_rfl, by kernel_rfl, by kernel_rfl⟩ (forall_cons (fun x => ⟨rfl, fun k => laws_within.h5 k x.1 x.2.1 x.2.2.1⟩) (forall_nil)) (fun k x => laws_within.hf k x.1 x.2.1) k
noncomputable def b22 : Code := Try.f22.body.getD .skip
theorem e22 : OM.Entry Try.prog 22 := ⟨_, Try.func22, by kernel_rfl, by kernel_rfl⟩
@[reducible] noncomputable def impl_StoreGet.g : Sig := ⟨[.fz tStore, .fz (.int .i64)], [.v tEntry .z, .v .bool .z], []⟩
@[reducible] noncomputable def impl_StoreGet.fk : Nat → denI impl_StoreGet.g.pms → Option (denR (outTys impl_StoreGet.g.rts impl_StoreGet.g.pms)) := fun k x => impl_StoreGet.f k x.1 x.2.1
@[reducible] noncomputable def impl_StoreGet.sm (k : Nat) : Sm := ⟨22, impl_StoreGet.g.pms, impl_StoreGet.g.rts, impl_StoreGet.fk k⟩
noncomputable def impl_StoreGet.E (k : Nat) : Env := ⟨tys, [impl_StoreOk.sm k, impl_placeIn.sm k], [], [], []⟩
noncomputable def impl_StoreGet.pts : List (Pt (denR (outTys impl_StoreGet.g.rts impl_StoreGet.g.pms))) := []
theorem impl_StoreGet.hf (k : Nat) (a0 : Store) (a1 : Int) : (impl_StoreGet.f k a0 a1 : Option (denR (outTys impl_StoreGet.g.rts impl_StoreGet.g.pms))) = evC (impl_StoreGet.E k) (fun κ s => lhOf k κ s impl_StoreGet.pts) b22 (OM.start impl_StoreGet.g.pms 0 (a0, a1, ())) (OM.fin impl_StoreGet.g Try.f22.results.toList) := by kernel_rfl
theorem impl_StoreGet.ok (k : Nat) : SmOk Try.prog (impl_StoreGet.sm k) :=
  sm_ok mixed (E := impl_StoreGet.E) (pts := impl_StoreGet.pts) (fun k => ⟨⟨tysOk, by kernel_rfl⟩, forall_cons ⟨impl_StoreOk.ok k, e30⟩ (forall_cons ⟨impl_placeIn.ok k, e68⟩ (forall_nil))⟩) (fun _ => rfl) (fun _ => rfl)
    ⟨Try.func22, by kernel_rfl, by kernel_rfl, by kernel_rfl, by kernel_rfl, by kernel_rfl, by kernel_rfl⟩ (forall_nil) (fun k x => impl_StoreGet.hf k x.1 x.2.1) k
noncomputable def b5 : Code := Try.f5.body.getD .skip
theorem e5 : OM.Entry Try.prog 5 := ⟨_, Try.func5, by kernel_rfl, by kernel_rfl⟩
@[reducible] noncomputable def laws_FnFilled.g : Sig := ⟨[.fz (.sl (.int .u8))], [.v .bool .z], []⟩
@[reducible] noncomputable def laws_FnFilled.fk : Nat → denI laws_FnFilled.g.pms → Option (denR (outTys laws_FnFilled.g.rts laws_FnFilled.g.pms)) := fun k x => laws_FnFilled.f k x.1
@[reducible] noncomputable def laws_FnFilled.sm (k : Nat) : Sm := ⟨5, laws_FnFilled.g.pms, laws_FnFilled.g.rts, laws_FnFilled.fk k⟩
noncomputable def laws_FnFilled.E (k : Nat) : Env := ⟨tys, [laws_big.sm k, spec_DrawFill.sm k, impl_Holds.sm k, impl_LostOk.sm k, impl_StoreOk.sm k, impl_Fill.sm k, spec_LostOk.sm k, spec_Fill.sm k, laws_within.sm k, impl_StoreGet.sm k], [], [], [4]⟩
@[reducible] noncomputable def laws_FnFilled.s23 : List Slot := [.r 12 13 [] tConfig, .v 16 (.sl tStore) (.own (.two (.own .z) (.two (.own .z) .z))) [] 0, .v 20 (.sl (.int .i64)) (.own .z) [] 0, .v 28 (.int .i64) .z [] 0, .r 32 33 [] tStore, .v 48 (.int .i64) .z [] 0, .v 13 tConfig (.two (.own .z) .z) [] 0, .v 33 tStore (.two (.own .z) (.two (.own .a) .z)) [] 0]
@[reducible] noncomputable def laws_FnFilled.s29 : List Slot := [.r 12 13 [] tConfig, .v 16 (.sl tStore) (.own (.two (.own .z) (.two (.own .z) .z))) [] 0, .v 20 (.sl (.int .i64)) (.own .z) [] 0, .v 28 (.int .i64) .z [] 0, .r 32 33 [] tStore, .v 48 (.int .i64) .z [] 0, .v 52 (.int .i64) .z [] 0, .v 13 tConfig (.two (.own .z) .z) [] 0, .v 33 tStore (.two (.own .z) (.two (.own .a) .z)) [] 0]
noncomputable def laws_FnFilled.pts : List (Pt (denR (outTys laws_FnFilled.g.rts laws_FnFilled.g.pms))) := [⟨23, laws_FnFilled.s23, fun k x => laws_FnFilled.p23 k x.1 x.2.1 x.2.2.1 x.2.2.2.1 x.2.2.2.2.1 x.2.2.2.2.2.1⟩, ⟨29, laws_FnFilled.s29, fun k x => laws_FnFilled.p29 k x.1 x.2.1 x.2.2.1 x.2.2.2.1 x.2.2.2.2.1 x.2.2.2.2.2.1 x.2.2.2.2.2.2.1⟩]
theorem laws_FnFilled.h23 (k : Nat) (x0 : (List Store)) (x1 : (List Int)) (x2 : Int) (x3 : Int) (x4 : Config) (x5 : Store) : (laws_FnFilled.p23 (k + 1) x0 x1 x2 x3 x4 x5 : Option (denR (outTys laws_FnFilled.g.rts laws_FnFilled.g.pms))) = evAt (laws_FnFilled.E k) (fun κ s => lhOf k κ s laws_FnFilled.pts) 23 b5 (unproj laws_FnFilled.s23 (x0, x1, x2, x3, x4, x5, ())) (OM.fin laws_FnFilled.g Try.f5.results.toList) := by kernel_rfl
theorem laws_FnFilled.h29 (k : Nat) (x0 : (List Store)) (x1 : (List Int)) (x2 : Int) (x3 : Int) (x4 : Int) (x5 : Config) (x6 : Store) : (laws_FnFilled.p29 (k + 1) x0 x1 x2 x3 x4 x5 x6 : Option (denR (outTys laws_FnFilled.g.rts laws_FnFilled.g.pms))) = evAt (laws_FnFilled.E k) (fun κ s => lhOf k κ s laws_FnFilled.pts) 29 b5 (unproj laws_FnFilled.s29 (x0, x1, x2, x3, x4, x5, x6, ())) (OM.fin laws_FnFilled.g Try.f5.results.toList) := by kernel_rfl
theorem laws_FnFilled.hf (k : Nat) (a0 : (List Int)) : (laws_FnFilled.f k a0 : Option (denR (outTys laws_FnFilled.g.rts laws_FnFilled.g.pms))) = evC (laws_FnFilled.E k) (fun κ s => lhOf k κ s laws_FnFilled.pts) b5 (OM.start laws_FnFilled.g.pms 0 (a0, ())) (OM.fin laws_FnFilled.g Try.f5.results.toList) := by kernel_rfl
theorem laws_FnFilled.ok (k : Nat) : SmOk Try.prog (laws_FnFilled.sm k) :=
  sm_ok mixed (E := laws_FnFilled.E) (pts := laws_FnFilled.pts) (fun k => ⟨⟨tysOk, by kernel_rfl⟩, forall_cons ⟨laws_big.ok k, e18⟩ (forall_cons ⟨spec_DrawFill.ok k, e24⟩ (forall_cons ⟨impl_Holds.ok k, e31⟩ (forall_cons ⟨impl_LostOk.ok k, e27⟩ (forall_cons ⟨impl_StoreOk.ok k, e30⟩ (forall_cons ⟨impl_Fill.ok k, e25⟩ (forall_cons ⟨spec_LostOk.ok k, e28⟩ (forall_cons ⟨spec_Fill.ok k, e26⟩ (forall_cons ⟨laws_within.ok k, e29⟩ (forall_cons ⟨impl_StoreGet.ok k, e22⟩ (forall_nil))))))))))⟩) (fun _ => rfl) (fun _ => rfl)
    ⟨Try.func5, by kernel_rfl, by kernel_rfl, by kernel_rfl, by kernel_rfl, by kernel_rfl, by kernel_rfl⟩ (forall_cons (fun x => ⟨rfl, fun k => laws_FnFilled.h23 k x.1 x.2.1 x.2.2.1 x.2.2.2.1 x.2.2.2.2.1 x.2.2.2.2.2.1⟩) (forall_cons (fun x => ⟨rfl, fun k => laws_FnFilled.h29 k x.1 x.2.1 x.2.2.1 x.2.2.2.1 x.2.2.2.2.1 x.2.2.2.2.2.1 x.2.2.2.2.2.2.1⟩) (forall_nil))) (fun k x => laws_FnFilled.hf k x.1) k
end Go.Proofs.Ythgnikafeamidaa.OmFnFilled
