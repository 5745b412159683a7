import Derived.Test.YthgnikafeamidabFFnSealing
import Derived.Test.YthgnikafeamidabChecked
set_option maxRecDepth 1000000
set_option linter.unusedVariables false
namespace Go.Proofs.Ythgnikafeamidab.OmFnSealing
open Go Go.OM
noncomputable def tys : List (Option Ty) := [none, none, some (.int .i64), some (.int .i64), some .bool, some (.int .u8), some (.int .u8), some (.pair (.int .i64) (.pair (.int .i64) (.pair .bool (.pair (.int .u8) .unit)))), some (.pair (.int .i64) (.pair (.int .i64) (.pair .bool (.pair (.int .u8) .unit)))), some .str, some .str, some .str, some (.int .u64), some (.pair .str (.pair (.int .u64) .unit)), some (.pair .str (.pair (.int .u64) .unit)), none, none, none, none, none, none, some (.int .i32), some (.sl (.int .u8)), none, some (.sl (.int .i64)), some tConfig, some tConfig, some (.sl tEntry), some (.sl (.sl (.int .i64))), some tMend, some tMend, none, none, none, none, some tEntry, some tEntry, none, none, none, none, none, none, none, none, some (.sl tEra), some tRegister, some tRegister, some (.sl tEvent), some tReader, some tReader, some (.sl tAnswer), none, none, none, none, some tEvent, some tEvent, none, some tAnswer, some tAnswer, none, none, none, none, some tConfig, some (.sl tEra), some tRegister, some tRegister, some (.sl tEvent), some tReader, some tReader, some (.sl tAnswer), none, none, none, none, none, none, none, none, none, none, none, none, none, none, none, none, none, none, none, none, none, none, none, none, none, none, none, none, none, none, none, none, none, none, none, none, none, none, none, none, none, none, none, none, some tEra, some tEra, none, none, none, none, none, none, none, none, none, none, none, none, none, some tEntry, some tAnswer, some tAnswer, none, none, none, none, none, none, none, none, none, none, none, none, none, none, none, none, none, none, none, none, none, some tl1Cur, some tl1Cur, none, none, none, none, none, none, none, some tEra, none, some tEvent, none, none, none, none, none, none, none, some (.int .u64), none, some (.sl .str), none, none, none, none, none, none, none, none, none, none, none, none, some (.sl .bool), none, none, some tStore, some tStore, none, none, none, none, none, none, none, none, none, none, none, none, none, none, none, none, none, none, none, none, none, none, some (.int .u32), some (.int .u8), some (.int .u8), none, none, some (.int .i32), some (.int .i32), none, none, none]
theorem tysOk : okTys Try.prog tys 0 tys = true := by kernel_rfl
theorem mixed : Try.prog.follows .mixedOrders = true := by kernel_rfl
noncomputable def b8 : Code := Try.f8.body.getD .skip
theorem e8 : OM.Entry Try.prog 8 := ⟨_, Try.func8, by kernel_rfl, by kernel_rfl⟩
@[reducible] noncomputable def laws_big.g : Sig := ⟨[.fz (.sl (.int .u8))], [.v .bool .z], []⟩
@[reducible] noncomputable def laws_big.fk : Nat → denI laws_big.g.pms → Option (denR (outTys laws_big.g.rts laws_big.g.pms)) := fun k x => laws_big.f x.1
@[reducible] noncomputable def laws_big.sm (k : Nat) : Sm := ⟨8, laws_big.g.pms, laws_big.g.rts, laws_big.fk k⟩
noncomputable def laws_big.E (k : Nat) : Env := ⟨tys, [], [], [], []⟩
noncomputable def laws_big.pts : List (Pt (denR (outTys laws_big.g.rts laws_big.g.pms))) := []
theorem laws_big.hf (k : Nat) (a0 : (List Int)) : (laws_big.f a0 : Option (denR (outTys laws_big.g.rts laws_big.g.pms))) = evC (laws_big.E k) (fun κ s => lhOf k κ s laws_big.pts) b8 (OM.start laws_big.g.pms 0 (a0, ())) (OM.fin laws_big.g Try.f8.results.toList) := by kernel_rfl
theorem laws_big.ok (k : Nat) : SmOk Try.prog (laws_big.sm k) :=
  sm_ok mixed (E := laws_big.E) (pts := laws_big.pts) (fun k => ⟨⟨tysOk, by kernel_rfl⟩, forall_nil⟩) (fun _ => rfl) (fun _ => rfl)
    ⟨Try.func8, by kernel_rfl, by kernel_rfl, by kernel_rfl, by kernel_rfl, by kernel_rfl, by kernel_rfl⟩ (forall_nil) (fun k x => laws_big.hf k x.1) k
noncomputable def b78 : Code := Try.f78.body.getD .skip
theorem e78 : OM.Entry Try.prog 78 := ⟨_, Try.func78, by kernel_rfl, by kernel_rfl⟩
@[reducible] noncomputable def spec_l1New.g : Sig := ⟨[.fz (.sl (.int .u8))], [.p tl1Cur .z], []⟩
@[reducible] noncomputable def spec_l1New.fk : Nat → denI spec_l1New.g.pms → Option (denR (outTys spec_l1New.g.rts spec_l1New.g.pms)) := fun k x => spec_l1New.f k x.1
@[reducible] noncomputable def spec_l1New.sm (k : Nat) : Sm := ⟨78, spec_l1New.g.pms, spec_l1New.g.rts, spec_l1New.fk k⟩
noncomputable def spec_l1New.E (k : Nat) : Env := ⟨tys, [], [28, 29], [], []⟩
@[reducible] noncomputable def spec_l1New.s7 : List Slot := [.v 0 (.sl (.int .u8)) .z [] 0, .v 12 (.int .i64) .z [] 0, .v 16 (.int .i64) .z [] 0]
noncomputable def spec_l1New.pts : List (Pt (denR (outTys spec_l1New.g.rts spec_l1New.g.pms))) := [⟨7, spec_l1New.s7, fun k x => spec_l1New.p7 k x.1 x.2.1 x.2.2.1⟩]
theorem spec_l1New.h7 (k : Nat) (x0 : (List Int)) (x1 : Int) (x2 : Int) : (spec_l1New.p7 (k + 1) x0 x1 x2 : Option (denR (outTys spec_l1New.g.rts spec_l1New.g.pms))) = evAt (spec_l1New.E k) (fun κ s => lhOf k κ s spec_l1New.pts) 7 b78 (unproj spec_l1New.s7 (x0, x1, x2, ())) (OM.fin spec_l1New.g Try.f78.results.toList) := by kernel_rfl
theorem spec_l1New.hf (k : Nat) (a0 : (List Int)) : (spec_l1New.f k a0 : Option (denR (outTys spec_l1New.g.rts spec_l1New.g.pms))) = evC (spec_l1New.E k) (fun κ s => lhOf k κ s spec_l1New.pts) b78 (OM.start spec_l1New.g.pms 0 (a0, ())) (OM.fin spec_l1New.g Try.f78.results.toList) := by kernel_rfl
theorem spec_l1New.ok (k : Nat) : SmOk Try.prog (spec_l1New.sm k) :=
  sm_ok mixed (E := spec_l1New.E) (pts := spec_l1New.pts) (fun k => ⟨⟨tysOk, by kernel_rfl⟩, forall_nil⟩) (fun _ => rfl) (fun _ => rfl)
    ⟨Try.func78, by kernel_rfl, by kernel_rfl, by kernel_rfl, by kernel_rfl, by kernel_rfl, by kernel_rfl⟩ (forall_cons (fun x => ⟨rfl, fun k => spec_l1New.h7 k x.1 x.2.1 x.2.2.1⟩) (forall_nil)) (fun k x => spec_l1New.hf k x.1) k
noncomputable def b119 : Code := Try.f119.body.getD .skip
theorem e119 : OM.Entry Try.prog 119 := ⟨_, Try.func119, by kernel_rfl, by kernel_rfl⟩
@[reducible] noncomputable def spec_l1Byte.g : Sig := ⟨[.ptr tl1Cur .z .z], [.v (.int .i64) .z], []⟩
@[reducible] noncomputable def spec_l1Byte.fk : Nat → denI spec_l1Byte.g.pms → Option (denR (outTys spec_l1Byte.g.rts spec_l1Byte.g.pms)) := fun k x => spec_l1Byte.f x.1
@[reducible] noncomputable def spec_l1Byte.sm (k : Nat) : Sm := ⟨119, spec_l1Byte.g.pms, spec_l1Byte.g.rts, spec_l1Byte.fk k⟩
noncomputable def spec_l1Byte.E (k : Nat) : Env := ⟨tys, [], [], [], []⟩
noncomputable def spec_l1Byte.pts : List (Pt (denR (outTys spec_l1Byte.g.rts spec_l1Byte.g.pms))) := []
theorem spec_l1Byte.hf (k : Nat) (a0 : l1Cur) : (spec_l1Byte.f a0 : Option (denR (outTys spec_l1Byte.g.rts spec_l1Byte.g.pms))) = evC (spec_l1Byte.E k) (fun κ s => lhOf k κ s spec_l1Byte.pts) b119 (OM.start spec_l1Byte.g.pms 0 (a0, ())) (OM.fin spec_l1Byte.g Try.f119.results.toList) := by kernel_rfl
theorem spec_l1Byte.ok (k : Nat) : SmOk Try.prog (spec_l1Byte.sm k) :=
  sm_ok mixed (E := spec_l1Byte.E) (pts := spec_l1Byte.pts) (fun k => ⟨⟨tysOk, by kernel_rfl⟩, forall_nil⟩) (fun _ => rfl) (fun _ => rfl)
    ⟨Try.func119, by kernel_rfl, by kernel_rfl, by kernel_rfl, by kernel_rfl, by kernel_rfl, by kernel_rfl⟩ (forall_nil) (fun k x => spec_l1Byte.hf k x.1) k
noncomputable def b50 : Code := Try.f50.body.getD .skip
theorem e50 : OM.Entry Try.prog 50 := ⟨_, Try.func50, by kernel_rfl, by kernel_rfl⟩
@[reducible] noncomputable def spec_l1Below.g : Sig := ⟨[.ptr tl1Cur .z .z, .fz (.int .i64)], [.v (.int .i64) .z], []⟩
@[reducible] noncomputable def spec_l1Below.fk : Nat → denI spec_l1Below.g.pms → Option (denR (outTys spec_l1Below.g.rts spec_l1Below.g.pms)) := fun k x => spec_l1Below.f x.1 x.2.1
@[reducible] noncomputable def spec_l1Below.sm (k : Nat) : Sm := ⟨50, spec_l1Below.g.pms, spec_l1Below.g.rts, spec_l1Below.fk k⟩
noncomputable def spec_l1Below.E (k : Nat) : Env := ⟨tys, [spec_l1Byte.sm k], [], [], []⟩
noncomputable def spec_l1Below.pts : List (Pt (denR (outTys spec_l1Below.g.rts spec_l1Below.g.pms))) := []
theorem spec_l1Below.hf (k : Nat) (a0 : l1Cur) (a1 : Int) : (spec_l1Below.f a0 a1 : Option (denR (outTys spec_l1Below.g.rts spec_l1Below.g.pms))) = evC (spec_l1Below.E k) (fun κ s => lhOf k κ s spec_l1Below.pts) b50 (OM.start spec_l1Below.g.pms 0 (a0, a1, ())) (OM.fin spec_l1Below.g Try.f50.results.toList) := by kernel_rfl
theorem spec_l1Below.ok (k : Nat) : SmOk Try.prog (spec_l1Below.sm k) :=
  sm_ok mixed (E := spec_l1Below.E) (pts := spec_l1Below.pts) (fun k => ⟨⟨tysOk, by kernel_rfl⟩, forall_cons ⟨spec_l1Byte.ok k, e119⟩ (forall_nil)⟩) (fun _ => rfl) (fun _ => rfl)
    ⟨Try.func50, by kernel_rfl, by kernel_rfl, by kernel_rfl, by kernel_rfl, by kernel_rfl, by kernel_rfl⟩ (forall_nil) (fun k x => spec_l1Below.hf k x.1 x.2.1) k
noncomputable def b49 : Code := Try.f49.body.getD .skip
theorem e49 : OM.Entry Try.prog 49 := ⟨_, Try.func49, by kernel_rfl, by kernel_rfl⟩
@[reducible] noncomputable def spec_l1Once.g : Sig := ⟨[.ptr tl1Cur .z .z, .fz (.int .i64)], [.v .bool .z], []⟩
@[reducible] noncomputable def spec_l1Once.fk : Nat → denI spec_l1Once.g.pms → Option (denR (outTys spec_l1Once.g.rts spec_l1Once.g.pms)) := fun k x => spec_l1Once.f x.1 x.2.1
@[reducible] noncomputable def spec_l1Once.sm (k : Nat) : Sm := ⟨49, spec_l1Once.g.pms, spec_l1Once.g.rts, spec_l1Once.fk k⟩
noncomputable def spec_l1Once.E (k : Nat) : Env := ⟨tys, [spec_l1Below.sm k], [], [], []⟩
noncomputable def spec_l1Once.pts : List (Pt (denR (outTys spec_l1Once.g.rts spec_l1Once.g.pms))) := []
theorem spec_l1Once.hf (k : Nat) (a0 : l1Cur) (a1 : Int) : (spec_l1Once.f a0 a1 : Option (denR (outTys spec_l1Once.g.rts spec_l1Once.g.pms))) = evC (spec_l1Once.E k) (fun κ s => lhOf k κ s spec_l1Once.pts) b49 (OM.start spec_l1Once.g.pms 0 (a0, a1, ())) (OM.fin spec_l1Once.g Try.f49.results.toList) := by kernel_rfl
theorem spec_l1Once.ok (k : Nat) : SmOk Try.prog (spec_l1Once.sm k) :=
  sm_ok mixed (E := spec_l1Once.E) (pts := spec_l1Once.pts) (fun k => ⟨⟨tysOk, by kernel_rfl⟩, forall_cons ⟨spec_l1Below.ok k, e50⟩ (forall_nil)⟩) (fun _ => rfl) (fun _ => rfl)
    ⟨Try.func49, by kernel_rfl, by kernel_rfl, by kernel_rfl, by kernel_rfl, by kernel_rfl, by kernel_rfl⟩ (forall_nil) (fun k x => spec_l1Once.hf k x.1 x.2.1) k
noncomputable def b79 : Code := Try.f79.body.getD .skip
theorem e79 : OM.Entry Try.prog 79 := ⟨_, Try.func79, by kernel_rfl, by kernel_rfl⟩
@[reducible] noncomputable def spec_l4DrawRight_z.g : Sig := ⟨[.ptr tl1Cur .z .z], [.v tConfig .z], []⟩
@[reducible] noncomputable def spec_l4DrawRight_z.fk : Nat → denI spec_l4DrawRight_z.g.pms → Option (denR (outTys spec_l4DrawRight_z.g.rts spec_l4DrawRight_z.g.pms)) := fun k x => spec_l4DrawRight_z.f k x.1
@[reducible] noncomputable def spec_l4DrawRight_z.sm (k : Nat) : Sm := ⟨79, spec_l4DrawRight_z.g.pms, spec_l4DrawRight_z.g.rts, spec_l4DrawRight_z.fk k⟩
noncomputable def spec_l4DrawRight_z.E (k : Nat) : Env := ⟨tys, [spec_l1Below.sm k, spec_l1Once.sm k], [], [], []⟩
@[reducible] noncomputable def spec_l4DrawRight_z.s9 : List Slot := [.r 0 36001 [] tl1Cur, .r 8 9 [] tConfig, .r 12 13 [] tConfig, .v 16 (.int .i64) .z [] 0, .v 20 (.int .i64) .z [] 0, .v 9 tConfig (.two (.own .a) .z) [] 0, .v 13 tConfig (.two (.own .z) .z) [] 0, .v 36001 tl1Cur .z [] 0]
noncomputable def spec_l4DrawRight_z.pts : List (Pt (denR (outTys spec_l4DrawRight_z.g.rts spec_l4DrawRight_z.g.pms))) := [⟨9, spec_l4DrawRight_z.s9, fun k x => spec_l4DrawRight_z.p9 k x.1 x.2.1 x.2.2.1 x.2.2.2.1 x.2.2.2.2.1⟩]
theorem spec_l4DrawRight_z.h9 (k : Nat) (x0 : Int) (x1 : Int) (x2 : Config) (x3 : Config) (x4 : l1Cur) : (spec_l4DrawRight_z.p9 (k + 1) x0 x1 x2 x3 x4 : Option (denR (outTys spec_l4DrawRight_z.g.rts spec_l4DrawRight_z.g.pms))) = evAt (spec_l4DrawRight_z.E k) (fun κ s => lhOf k κ s spec_l4DrawRight_z.pts) 9 b79 (unproj spec_l4DrawRight_z.s9 (x0, x1, x2, x3, x4, ())) (OM.fin spec_l4DrawRight_z.g Try.f79.results.toList) := by kernel_rfl
theorem spec_l4DrawRight_z.hf (k : Nat) (a0 : l1Cur) : (spec_l4DrawRight_z.f k a0 : Option (denR (outTys spec_l4DrawRight_z.g.rts spec_l4DrawRight_z.g.pms))) = evC (spec_l4DrawRight_z.E k) (fun κ s => lhOf k κ s spec_l4DrawRight_z.pts) b79 (OM.start spec_l4DrawRight_z.g.pms 0 (a0, ())) (OM.fin spec_l4DrawRight_z.g Try.f79.results.toList) := by kernel_rfl
theorem spec_l4DrawRight_z.ok (k : Nat) : SmOk Try.prog (spec_l4DrawRight_z.sm k) :=
  sm_ok mixed (E := spec_l4DrawRight_z.E) (pts := spec_l4DrawRight_z.pts) (fun k => ⟨⟨tysOk, by kernel_rfl⟩, forall_cons ⟨spec_l1Below.ok k, e50⟩ (forall_cons ⟨spec_l1Once.ok k, e49⟩ (forall_nil))⟩) (fun _ => rfl) (fun _ => rfl)
    ⟨Try.func79, by kernel_rfl, by kernel_rfl, by kernel_rfl, by kernel_rfl, by kernel_rfl, by kernel_rfl⟩ (forall_cons (fun x => ⟨rfl, fun k => spec_l4DrawRight_z.h9 k x.1 x.2.1 x.2.2.1 x.2.2.2.1 x.2.2.2.2.1⟩) (forall_nil)) (fun k x => spec_l4DrawRight_z.hf k x.1) k
noncomputable def b173 : Code := Try.f173.body.getD .skip
theorem e173 : OM.Entry Try.prog 173 := ⟨_, Try.func173, by kernel_rfl, by kernel_rfl⟩
@[reducible] noncomputable def spec_MendNew.g : Sig := ⟨[.fz (.int .i64), .fz (.int .i64)], [.v tMend (.two .z (.two .z (.two (.own .a) (.two (.own .a) (.two .z (.two (.own .a) .z))))))], []⟩
@[reducible] noncomputable def spec_MendNew.fk : Nat → denI spec_MendNew.g.pms → Option (denR (outTys spec_MendNew.g.rts spec_MendNew.g.pms)) := fun k x => spec_MendNew.f x.1 x.2.1
@[reducible] noncomputable def spec_MendNew.sm (k : Nat) : Sm := ⟨173, spec_MendNew.g.pms, spec_MendNew.g.rts, spec_MendNew.fk k⟩
noncomputable def spec_MendNew.E (k : Nat) : Env := ⟨tys, [], [5, 6], [], []⟩
noncomputable def spec_MendNew.pts : List (Pt (denR (outTys spec_MendNew.g.rts spec_MendNew.g.pms))) := []
theorem spec_MendNew.hf (k : Nat) (a0 : Int) (a1 : Int) : (spec_MendNew.f a0 a1 : Option (denR (outTys spec_MendNew.g.rts spec_MendNew.g.pms))) = evC (spec_MendNew.E k) (fun κ s => lhOf k κ s spec_MendNew.pts) b173 (OM.start spec_MendNew.g.pms 0 (a0, a1, ())) (OM.fin spec_MendNew.g Try.f173.results.toList) := by kernel_rfl
theorem spec_MendNew.ok (k : Nat) : SmOk Try.prog (spec_MendNew.sm k) :=
  sm_ok mixed (E := spec_MendNew.E) (pts := spec_MendNew.pts) (fun k => ⟨⟨tysOk, by kernel_rfl⟩, forall_nil⟩) (fun _ => rfl) (fun _ => rfl)
    ⟨Try.func173, by kernel_rfl, by kernel_rfl, by kernel_rfl, by kernel_rfl, by kernel_rfl, by kernel_rfl⟩ (forall_nil) (fun k x => spec_MendNew.hf k x.1 x.2.1) k
noncomputable def b53 : Code := Try.f53.body.getD .skip
theorem e53 : OM.Entry Try.prog 53 := ⟨_, Try.func53, by kernel_rfl, by kernel_rfl⟩
@[reducible] noncomputable def spec_l1Place.g : Sig := ⟨[.fz (.int .i64), .fz (.int .i64)], [.v (.int .i64) .z], []⟩
@[reducible] noncomputable def spec_l1Place.fk : Nat → denI spec_l1Place.g.pms → Option (denR (outTys spec_l1Place.g.rts spec_l1Place.g.pms)) := fun k x => spec_l1Place.f x.1 x.2.1
@[reducible] noncomputable def spec_l1Place.sm (k : Nat) : Sm := ⟨53, spec_l1Place.g.pms, spec_l1Place.g.rts, spec_l1Place.fk k⟩
noncomputable def spec_l1Place.E (k : Nat) : Env := ⟨tys, [], [], [], []⟩
noncomputable def spec_l1Place.pts : List (Pt (denR (outTys spec_l1Place.g.rts spec_l1Place.g.pms))) := []
theorem spec_l1Place.hf (k : Nat) (a0 : Int) (a1 : Int) : (spec_l1Place.f a0 a1 : Option (denR (outTys spec_l1Place.g.rts spec_l1Place.g.pms))) = evC (spec_l1Place.E k) (fun κ s => lhOf k κ s spec_l1Place.pts) b53 (OM.start spec_l1Place.g.pms 0 (a0, a1, ())) (OM.fin spec_l1Place.g Try.f53.results.toList) := by kernel_rfl
theorem spec_l1Place.ok (k : Nat) : SmOk Try.prog (spec_l1Place.sm k) :=
  sm_ok mixed (E := spec_l1Place.E) (pts := spec_l1Place.pts) (fun k => ⟨⟨tysOk, by kernel_rfl⟩, forall_nil⟩) (fun _ => rfl) (fun _ => rfl)
    ⟨Try.func53, by kernel_rfl, by kernel_rfl, by kernel_rfl, by kernel_rfl, by kernel_rfl, by kernel_rfl⟩ (forall_nil) (fun k x => spec_l1Place.hf k x.1 x.2.1) k
noncomputable def b158 : Code := Try.f158.body.getD .skip
theorem e158 : OM.Entry Try.prog 158 := ⟨_, Try.func158, by kernel_rfl, by kernel_rfl⟩
@[reducible] noncomputable def spec_l1Pick.g : Sig := ⟨[.ptr tl1Cur .z .z, .fz (.sl .str)], [.v .str .z], []⟩
@[reducible] noncomputable def spec_l1Pick.fk : Nat → denI spec_l1Pick.g.pms → Option (denR (outTys spec_l1Pick.g.rts spec_l1Pick.g.pms)) := fun k x => spec_l1Pick.f x.1 x.2.1
@[reducible] noncomputable def spec_l1Pick.sm (k : Nat) : Sm := ⟨158, spec_l1Pick.g.pms, spec_l1Pick.g.rts, spec_l1Pick.fk k⟩
noncomputable def spec_l1Pick.E (k : Nat) : Env := ⟨tys, [spec_l1Below.sm k], [], [], []⟩
noncomputable def spec_l1Pick.pts : List (Pt (denR (outTys spec_l1Pick.g.rts spec_l1Pick.g.pms))) := []
theorem spec_l1Pick.hf (k : Nat) (a0 : l1Cur) (a1 : (List ByteArray)) : (spec_l1Pick.f a0 a1 : Option (denR (outTys spec_l1Pick.g.rts spec_l1Pick.g.pms))) = evC (spec_l1Pick.E k) (fun κ s => lhOf k κ s spec_l1Pick.pts) b158 (OM.start spec_l1Pick.g.pms 0 (a0, a1, ())) (OM.fin spec_l1Pick.g Try.f158.results.toList) := by kernel_rfl
theorem spec_l1Pick.ok (k : Nat) : SmOk Try.prog (spec_l1Pick.sm k) :=
  sm_ok mixed (E := spec_l1Pick.E) (pts := spec_l1Pick.pts) (fun k => ⟨⟨tysOk, by kernel_rfl⟩, forall_cons ⟨spec_l1Below.ok k, e50⟩ (forall_nil)⟩) (fun _ => rfl) (fun _ => rfl)
    ⟨Try.func158, by kernel_rfl, by kernel_rfl, by kernel_rfl, by kernel_rfl, by kernel_rfl, by kernel_rfl⟩ (forall_nil) (fun k x => spec_l1Pick.hf k x.1 x.2.1) k
noncomputable def b71 : Code := Try.f71.body.getD .skip
theorem e71 : OM.Entry Try.prog 71 := ⟨_, Try.func71, by kernel_rfl, by kernel_rfl⟩
@[reducible] noncomputable def spec_l1In.g : Sig := ⟨[.fz (.int .i64), .fz (.int .i64), .fz (.int .i64)], [.v .bool .z], []⟩
@[reducible] noncomputable def spec_l1In.fk : Nat → denI spec_l1In.g.pms → Option (denR (outTys spec_l1In.g.rts spec_l1In.g.pms)) := fun k x => spec_l1In.f x.1 x.2.1 x.2.2.1
@[reducible] noncomputable def spec_l1In.sm (k : Nat) : Sm := ⟨71, spec_l1In.g.pms, spec_l1In.g.rts, spec_l1In.fk k⟩
noncomputable def spec_l1In.E (k : Nat) : Env := ⟨tys, [], [], [], []⟩
noncomputable def spec_l1In.pts : List (Pt (denR (outTys spec_l1In.g.rts spec_l1In.g.pms))) := []
theorem spec_l1In.hf (k : Nat) (a0 : Int) (a1 : Int) (a2 : Int) : (spec_l1In.f a0 a1 a2 : Option (denR (outTys spec_l1In.g.rts spec_l1In.g.pms))) = evC (spec_l1In.E k) (fun κ s => lhOf k κ s spec_l1In.pts) b71 (OM.start spec_l1In.g.pms 0 (a0, a1, a2, ())) (OM.fin spec_l1In.g Try.f71.results.toList) := by kernel_rfl
theorem spec_l1In.ok (k : Nat) : SmOk Try.prog (spec_l1In.sm k) :=
  sm_ok mixed (E := spec_l1In.E) (pts := spec_l1In.pts) (fun k => ⟨⟨tysOk, by kernel_rfl⟩, forall_nil⟩) (fun _ => rfl) (fun _ => rfl)
    ⟨Try.func71, by kernel_rfl, by kernel_rfl, by kernel_rfl, by kernel_rfl, by kernel_rfl, by kernel_rfl⟩ (forall_nil) (fun k x => spec_l1In.hf k x.1 x.2.1 x.2.2.1) k
noncomputable def b52 : Code := Try.f52.body.getD .skip
theorem e52 : OM.Entry Try.prog 52 := ⟨_, Try.func52, by kernel_rfl, by kernel_rfl⟩
@[reducible] noncomputable def spec_PlaceOk.g : Sig := ⟨[.fz (.int .i64)], [.v .bool .z], []⟩
@[reducible] noncomputable def spec_PlaceOk.fk : Nat → denI spec_PlaceOk.g.pms → Option (denR (outTys spec_PlaceOk.g.rts spec_PlaceOk.g.pms)) := fun k x => spec_PlaceOk.f x.1
@[reducible] noncomputable def spec_PlaceOk.sm (k : Nat) : Sm := ⟨52, spec_PlaceOk.g.pms, spec_PlaceOk.g.rts, spec_PlaceOk.fk k⟩
noncomputable def spec_PlaceOk.E (k : Nat) : Env := ⟨tys, [spec_l1In.sm k], [], [], []⟩
noncomputable def spec_PlaceOk.pts : List (Pt (denR (outTys spec_PlaceOk.g.rts spec_PlaceOk.g.pms))) := []
theorem spec_PlaceOk.hf (k : Nat) (a0 : Int) : (spec_PlaceOk.f a0 : Option (denR (outTys spec_PlaceOk.g.rts spec_PlaceOk.g.pms))) = evC (spec_PlaceOk.E k) (fun κ s => lhOf k κ s spec_PlaceOk.pts) b52 (OM.start spec_PlaceOk.g.pms 0 (a0, ())) (OM.fin spec_PlaceOk.g Try.f52.results.toList) := by kernel_rfl
theorem spec_PlaceOk.ok (k : Nat) : SmOk Try.prog (spec_PlaceOk.sm k) :=
  sm_ok mixed (E := spec_PlaceOk.E) (pts := spec_PlaceOk.pts) (fun k => ⟨⟨tysOk, by kernel_rfl⟩, forall_cons ⟨spec_l1In.ok k, e71⟩ (forall_nil)⟩) (fun _ => rfl) (fun _ => rfl)
    ⟨Try.func52, by kernel_rfl, by kernel_rfl, by kernel_rfl, by kernel_rfl, by kernel_rfl, by kernel_rfl⟩ (forall_nil) (fun k x => spec_PlaceOk.hf k x.1) k
noncomputable def b61 : Code := Try.f61.body.getD .skip
theorem e61 : OM.Entry Try.prog 61 := ⟨_, Try.func61, by kernel_rfl, by kernel_rfl⟩
@[reducible] noncomputable def spec_EpochOf.g : Sig := ⟨[.fz (.int .i64)], [.v (.int .i64) .z], []⟩
@[reducible] noncomputable def spec_EpochOf.fk : Nat → denI spec_EpochOf.g.pms → Option (denR (outTys spec_EpochOf.g.rts spec_EpochOf.g.pms)) := fun k x => spec_EpochOf.f x.1
@[reducible] noncomputable def spec_EpochOf.sm (k : Nat) : Sm := ⟨61, spec_EpochOf.g.pms, spec_EpochOf.g.rts, spec_EpochOf.fk k⟩
noncomputable def spec_EpochOf.E (k : Nat) : Env := ⟨tys, [spec_PlaceOk.sm k], [], [], []⟩
noncomputable def spec_EpochOf.pts : List (Pt (denR (outTys spec_EpochOf.g.rts spec_EpochOf.g.pms))) := []
theorem spec_EpochOf.hf (k : Nat) (a0 : Int) : (spec_EpochOf.f a0 : Option (denR (outTys spec_EpochOf.g.rts spec_EpochOf.g.pms))) = evC (spec_EpochOf.E k) (fun κ s => lhOf k κ s spec_EpochOf.pts) b61 (OM.start spec_EpochOf.g.pms 0 (a0, ())) (OM.fin spec_EpochOf.g Try.f61.results.toList) := by kernel_rfl
theorem spec_EpochOf.ok (k : Nat) : SmOk Try.prog (spec_EpochOf.sm k) :=
  sm_ok mixed (E := spec_EpochOf.E) (pts := spec_EpochOf.pts) (fun k => ⟨⟨tysOk, by kernel_rfl⟩, forall_cons ⟨spec_PlaceOk.ok k, e52⟩ (forall_nil)⟩) (fun _ => rfl) (fun _ => rfl)
    ⟨Try.func61, by kernel_rfl, by kernel_rfl, by kernel_rfl, by kernel_rfl, by kernel_rfl, by kernel_rfl⟩ (forall_nil) (fun k x => spec_EpochOf.hf k x.1) k
noncomputable def b120 : Code := Try.f120.body.getD .skip
theorem e120 : OM.Entry Try.prog 120 := ⟨_, Try.func120, by kernel_rfl, by kernel_rfl⟩
@[reducible] noncomputable def spec_l3DrawRight.g : Sig := ⟨[.ptr tl1Cur .z .z], [.v tEntry .z], []⟩
@[reducible] noncomputable def spec_l3DrawRight.fk : Nat → denI spec_l3DrawRight.g.pms → Option (denR (outTys spec_l3DrawRight.g.rts spec_l3DrawRight.g.pms)) := fun k x => spec_l3DrawRight.f x.1
@[reducible] noncomputable def spec_l3DrawRight.sm (k : Nat) : Sm := ⟨120, spec_l3DrawRight.g.pms, spec_l3DrawRight.g.rts, spec_l3DrawRight.fk k⟩
noncomputable def spec_l3DrawRight.E (k : Nat) : Env := ⟨tys, [spec_l1Below.sm k, spec_l1Once.sm k, spec_l1Place.sm k, spec_l1Pick.sm k, spec_EpochOf.sm k], [], [], []⟩
noncomputable def spec_l3DrawRight.pts : List (Pt (denR (outTys spec_l3DrawRight.g.rts spec_l3DrawRight.g.pms))) := []
theorem spec_l3DrawRight.hf (k : Nat) (a0 : l1Cur) : (spec_l3DrawRight.f a0 : Option (denR (outTys spec_l3DrawRight.g.rts spec_l3DrawRight.g.pms))) = evC (spec_l3DrawRight.E k) (fun κ s => lhOf k κ s spec_l3DrawRight.pts) b120 (OM.start spec_l3DrawRight.g.pms 0 (a0, ())) (OM.fin spec_l3DrawRight.g Try.f120.results.toList) := by kernel_rfl
theorem spec_l3DrawRight.ok (k : Nat) : SmOk Try.prog (spec_l3DrawRight.sm k) :=
  sm_ok mixed (E := spec_l3DrawRight.E) (pts := spec_l3DrawRight.pts) (fun k => ⟨⟨tysOk, by kernel_rfl⟩, forall_cons ⟨spec_l1Below.ok k, e50⟩ (forall_cons ⟨spec_l1Once.ok k, e49⟩ (forall_cons ⟨spec_l1Place.ok k, e53⟩ (forall_cons ⟨spec_l1Pick.ok k, e158⟩ (forall_cons ⟨spec_EpochOf.ok k, e61⟩ (forall_nil)))))⟩) (fun _ => rfl) (fun _ => rfl)
    ⟨Try.func120, by kernel_rfl, by kernel_rfl, by kernel_rfl, by kernel_rfl, by kernel_rfl, by kernel_rfl⟩ (forall_nil) (fun k x => spec_l3DrawRight.hf k x.1) k
noncomputable def b74 : Code := Try.f74.body.getD .skip
theorem e74 : OM.Entry Try.prog 74 := ⟨_, Try.func74, by kernel_rfl, by kernel_rfl⟩
@[reducible] noncomputable def spec_EntryOk.g : Sig := ⟨[.fz tEntry], [.v .bool .z], []⟩
@[reducible] noncomputable def spec_EntryOk.fk : Nat → denI spec_EntryOk.g.pms → Option (denR (outTys spec_EntryOk.g.rts spec_EntryOk.g.pms)) := fun k x => spec_EntryOk.f k x.1
@[reducible] noncomputable def spec_EntryOk.sm (k : Nat) : Sm := ⟨74, spec_EntryOk.g.pms, spec_EntryOk.g.rts, spec_EntryOk.fk k⟩
noncomputable def spec_EntryOk.E (k : Nat) : Env := ⟨tys, [spec_l1In.sm k, spec_PlaceOk.sm k, spec_EpochOf.sm k], [], [3], []⟩
@[reducible] noncomputable def spec_EntryOk.s6 : List Slot := [.r 4 5 [] tEntry, .v 5 tEntry .z [] 0]
noncomputable def spec_EntryOk.pts : List (Pt (denR (outTys spec_EntryOk.g.rts spec_EntryOk.g.pms))) := [⟨6, spec_EntryOk.s6, fun k x => spec_EntryOk.p6 k x.1⟩]
theorem spec_EntryOk.h6 (k : Nat) (x0 : Entry) : (spec_EntryOk.p6 (k + 1) x0 : Option (denR (outTys spec_EntryOk.g.rts spec_EntryOk.g.pms))) = evAt (spec_EntryOk.E k) (fun κ s => lhOf k κ s spec_EntryOk.pts) 6 b74 (unproj spec_EntryOk.s6 (x0, ())) (OM.fin spec_EntryOk.g Try.f74.results.toList) := by kernel_rfl
theorem spec_EntryOk.hf (k : Nat) (a0 : Entry) : (spec_EntryOk.f k a0 : Option (denR (outTys spec_EntryOk.g.rts spec_EntryOk.g.pms))) = evC (spec_EntryOk.E k) (fun κ s => lhOf k κ s spec_EntryOk.pts) b74 (OM.start spec_EntryOk.g.pms 0 (a0, ())) (OM.fin spec_EntryOk.g Try.f74.results.toList) := by kernel_rfl
theorem spec_EntryOk.ok (k : Nat) : SmOk Try.prog (spec_EntryOk.sm k) :=
  sm_ok mixed (E := spec_EntryOk.E) (pts := spec_EntryOk.pts) (fun k => ⟨⟨tysOk, by kernel_rfl⟩, forall_cons ⟨spec_l1In.ok k, e71⟩ (forall_cons ⟨spec_PlaceOk.ok k, e52⟩ (forall_cons ⟨spec_EpochOf.ok k, e61⟩ (forall_nil)))⟩) (fun _ => rfl) (fun _ => rfl)
    ⟨Try.func74, by kernel_rfl, by kernel_rfl, by kernel_rfl, by kernel_rfl, by kernel_rfl, by kernel_rfl⟩ (forall_cons (fun x => ⟨rfl, fun k => spec_EntryOk.h6 k x.1⟩) (forall_nil)) (fun k x => spec_EntryOk.hf k x.1) k
noncomputable def b189 : Code := Try.f189.body.getD .skip
theorem e189 : OM.Entry Try.prog 189 := ⟨_, Try.func189, by kernel_rfl, by kernel_rfl⟩
@[reducible] noncomputable def spec_l6List.g : Sig := ⟨[.fz (.sl tEntry), .fz (.int .i64)], [.v .bool .z], []⟩
@[reducible] noncomputable def spec_l6List.fk : Nat → denI spec_l6List.g.pms → Option (denR (outTys spec_l6List.g.rts spec_l6List.g.pms)) := fun k x => spec_l6List.f k x.1 x.2.1
@[reducible] noncomputable def spec_l6List.sm (k : Nat) : Sm := ⟨189, spec_l6List.g.pms, spec_l6List.g.rts, spec_l6List.fk k⟩
noncomputable def spec_l6List.E (k : Nat) : Env := ⟨tys, [spec_EntryOk.sm k], [], [], []⟩
@[reducible] noncomputable def spec_l6List.s9 : List Slot := [.v 0 (.sl tEntry) .z [] 0, .v 20 (.int .i64) .z [] 0]
noncomputable def spec_l6List.pts : List (Pt (denR (outTys spec_l6List.g.rts spec_l6List.g.pms))) := [⟨9, spec_l6List.s9, fun k x => spec_l6List.p9 k x.1 x.2.1⟩]
theorem spec_l6List.h9 (k : Nat) (x0 : (List Entry)) (x1 : Int) : (spec_l6List.p9 (k + 1) x0 x1 : Option (denR (outTys spec_l6List.g.rts spec_l6List.g.pms))) = evAt (spec_l6List.E k) (fun κ s => lhOf k κ s spec_l6List.pts) 9 b189 (unproj spec_l6List.s9 (x0, x1, ())) (OM.fin spec_l6List.g Try.f189.results.toList) := by kernel_rfl
theorem spec_l6List.hf (k : Nat) (a0 : (List Entry)) (a1 : Int) : (spec_l6List.f k a0 a1 : Option (denR (outTys spec_l6List.g.rts spec_l6List.g.pms))) = evC (spec_l6List.E k) (fun κ s => lhOf k κ s spec_l6List.pts) b189 (OM.start spec_l6List.g.pms 0 (a0, a1, ())) (OM.fin spec_l6List.g Try.f189.results.toList) := by kernel_rfl
theorem spec_l6List.ok (k : Nat) : SmOk Try.prog (spec_l6List.sm k) :=
  sm_ok mixed (E := spec_l6List.E) (pts := spec_l6List.pts) (fun k => ⟨⟨tysOk, by kernel_rfl⟩, forall_cons ⟨spec_EntryOk.ok k, e74⟩ (forall_nil)⟩) (fun _ => rfl) (fun _ => rfl)
    ⟨Try.func189, by kernel_rfl, by kernel_rfl, by kernel_rfl, by kernel_rfl, by kernel_rfl, by kernel_rfl⟩ (forall_cons (fun x => ⟨rfl, fun k => spec_l6List.h9 k x.1 x.2.1⟩) (forall_nil)) (fun k x => spec_l6List.hf k x.1 x.2.1) k
noncomputable def b73 : Code := Try.f73.body.getD .skip
theorem e73 : OM.Entry Try.prog 73 := ⟨_, Try.func73, by kernel_rfl, by kernel_rfl⟩
@[reducible] noncomputable def spec_l6Asc.g : Sig := ⟨[.fz (.sl tEntry)], [.v .bool .z], []⟩
@[reducible] noncomputable def spec_l6Asc.fk : Nat → denI spec_l6Asc.g.pms → Option (denR (outTys spec_l6Asc.g.rts spec_l6Asc.g.pms)) := fun k x => spec_l6Asc.f k x.1
@[reducible] noncomputable def spec_l6Asc.sm (k : Nat) : Sm := ⟨73, spec_l6Asc.g.pms, spec_l6Asc.g.rts, spec_l6Asc.fk k⟩
noncomputable def spec_l6Asc.E (k : Nat) : Env := ⟨tys, [], [], [], []⟩
@[reducible] noncomputable def spec_l6Asc.s5 : List Slot := [.v 0 (.sl tEntry) .z [] 0, .v 12 (.int .i64) .z [] 0]
noncomputable def spec_l6Asc.pts : List (Pt (denR (outTys spec_l6Asc.g.rts spec_l6Asc.g.pms))) := [⟨5, spec_l6Asc.s5, fun k x => spec_l6Asc.p5 k x.1 x.2.1⟩]
theorem spec_l6Asc.h5 (k : Nat) (x0 : (List Entry)) (x1 : Int) : (spec_l6Asc.p5 (k + 1) x0 x1 : Option (denR (outTys spec_l6Asc.g.rts spec_l6Asc.g.pms))) = evAt (spec_l6Asc.E k) (fun κ s => lhOf k κ s spec_l6Asc.pts) 5 b73 (unproj spec_l6Asc.s5 (x0, x1, ())) (OM.fin spec_l6Asc.g Try.f73.results.toList) := by kernel_rfl
theorem spec_l6Asc.hf (k : Nat) (a0 : (List Entry)) : (spec_l6Asc.f k a0 : Option (denR (outTys spec_l6Asc.g.rts spec_l6Asc.g.pms))) = evC (spec_l6Asc.E k) (fun κ s => lhOf k κ s spec_l6Asc.pts) b73 (OM.start spec_l6Asc.g.pms 0 (a0, ())) (OM.fin spec_l6Asc.g Try.f73.results.toList) := by kernel_rfl
theorem spec_l6Asc.ok (k : Nat) : SmOk Try.prog (spec_l6Asc.sm k) :=
  sm_ok mixed (E := spec_l6Asc.E) (pts := spec_l6Asc.pts) (fun k => ⟨⟨tysOk, by kernel_rfl⟩, forall_nil⟩) (fun _ => rfl) (fun _ => rfl)
    ⟨Try.func73, by kernel_rfl, by kernel_rfl, by kernel_rfl, by kernel_rfl, by kernel_rfl, by kernel_rfl⟩ (forall_cons (fun x => ⟨rfl, fun k => spec_l6Asc.h5 k x.1 x.2.1⟩) (forall_nil)) (fun k x => spec_l6Asc.hf k x.1) k
noncomputable def b183 : Code := Try.f183.body.getD .skip
theorem e183 : OM.Entry Try.prog 183 := ⟨_, Try.func183, by kernel_rfl, by kernel_rfl⟩
@[reducible] noncomputable def spec_StoreOk.g : Sig := ⟨[.fz tStore], [.v .bool .z], []⟩
@[reducible] noncomputable def spec_StoreOk.fk : Nat → denI spec_StoreOk.g.pms → Option (denR (outTys spec_StoreOk.g.rts spec_StoreOk.g.pms)) := fun k x => spec_StoreOk.f k x.1
@[reducible] noncomputable def spec_StoreOk.sm (k : Nat) : Sm := ⟨183, spec_StoreOk.g.pms, spec_StoreOk.g.rts, spec_StoreOk.fk k⟩
noncomputable def spec_StoreOk.E (k : Nat) : Env := ⟨tys, [spec_l1In.sm k, spec_l6List.sm k, spec_l6Asc.sm k], [], [], []⟩
noncomputable def spec_StoreOk.pts : List (Pt (denR (outTys spec_StoreOk.g.rts spec_StoreOk.g.pms))) := []
theorem spec_StoreOk.hf (k : Nat) (a0 : Store) : (spec_StoreOk.f k a0 : Option (denR (outTys spec_StoreOk.g.rts spec_StoreOk.g.pms))) = evC (spec_StoreOk.E k) (fun κ s => lhOf k κ s spec_StoreOk.pts) b183 (OM.start spec_StoreOk.g.pms 0 (a0, ())) (OM.fin spec_StoreOk.g Try.f183.results.toList) := by kernel_rfl
theorem spec_StoreOk.ok (k : Nat) : SmOk Try.prog (spec_StoreOk.sm k) :=
  sm_ok mixed (E := spec_StoreOk.E) (pts := spec_StoreOk.pts) (fun k => ⟨⟨tysOk, by kernel_rfl⟩, forall_cons ⟨spec_l1In.ok k, e71⟩ (forall_cons ⟨spec_l6List.ok k, e189⟩ (forall_cons ⟨spec_l6Asc.ok k, e73⟩ (forall_nil)))⟩) (fun _ => rfl) (fun _ => rfl)
    ⟨Try.func183, by kernel_rfl, by kernel_rfl, by kernel_rfl, by kernel_rfl, by kernel_rfl, by kernel_rfl⟩ (forall_nil) (fun k x => spec_StoreOk.hf k x.1) k
noncomputable def b190 : Code := Try.f190.body.getD .skip
theorem e190 : OM.Entry Try.prog 190 := ⟨_, Try.func190, by kernel_rfl, by kernel_rfl⟩
@[reducible] noncomputable def spec_l6Copy.g : Sig := ⟨[.fz tStore], [.v tStore (.two (.own .z) (.two (.own .z) .z))], []⟩
@[reducible] noncomputable def spec_l6Copy.fk : Nat → denI spec_l6Copy.g.pms → Option (denR (outTys spec_l6Copy.g.rts spec_l6Copy.g.pms)) := fun k x => spec_l6Copy.f x.1
@[reducible] noncomputable def spec_l6Copy.sm (k : Nat) : Sm := ⟨190, spec_l6Copy.g.pms, spec_l6Copy.g.rts, spec_l6Copy.fk k⟩
noncomputable def spec_l6Copy.E (k : Nat) : Env := ⟨tys, [], [12], [], []⟩
noncomputable def spec_l6Copy.pts : List (Pt (denR (outTys spec_l6Copy.g.rts spec_l6Copy.g.pms))) := []
theorem spec_l6Copy.hf (k : Nat) (a0 : Store) : (spec_l6Copy.f a0 : Option (denR (outTys spec_l6Copy.g.rts spec_l6Copy.g.pms))) = evC (spec_l6Copy.E k) (fun κ s => lhOf k κ s spec_l6Copy.pts) b190 (OM.start spec_l6Copy.g.pms 0 (a0, ())) (OM.fin spec_l6Copy.g Try.f190.results.toList) := by kernel_rfl
theorem spec_l6Copy.ok (k : Nat) : SmOk Try.prog (spec_l6Copy.sm k) :=
  sm_ok mixed (E := spec_l6Copy.E) (pts := spec_l6Copy.pts) (fun k => ⟨⟨tysOk, by kernel_rfl⟩, forall_nil⟩) (fun _ => rfl) (fun _ => rfl)
    ⟨Try.func190, by kernel_rfl, by kernel_rfl, by kernel_rfl, by kernel_rfl, by kernel_rfl, by kernel_rfl⟩ (forall_nil) (fun k x => spec_l6Copy.hf k x.1) k
noncomputable def b191 : Code := Try.f191.body.getD .skip
theorem e191 : OM.Entry Try.prog 191 := ⟨_, Try.func191, by kernel_rfl, by kernel_rfl⟩
@[reducible] noncomputable def spec_l6Takes.g : Sig := ⟨[.fz tStore, .fz tEntry], [.v .bool .z], []⟩
@[reducible] noncomputable def spec_l6Takes.fk : Nat → denI spec_l6Takes.g.pms → Option (denR (outTys spec_l6Takes.g.rts spec_l6Takes.g.pms)) := fun k x => spec_l6Takes.f x.1 x.2.1
@[reducible] noncomputable def spec_l6Takes.sm (k : Nat) : Sm := ⟨191, spec_l6Takes.g.pms, spec_l6Takes.g.rts, spec_l6Takes.fk k⟩
noncomputable def spec_l6Takes.E (k : Nat) : Env := ⟨tys, [spec_EpochOf.sm k], [], [], []⟩
noncomputable def spec_l6Takes.pts : List (Pt (denR (outTys spec_l6Takes.g.rts spec_l6Takes.g.pms))) := []
theorem spec_l6Takes.hf (k : Nat) (a0 : Store) (a1 : Entry) : (spec_l6Takes.f a0 a1 : Option (denR (outTys spec_l6Takes.g.rts spec_l6Takes.g.pms))) = evC (spec_l6Takes.E k) (fun κ s => lhOf k κ s spec_l6Takes.pts) b191 (OM.start spec_l6Takes.g.pms 0 (a0, a1, ())) (OM.fin spec_l6Takes.g Try.f191.results.toList) := by kernel_rfl
theorem spec_l6Takes.ok (k : Nat) : SmOk Try.prog (spec_l6Takes.sm k) :=
  sm_ok mixed (E := spec_l6Takes.E) (pts := spec_l6Takes.pts) (fun k => ⟨⟨tysOk, by kernel_rfl⟩, forall_cons ⟨spec_EpochOf.ok k, e61⟩ (forall_nil)⟩) (fun _ => rfl) (fun _ => rfl)
    ⟨Try.func191, by kernel_rfl, by kernel_rfl, by kernel_rfl, by kernel_rfl, by kernel_rfl, by kernel_rfl⟩ (forall_nil) (fun k x => spec_l6Takes.hf k x.1 x.2.1) k
noncomputable def b184 : Code := Try.f184.body.getD .skip
theorem e184 : OM.Entry Try.prog 184 := ⟨_, Try.func184, by kernel_rfl, by kernel_rfl⟩
@[reducible] noncomputable def spec_StorePut.g : Sig := ⟨[.fz tStore, .fz tEntry], [.v tStore (.two (.own .z) (.two (.own .z) .z)), .v .bool .z], []⟩
@[reducible] noncomputable def spec_StorePut.fk : Nat → denI spec_StorePut.g.pms → Option (denR (outTys spec_StorePut.g.rts spec_StorePut.g.pms)) := fun k x => spec_StorePut.f k x.1 x.2.1
@[reducible] noncomputable def spec_StorePut.sm (k : Nat) : Sm := ⟨184, spec_StorePut.g.pms, spec_StorePut.g.rts, spec_StorePut.fk k⟩
noncomputable def spec_StorePut.E (k : Nat) : Env := ⟨tys, [spec_EntryOk.sm k, spec_StoreOk.sm k, spec_l6Copy.sm k, spec_l6Takes.sm k], [31], [], []⟩
noncomputable def spec_StorePut.pts : List (Pt (denR (outTys spec_StorePut.g.rts spec_StorePut.g.pms))) := []
theorem spec_StorePut.hf (k : Nat) (a0 : Store) (a1 : Entry) : (spec_StorePut.f k a0 a1 : Option (denR (outTys spec_StorePut.g.rts spec_StorePut.g.pms))) = evC (spec_StorePut.E k) (fun κ s => lhOf k κ s spec_StorePut.pts) b184 (OM.start spec_StorePut.g.pms 0 (a0, a1, ())) (OM.fin spec_StorePut.g Try.f184.results.toList) := by kernel_rfl
theorem spec_StorePut.ok (k : Nat) : SmOk Try.prog (spec_StorePut.sm k) :=
  sm_ok mixed (E := spec_StorePut.E) (pts := spec_StorePut.pts) (fun k => ⟨⟨tysOk, by kernel_rfl⟩, forall_cons ⟨spec_EntryOk.ok k, e74⟩ (forall_cons ⟨spec_StoreOk.ok k, e183⟩ (forall_cons ⟨spec_l6Copy.ok k, e190⟩ (forall_cons ⟨spec_l6Takes.ok k, e191⟩ (forall_nil))))⟩) (fun _ => rfl) (fun _ => rfl)
    ⟨Try.func184, by kernel_rfl, by kernel_rfl, by kernel_rfl, by kernel_rfl, by kernel_rfl, by kernel_rfl⟩ (forall_nil) (fun k x => spec_StorePut.hf k x.1 x.2.1) k
noncomputable def b130 : Code := Try.f130.body.getD .skip
theorem e130 : OM.Entry Try.prog 130 := ⟨_, Try.func130, by kernel_rfl, by kernel_rfl⟩
@[reducible] noncomputable def spec_Better.g : Sig := ⟨[.fz tEntry, .fz tEntry], [.v tEntry .z], []⟩
@[reducible] noncomputable def spec_Better.fk : Nat → denI spec_Better.g.pms → Option (denR (outTys spec_Better.g.rts spec_Better.g.pms)) := fun k x => spec_Better.f x.1 x.2.1
@[reducible] noncomputable def spec_Better.sm (k : Nat) : Sm := ⟨130, spec_Better.g.pms, spec_Better.g.rts, spec_Better.fk k⟩
noncomputable def spec_Better.E (k : Nat) : Env := ⟨tys, [], [], [], []⟩
noncomputable def spec_Better.pts : List (Pt (denR (outTys spec_Better.g.rts spec_Better.g.pms))) := []
theorem spec_Better.hf (k : Nat) (a0 : Entry) (a1 : Entry) : (spec_Better.f a0 a1 : Option (denR (outTys spec_Better.g.rts spec_Better.g.pms))) = evC (spec_Better.E k) (fun κ s => lhOf k κ s spec_Better.pts) b130 (OM.start spec_Better.g.pms 0 (a0, a1, ())) (OM.fin spec_Better.g Try.f130.results.toList) := by kernel_rfl
theorem spec_Better.ok (k : Nat) : SmOk Try.prog (spec_Better.sm k) :=
  sm_ok mixed (E := spec_Better.E) (pts := spec_Better.pts) (fun k => ⟨⟨tysOk, by kernel_rfl⟩, forall_nil⟩) (fun _ => rfl) (fun _ => rfl)
    ⟨Try.func130, by kernel_rfl, by kernel_rfl, by kernel_rfl, by kernel_rfl, by kernel_rfl, by kernel_rfl⟩ (forall_nil) (fun k x => spec_Better.hf k x.1 x.2.1) k
noncomputable def b62 : Code := Try.f62.body.getD .skip
theorem e62 : OM.Entry Try.prog 62 := ⟨_, Try.func62, by kernel_rfl, by kernel_rfl⟩
@[reducible] noncomputable def spec_l6Keep.g : Sig := ⟨[.fz (.sl tEntry), .fz tEntry], [.v (.sl tEntry) (.own .z)], []⟩
@[reducible] noncomputable def spec_l6Keep.fk : Nat → denI spec_l6Keep.g.pms → Option (denR (outTys spec_l6Keep.g.rts spec_l6Keep.g.pms)) := fun k x => spec_l6Keep.f k x.1 x.2.1
@[reducible] noncomputable def spec_l6Keep.sm (k : Nat) : Sm := ⟨62, spec_l6Keep.g.pms, spec_l6Keep.g.rts, spec_l6Keep.fk k⟩
noncomputable def spec_l6Keep.E (k : Nat) : Env := ⟨tys, [spec_Better.sm k], [56, 62], [9], []⟩
@[reducible] noncomputable def spec_l6Keep.s9 : List Slot := [.v 0 (.sl tEntry) .z [] 0, .r 12 13 [] tEntry, .v 20 (.sl tEntry) (.own .z) [] 0, .v 24 .bool .z [] 0, .v 28 (.int .i64) .z [] 0, .v 13 tEntry .z [] 0]
@[reducible] noncomputable def spec_l6Keep.s18 : List Slot := [.v 0 (.sl tEntry) .z [] 0, .r 12 13 [] tEntry, .v 20 (.sl tEntry) (.own .z) [] 0, .v 24 .bool .z [] 0, .v 28 (.int .i64) .z [] 0, .v 13 tEntry .z [] 0]
noncomputable def spec_l6Keep.pts : List (Pt (denR (outTys spec_l6Keep.g.rts spec_l6Keep.g.pms))) := [⟨9, spec_l6Keep.s9, fun k x => spec_l6Keep.p9 k x.1 x.2.1 x.2.2.1 x.2.2.2.1 x.2.2.2.2.1⟩, ⟨18, spec_l6Keep.s18, fun k x => spec_l6Keep.p18 k x.1 x.2.1 x.2.2.1 x.2.2.2.1 x.2.2.2.2.1⟩]
theorem spec_l6Keep.h9 (k : Nat) (x0 : (List Entry)) (x1 : (List Entry)) (x2 : Bool) (x3 : Int) (x4 : Entry) : (spec_l6Keep.p9 (k + 1) x0 x1 x2 x3 x4 : Option (denR (outTys spec_l6Keep.g.rts spec_l6Keep.g.pms))) = evAt (spec_l6Keep.E k) (fun κ s => lhOf k κ s spec_l6Keep.pts) 9 b62 (unproj spec_l6Keep.s9 (x0, x1, x2, x3, x4, ())) (OM.fin spec_l6Keep.g Try.f62.results.toList) := by kernel_rfl
theorem spec_l6Keep.h18 (k : Nat) (x0 : (List Entry)) (x1 : (List Entry)) (x2 : Bool) (x3 : Int) (x4 : Entry) : (spec_l6Keep.p18 (k + 1) x0 x1 x2 x3 x4 : Option (denR (outTys spec_l6Keep.g.rts spec_l6Keep.g.pms))) = evAt (spec_l6Keep.E k) (fun κ s => lhOf k κ s spec_l6Keep.pts) 18 b62 (unproj spec_l6Keep.s18 (x0, x1, x2, x3, x4, ())) (OM.fin spec_l6Keep.g Try.f62.results.toList) := by kernel_rfl
theorem spec_l6Keep.hf (k : Nat) (a0 : (List Entry)) (a1 : Entry) : (spec_l6Keep.f k a0 a1 : Option (denR (outTys spec_l6Keep.g.rts spec_l6Keep.g.pms))) = evC (spec_l6Keep.E k) (fun κ s => lhOf k κ s spec_l6Keep.pts) b62 (OM.start spec_l6Keep.g.pms 0 (a0, a1, ())) (OM.fin spec_l6Keep.g Try.f62.results.toList) := by kernel_rfl
theorem spec_l6Keep.ok (k : Nat) : SmOk Try.prog (spec_l6Keep.sm k) :=
  sm_ok mixed (E := spec_l6Keep.E) (pts := spec_l6Keep.pts) (fun k => ⟨⟨tysOk, by kernel_rfl⟩, forall_cons ⟨spec_Better.ok k, e130⟩ (forall_nil)⟩) (fun _ => rfl) (fun _ => rfl)
    ⟨Try.func62, by kernel_rfl, by kernel_rfl, by kernel_rfl, by kernel_rfl, by kernel_rfl, by kernel_rfl⟩ (forall_cons (fun x => ⟨rfl, fun k => spec_l6Keep.h9 k x.1 x.2.1 x.2.2.1 x.2.2.2.1 x.2.2.2.2.1⟩) (forall_cons (fun x => ⟨rfl, fun k => spec_l6Keep.h18 k x.1 x.2.1 x.2.2.1 x.2.2.2.1 x.2.2.2.2.1⟩) (forall_nil))) (fun k x => spec_l6Keep.hf k x.1 x.2.1) k
noncomputable def b192 : Code := Try.f192.body.getD .skip
theorem e192 : OM.Entry Try.prog 192 := ⟨_, Try.func192, by kernel_rfl, by kernel_rfl⟩
@[reducible] noncomputable def spec_StoreCrash.g : Sig := ⟨[.fz tStore, .fz (.int .i64)], [.v tStore (.two (.own .z) (.two (.own .z) .z)), .v .bool .z], []⟩
@[reducible] noncomputable def spec_StoreCrash.fk : Nat → denI spec_StoreCrash.g.pms → Option (denR (outTys spec_StoreCrash.g.rts spec_StoreCrash.g.pms)) := fun k x => spec_StoreCrash.f k x.1 x.2.1
@[reducible] noncomputable def spec_StoreCrash.sm (k : Nat) : Sm := ⟨192, spec_StoreCrash.g.pms, spec_StoreCrash.g.rts, spec_StoreCrash.fk k⟩
noncomputable def spec_StoreCrash.E (k : Nat) : Env := ⟨tys, [spec_l1In.sm k, spec_StoreOk.sm k, spec_l6Copy.sm k, spec_l6Keep.sm k], [], [], []⟩
@[reducible] noncomputable def spec_StoreCrash.s11 : List Slot := [.v 4 (.int .i64) .z [] 0, .r 8 9 [] tStore, .r 16 17 [] tStore, .r 24 25 [] tStore, .v 28 (.int .i64) .z [] 0, .v 9 tStore .z [] 0, .v 17 tStore (.two (.own .a) (.two (.own .a) .z)) [] 0, .v 25 tStore (.two (.own .z) (.two (.own .a) .z)) [] 0]
noncomputable def spec_StoreCrash.pts : List (Pt (denR (outTys spec_StoreCrash.g.rts spec_StoreCrash.g.pms))) := [⟨11, spec_StoreCrash.s11, fun k x => spec_StoreCrash.p11 k x.1 x.2.1 x.2.2.1 x.2.2.2.1 x.2.2.2.2.1⟩]
theorem spec_StoreCrash.h11 (k : Nat) (x0 : Int) (x1 : Int) (x2 : Store) (x3 : Store) (x4 : Store) : (spec_StoreCrash.p11 (k + 1) x0 x1 x2 x3 x4 : Option (denR (outTys spec_StoreCrash.g.rts spec_StoreCrash.g.pms))) = evAt (spec_StoreCrash.E k) (fun κ s => lhOf k κ s spec_StoreCrash.pts) 11 b192 (unproj spec_StoreCrash.s11 (x0, x1, x2, x3, x4, ())) (OM.fin spec_StoreCrash.g Try.f192.results.toList) := by kernel_rfl
theorem spec_StoreCrash.hf (k : Nat) (a0 : Store) (a1 : Int) : (spec_StoreCrash.f k a0 a1 : Option (denR (outTys spec_StoreCrash.g.rts spec_StoreCrash.g.pms))) = evC (spec_StoreCrash.E k) (fun κ s => lhOf k κ s spec_StoreCrash.pts) b192 (OM.start spec_StoreCrash.g.pms 0 (a0, a1, ())) (OM.fin spec_StoreCrash.g Try.f192.results.toList) := by kernel_rfl
theorem spec_StoreCrash.ok (k : Nat) : SmOk Try.prog (spec_StoreCrash.sm k) :=
  sm_ok mixed (E := spec_StoreCrash.E) (pts := spec_StoreCrash.pts) (fun k => ⟨⟨tysOk, by kernel_rfl⟩, forall_cons ⟨spec_l1In.ok k, e71⟩ (forall_cons ⟨spec_StoreOk.ok k, e183⟩ (forall_cons ⟨spec_l6Copy.ok k, e190⟩ (forall_cons ⟨spec_l6Keep.ok k, e62⟩ (forall_nil))))⟩) (fun _ => rfl) (fun _ => rfl)
    ⟨Try.func192, by kernel_rfl, by kernel_rfl, by kernel_rfl, by kernel_rfl, by kernel_rfl, by kernel_rfl⟩ (forall_cons (fun x => ⟨rfl, fun k => spec_StoreCrash.h11 k x.1 x.2.1 x.2.2.1 x.2.2.2.1 x.2.2.2.2.1⟩) (forall_nil)) (fun k x => spec_StoreCrash.hf k x.1 x.2.1) k
noncomputable def b185 : Code := Try.f185.body.getD .skip
theorem e185 : OM.Entry Try.prog 185 := ⟨_, Try.func185, by kernel_rfl, by kernel_rfl⟩
@[reducible] noncomputable def spec_StoreSync.g : Sig := ⟨[.fz tStore], [.v tStore (.two (.own .z) (.two (.own .z) .z)), .v .bool .z], []⟩
@[reducible] noncomputable def spec_StoreSync.fk : Nat → denI spec_StoreSync.g.pms → Option (denR (outTys spec_StoreSync.g.rts spec_StoreSync.g.pms)) := fun k x => spec_StoreSync.f k x.1
@[reducible] noncomputable def spec_StoreSync.sm (k : Nat) : Sm := ⟨185, spec_StoreSync.g.pms, spec_StoreSync.g.rts, spec_StoreSync.fk k⟩
noncomputable def spec_StoreSync.E (k : Nat) : Env := ⟨tys, [spec_StoreCrash.sm k], [], [], []⟩
noncomputable def spec_StoreSync.pts : List (Pt (denR (outTys spec_StoreSync.g.rts spec_StoreSync.g.pms))) := []
theorem spec_StoreSync.hf (k : Nat) (a0 : Store) : (spec_StoreSync.f k a0 : Option (denR (outTys spec_StoreSync.g.rts spec_StoreSync.g.pms))) = evC (spec_StoreSync.E k) (fun κ s => lhOf k κ s spec_StoreSync.pts) b185 (OM.start spec_StoreSync.g.pms 0 (a0, ())) (OM.fin spec_StoreSync.g Try.f185.results.toList) := by kernel_rfl
theorem spec_StoreSync.ok (k : Nat) : SmOk Try.prog (spec_StoreSync.sm k) :=
  sm_ok mixed (E := spec_StoreSync.E) (pts := spec_StoreSync.pts) (fun k => ⟨⟨tysOk, by kernel_rfl⟩, forall_cons ⟨spec_StoreCrash.ok k, e192⟩ (forall_nil)⟩) (fun _ => rfl) (fun _ => rfl)
    ⟨Try.func185, by kernel_rfl, by kernel_rfl, by kernel_rfl, by kernel_rfl, by kernel_rfl, by kernel_rfl⟩ (forall_nil) (fun k x => spec_StoreSync.hf k x.1) k
noncomputable def b172 : Code := Try.f172.body.getD .skip
theorem e172 : OM.Entry Try.prog 172 := ⟨_, Try.func172, by kernel_rfl, by kernel_rfl⟩
@[reducible] noncomputable def spec_l1Max.g : Sig := ⟨[.fz (.int .i64), .fz (.int .i64)], [.v (.int .i64) .z], []⟩
@[reducible] noncomputable def spec_l1Max.fk : Nat → denI spec_l1Max.g.pms → Option (denR (outTys spec_l1Max.g.rts spec_l1Max.g.pms)) := fun k x => spec_l1Max.f x.1 x.2.1
@[reducible] noncomputable def spec_l1Max.sm (k : Nat) : Sm := ⟨172, spec_l1Max.g.pms, spec_l1Max.g.rts, spec_l1Max.fk k⟩
noncomputable def spec_l1Max.E (k : Nat) : Env := ⟨tys, [], [], [], []⟩
noncomputable def spec_l1Max.pts : List (Pt (denR (outTys spec_l1Max.g.rts spec_l1Max.g.pms))) := []
theorem spec_l1Max.hf (k : Nat) (a0 : Int) (a1 : Int) : (spec_l1Max.f a0 a1 : Option (denR (outTys spec_l1Max.g.rts spec_l1Max.g.pms))) = evC (spec_l1Max.E k) (fun κ s => lhOf k κ s spec_l1Max.pts) b172 (OM.start spec_l1Max.g.pms 0 (a0, a1, ())) (OM.fin spec_l1Max.g Try.f172.results.toList) := by kernel_rfl
theorem spec_l1Max.ok (k : Nat) : SmOk Try.prog (spec_l1Max.sm k) :=
  sm_ok mixed (E := spec_l1Max.E) (pts := spec_l1Max.pts) (fun k => ⟨⟨tysOk, by kernel_rfl⟩, forall_nil⟩) (fun _ => rfl) (fun _ => rfl)
    ⟨Try.func172, by kernel_rfl, by kernel_rfl, by kernel_rfl, by kernel_rfl, by kernel_rfl, by kernel_rfl⟩ (forall_nil) (fun k x => spec_l1Max.hf k x.1 x.2.1) k
noncomputable def b186 : Code := Try.f186.body.getD .skip
theorem e186 : OM.Entry Try.prog 186 := ⟨_, Try.func186, by kernel_rfl, by kernel_rfl⟩
@[reducible] noncomputable def spec_StoreSeal.g : Sig := ⟨[.fz tStore, .fz (.int .i64)], [.v tStore (.two (.own .z) (.two (.own .z) .z)), .v .bool .z], []⟩
@[reducible] noncomputable def spec_StoreSeal.fk : Nat → denI spec_StoreSeal.g.pms → Option (denR (outTys spec_StoreSeal.g.rts spec_StoreSeal.g.pms)) := fun k x => spec_StoreSeal.f k x.1 x.2.1
@[reducible] noncomputable def spec_StoreSeal.sm (k : Nat) : Sm := ⟨186, spec_StoreSeal.g.pms, spec_StoreSeal.g.rts, spec_StoreSeal.fk k⟩
noncomputable def spec_StoreSeal.E (k : Nat) : Env := ⟨tys, [spec_l1In.sm k, spec_StoreOk.sm k, spec_l6Copy.sm k, spec_StoreSync.sm k, spec_l1Max.sm k], [], [], []⟩
noncomputable def spec_StoreSeal.pts : List (Pt (denR (outTys spec_StoreSeal.g.rts spec_StoreSeal.g.pms))) := []
theorem spec_StoreSeal.hf (k : Nat) (a0 : Store) (a1 : Int) : (spec_StoreSeal.f k a0 a1 : Option (denR (outTys spec_StoreSeal.g.rts spec_StoreSeal.g.pms))) = evC (spec_StoreSeal.E k) (fun κ s => lhOf k κ s spec_StoreSeal.pts) b186 (OM.start spec_StoreSeal.g.pms 0 (a0, a1, ())) (OM.fin spec_StoreSeal.g Try.f186.results.toList) := by kernel_rfl
theorem spec_StoreSeal.ok (k : Nat) : SmOk Try.prog (spec_StoreSeal.sm k) :=
  sm_ok mixed (E := spec_StoreSeal.E) (pts := spec_StoreSeal.pts) (fun k => ⟨⟨tysOk, by kernel_rfl⟩, forall_cons ⟨spec_l1In.ok k, e71⟩ (forall_cons ⟨spec_StoreOk.ok k, e183⟩ (forall_cons ⟨spec_l6Copy.ok k, e190⟩ (forall_cons ⟨spec_StoreSync.ok k, e185⟩ (forall_cons ⟨spec_l1Max.ok k, e172⟩ (forall_nil)))))⟩) (fun _ => rfl) (fun _ => rfl)
    ⟨Try.func186, by kernel_rfl, by kernel_rfl, by kernel_rfl, by kernel_rfl, by kernel_rfl, by kernel_rfl⟩ (forall_nil) (fun k x => spec_StoreSeal.hf k x.1 x.2.1) k
noncomputable def b175 : Code := Try.f175.body.getD .skip
theorem e175 : OM.Entry Try.prog 175 := ⟨_, Try.func175, by kernel_rfl, by kernel_rfl⟩
@[reducible] noncomputable def spec_l6DrawRight.g : Sig := ⟨[.ptr tl1Cur .z .z], [.v tStore (.two (.own .z) (.two (.own .z) .z))], []⟩
@[reducible] noncomputable def spec_l6DrawRight.fk : Nat → denI spec_l6DrawRight.g.pms → Option (denR (outTys spec_l6DrawRight.g.rts spec_l6DrawRight.g.pms)) := fun k x => spec_l6DrawRight.f k x.1
@[reducible] noncomputable def spec_l6DrawRight.sm (k : Nat) : Sm := ⟨175, spec_l6DrawRight.g.pms, spec_l6DrawRight.g.rts, spec_l6DrawRight.fk k⟩
noncomputable def spec_l6DrawRight.E (k : Nat) : Env := ⟨tys, [spec_l1Below.sm k, spec_l1Once.sm k, spec_l1Place.sm k, spec_l3DrawRight.sm k, spec_StorePut.sm k, spec_StoreSync.sm k, spec_StoreSeal.sm k], [53], [], []⟩
@[reducible] noncomputable def spec_l6DrawRight.s9 : List Slot := [.r 0 36001 [] tl1Cur, .r 8 9 [] tStore, .r 12 13 [] tStore, .v 16 (.int .i64) .z [] 0, .v 20 (.int .i64) .z [] 0, .v 9 tStore (.two (.own .a) (.two (.own .a) .z)) [] 0, .v 13 tStore (.two (.own .z) (.two (.own .z) .z)) [] 0, .v 36001 tl1Cur .z [] 0]
@[reducible] noncomputable def spec_l6DrawRight.s41 : List Slot := [.r 0 36001 [] tl1Cur, .r 8 9 [] tStore, .r 12 13 [] tStore, .v 32 (.int .i64) .z [] 0, .v 9 tStore (.two (.own .a) (.two (.own .a) .z)) [] 0, .v 13 tStore (.two (.own .z) (.two (.own .z) .z)) [] 0, .v 36001 tl1Cur .z [] 0]
@[reducible] noncomputable def spec_l6DrawRight.s47 : List Slot := [.r 0 36001 [] tl1Cur, .r 8 9 [] tStore, .r 12 13 [] tStore, .v 32 (.int .i64) .z [] 0, .v 36 (.int .i64) .z [] 0, .v 9 tStore (.two (.own .a) (.two (.own .a) .z)) [] 0, .v 13 tStore (.two (.own .z) (.two (.own .z) .z)) [] 0, .v 36001 tl1Cur .z [] 0]
noncomputable def spec_l6DrawRight.pts : List (Pt (denR (outTys spec_l6DrawRight.g.rts spec_l6DrawRight.g.pms))) := [⟨9, spec_l6DrawRight.s9, fun k x => spec_l6DrawRight.p9 k x.1 x.2.1 x.2.2.1 x.2.2.2.1 x.2.2.2.2.1⟩, ⟨41, spec_l6DrawRight.s41, fun k x => spec_l6DrawRight.p41 k x.1 x.2.1 x.2.2.1 x.2.2.2.1⟩, ⟨47, spec_l6DrawRight.s47, fun k x => spec_l6DrawRight.p47 k x.1 x.2.1 x.2.2.1 x.2.2.2.1 x.2.2.2.2.1⟩]
theorem spec_l6DrawRight.h9 (k : Nat) (x0 : Int) (x1 : Int) (x2 : Store) (x3 : Store) (x4 : l1Cur) : (spec_l6DrawRight.p9 (k + 1) x0 x1 x2 x3 x4 : Option (denR (outTys spec_l6DrawRight.g.rts spec_l6DrawRight.g.pms))) = evAt (spec_l6DrawRight.E k) (fun κ s => lhOf k κ s spec_l6DrawRight.pts) 9 b175 (unproj spec_l6DrawRight.s9 (x0, x1, x2, x3, x4, ())) (OM.fin spec_l6DrawRight.g Try.f175.results.toList) := by kernel_rfl
theorem spec_l6DrawRight.h41 (k : Nat) (x0 : Int) (x1 : Store) (x2 : Store) (x3 : l1Cur) : (spec_l6DrawRight.p41 (k + 1) x0 x1 x2 x3 : Option (denR (outTys spec_l6DrawRight.g.rts spec_l6DrawRight.g.pms))) = evAt (spec_l6DrawRight.E k) (fun κ s => lhOf k κ s spec_l6DrawRight.pts) 41 b175 (unproj spec_l6DrawRight.s41 (x0, x1, x2, x3, ())) (OM.fin spec_l6DrawRight.g Try.f175.results.toList) := by kernel_rfl
theorem spec_l6DrawRight.h47 (k : Nat) (x0 : Int) (x1 : Int) (x2 : Store) (x3 : Store) (x4 : l1Cur) : (spec_l6DrawRight.p47 (k + 1) x0 x1 x2 x3 x4 : Option (denR (outTys spec_l6DrawRight.g.rts spec_l6DrawRight.g.pms))) = evAt (spec_l6DrawRight.E k) (fun κ s => lhOf k κ s spec_l6DrawRight.pts) 47 b175 (unproj spec_l6DrawRight.s47 (x0, x1, x2, x3, x4, ())) (OM.fin spec_l6DrawRight.g Try.f175.results.toList) := by kernel_rfl
theorem spec_l6DrawRight.hf (k : Nat) (a0 : l1Cur) : (spec_l6DrawRight.f k a0 : Option (denR (outTys spec_l6DrawRight.g.rts spec_l6DrawRight.g.pms))) = evC (spec_l6DrawRight.E k) (fun κ s => lhOf k κ s spec_l6DrawRight.pts) b175 (OM.start spec_l6DrawRight.g.pms 0 (a0, ())) (OM.fin spec_l6DrawRight.g Try.f175.results.toList) := by kernel_rfl
theorem spec_l6DrawRight.ok (k : Nat) : SmOk Try.prog (spec_l6DrawRight.sm k) :=
  sm_ok mixed (E := spec_l6DrawRight.E) (pts := spec_l6DrawRight.pts) (fun k => ⟨⟨tysOk, by kernel_rfl⟩, forall_cons ⟨spec_l1Below.ok k, e50⟩ (forall_cons ⟨spec_l1Once.ok k, e49⟩ (forall_cons ⟨spec_l1Place.ok k, e53⟩ (forall_cons ⟨spec_l3DrawRight.ok k, e120⟩ (forall_cons ⟨spec_StorePut.ok k, e184⟩ (forall_cons ⟨spec_StoreSync.ok k, e185⟩ (forall_cons ⟨spec_StoreSeal.ok k, e186⟩ (forall_nil)))))))⟩) (fun _ => rfl) (fun _ => rfl)
    ⟨Try.func175, by kernel_rfl, by kernel_rfl, by kernel_rfl, by kernel_rfl, by kernel_rfl, by kernel_rfl⟩ (forall_cons (fun x => ⟨rfl, fun k => spec_l6DrawRight.h9 k x.1 x.2.1 x.2.2.1 x.2.2.2.1 x.2.2.2.2.1⟩) (forall_cons (fun x => ⟨rfl, fun k => spec_l6DrawRight.h41 k x.1 x.2.1 x.2.2.1 x.2.2.2.1⟩) (forall_cons (fun x => ⟨rfl, fun k => spec_l6DrawRight.h47 k x.1 x.2.1 x.2.2.1 x.2.2.2.1 x.2.2.2.2.1⟩) (forall_nil)))) (fun k x => spec_l6DrawRight.hf k x.1) k
noncomputable def b174 : Code := Try.f174.body.getD .skip
theorem e174 : OM.Entry Try.prog 174 := ⟨_, Try.func174, by kernel_rfl, by kernel_rfl⟩
@[reducible] noncomputable def spec_StoreEra.g : Sig := ⟨[.fz tStore, .fz (.int .i64)], [.v (.sl tEntry) (.own .z)], []⟩
@[reducible] noncomputable def spec_StoreEra.fk : Nat → denI spec_StoreEra.g.pms → Option (denR (outTys spec_StoreEra.g.rts spec_StoreEra.g.pms)) := fun k x => spec_StoreEra.f k x.1 x.2.1
@[reducible] noncomputable def spec_StoreEra.sm (k : Nat) : Sm := ⟨174, spec_StoreEra.g.pms, spec_StoreEra.g.rts, spec_StoreEra.fk k⟩
noncomputable def spec_StoreEra.E (k : Nat) : Env := ⟨tys, [spec_EpochOf.sm k, spec_StoreOk.sm k], [33], [], []⟩
@[reducible] noncomputable def spec_StoreEra.s7 : List Slot := [.v 4 (.int .i64) .z [] 0, .r 8 9 [] tStore, .v 20 (.sl tEntry) (.own .z) [] 0, .v 24 (.int .i64) .z [] 0, .v 9 tStore .z [] 0]
noncomputable def spec_StoreEra.pts : List (Pt (denR (outTys spec_StoreEra.g.rts spec_StoreEra.g.pms))) := [⟨7, spec_StoreEra.s7, fun k x => spec_StoreEra.p7 k x.1 x.2.1 x.2.2.1 x.2.2.2.1⟩]
theorem spec_StoreEra.h7 (k : Nat) (x0 : Int) (x1 : (List Entry)) (x2 : Int) (x3 : Store) : (spec_StoreEra.p7 (k + 1) x0 x1 x2 x3 : Option (denR (outTys spec_StoreEra.g.rts spec_StoreEra.g.pms))) = evAt (spec_StoreEra.E k) (fun κ s => lhOf k κ s spec_StoreEra.pts) 7 b174 (unproj spec_StoreEra.s7 (x0, x1, x2, x3, ())) (OM.fin spec_StoreEra.g Try.f174.results.toList) := by kernel_rfl
theorem spec_StoreEra.hf (k : Nat) (a0 : Store) (a1 : Int) : (spec_StoreEra.f k a0 a1 : Option (denR (outTys spec_StoreEra.g.rts spec_StoreEra.g.pms))) = evC (spec_StoreEra.E k) (fun κ s => lhOf k κ s spec_StoreEra.pts) b174 (OM.start spec_StoreEra.g.pms 0 (a0, a1, ())) (OM.fin spec_StoreEra.g Try.f174.results.toList) := by kernel_rfl
theorem spec_StoreEra.ok (k : Nat) : SmOk Try.prog (spec_StoreEra.sm k) :=
  sm_ok mixed (E := spec_StoreEra.E) (pts := spec_StoreEra.pts) (fun k => ⟨⟨tysOk, by kernel_rfl⟩, forall_cons ⟨spec_EpochOf.ok k, e61⟩ (forall_cons ⟨spec_StoreOk.ok k, e183⟩ (forall_nil))⟩) (fun _ => rfl) (fun _ => rfl)
    ⟨Try.func174, by kernel_rfl, by kernel_rfl, by kernel_rfl, by kernel_rfl, by kernel_rfl, by kernel_rfl⟩ (forall_cons (fun x => ⟨rfl, fun k => spec_StoreEra.h7 k x.1 x.2.1 x.2.2.1 x.2.2.2.1⟩) (forall_nil)) (fun k x => spec_StoreEra.hf k x.1 x.2.1) k
noncomputable def b70 : Code := Try.f70.body.getD .skip
theorem e70 : OM.Entry Try.prog 70 := ⟨_, Try.func70, by kernel_rfl, by kernel_rfl⟩
@[reducible] noncomputable def spec_ConfigOk.g : Sig := ⟨[.fz tConfig], [.v .bool .z], []⟩
@[reducible] noncomputable def spec_ConfigOk.fk : Nat → denI spec_ConfigOk.g.pms → Option (denR (outTys spec_ConfigOk.g.rts spec_ConfigOk.g.pms)) := fun k x => spec_ConfigOk.f k x.1
@[reducible] noncomputable def spec_ConfigOk.sm (k : Nat) : Sm := ⟨70, spec_ConfigOk.g.pms, spec_ConfigOk.g.rts, spec_ConfigOk.fk k⟩
noncomputable def spec_ConfigOk.E (k : Nat) : Env := ⟨tys, [spec_l1In.sm k], [], [], []⟩
@[reducible] noncomputable def spec_ConfigOk.s9 : List Slot := [.r 4 5 [] tConfig, .v 12 (.int .i64) .z [] 0, .v 5 tConfig .z [] 0]
noncomputable def spec_ConfigOk.pts : List (Pt (denR (outTys spec_ConfigOk.g.rts spec_ConfigOk.g.pms))) := [⟨9, spec_ConfigOk.s9, fun k x => spec_ConfigOk.p9 k x.1 x.2.1⟩]
theorem spec_ConfigOk.h9 (k : Nat) (x0 : Int) (x1 : Config) : (spec_ConfigOk.p9 (k + 1) x0 x1 : Option (denR (outTys spec_ConfigOk.g.rts spec_ConfigOk.g.pms))) = evAt (spec_ConfigOk.E k) (fun κ s => lhOf k κ s spec_ConfigOk.pts) 9 b70 (unproj spec_ConfigOk.s9 (x0, x1, ())) (OM.fin spec_ConfigOk.g Try.f70.results.toList) := by kernel_rfl
theorem spec_ConfigOk.hf (k : Nat) (a0 : Config) : (spec_ConfigOk.f k a0 : Option (denR (outTys spec_ConfigOk.g.rts spec_ConfigOk.g.pms))) = evC (spec_ConfigOk.E k) (fun κ s => lhOf k κ s spec_ConfigOk.pts) b70 (OM.start spec_ConfigOk.g.pms 0 (a0, ())) (OM.fin spec_ConfigOk.g Try.f70.results.toList) := by kernel_rfl
theorem spec_ConfigOk.ok (k : Nat) : SmOk Try.prog (spec_ConfigOk.sm k) :=
  sm_ok mixed (E := spec_ConfigOk.E) (pts := spec_ConfigOk.pts) (fun k => ⟨⟨tysOk, by kernel_rfl⟩, forall_cons ⟨spec_l1In.ok k, e71⟩ (forall_nil)⟩) (fun _ => rfl) (fun _ => rfl)
    ⟨Try.func70, by kernel_rfl, by kernel_rfl, by kernel_rfl, by kernel_rfl, by kernel_rfl, by kernel_rfl⟩ (forall_cons (fun x => ⟨rfl, fun k => spec_ConfigOk.h9 k x.1 x.2.1⟩) (forall_nil)) (fun k x => spec_ConfigOk.hf k x.1) k
noncomputable def b134 : Code := Try.f134.body.getD .skip
theorem e134 : OM.Entry Try.prog 134 := ⟨_, Try.func134, by kernel_rfl, by kernel_rfl⟩
@[reducible] noncomputable def spec_l4Asc.g : Sig := ⟨[.fz (.sl (.int .i64)), .fz (.int .i64), .fz (.int .i64)], [.v .bool .z], []⟩
@[reducible] noncomputable def spec_l4Asc.fk : Nat → denI spec_l4Asc.g.pms → Option (denR (outTys spec_l4Asc.g.rts spec_l4Asc.g.pms)) := fun k x => spec_l4Asc.f k x.1 x.2.1 x.2.2.1
@[reducible] noncomputable def spec_l4Asc.sm (k : Nat) : Sm := ⟨134, spec_l4Asc.g.pms, spec_l4Asc.g.rts, spec_l4Asc.fk k⟩
noncomputable def spec_l4Asc.E (k : Nat) : Env := ⟨tys, [spec_l1In.sm k], [], [], []⟩
@[reducible] noncomputable def spec_l4Asc.s5 : List Slot := [.v 0 (.sl (.int .i64)) .z [] 0, .v 4 (.int .i64) .z [] 0, .v 8 (.int .i64) .z [] 0, .v 28 (.int .i64) .z [] 0]
noncomputable def spec_l4Asc.pts : List (Pt (denR (outTys spec_l4Asc.g.rts spec_l4Asc.g.pms))) := [⟨5, spec_l4Asc.s5, fun k x => spec_l4Asc.p5 k x.1 x.2.1 x.2.2.1 x.2.2.2.1⟩]
theorem spec_l4Asc.h5 (k : Nat) (x0 : (List Int)) (x1 : Int) (x2 : Int) (x3 : Int) : (spec_l4Asc.p5 (k + 1) x0 x1 x2 x3 : Option (denR (outTys spec_l4Asc.g.rts spec_l4Asc.g.pms))) = evAt (spec_l4Asc.E k) (fun κ s => lhOf k κ s spec_l4Asc.pts) 5 b134 (unproj spec_l4Asc.s5 (x0, x1, x2, x3, ())) (OM.fin spec_l4Asc.g Try.f134.results.toList) := by kernel_rfl
theorem spec_l4Asc.hf (k : Nat) (a0 : (List Int)) (a1 : Int) (a2 : Int) : (spec_l4Asc.f k a0 a1 a2 : Option (denR (outTys spec_l4Asc.g.rts spec_l4Asc.g.pms))) = evC (spec_l4Asc.E k) (fun κ s => lhOf k κ s spec_l4Asc.pts) b134 (OM.start spec_l4Asc.g.pms 0 (a0, a1, a2, ())) (OM.fin spec_l4Asc.g Try.f134.results.toList) := by kernel_rfl
theorem spec_l4Asc.ok (k : Nat) : SmOk Try.prog (spec_l4Asc.sm k) :=
  sm_ok mixed (E := spec_l4Asc.E) (pts := spec_l4Asc.pts) (fun k => ⟨⟨tysOk, by kernel_rfl⟩, forall_cons ⟨spec_l1In.ok k, e71⟩ (forall_nil)⟩) (fun _ => rfl) (fun _ => rfl)
    ⟨Try.func134, by kernel_rfl, by kernel_rfl, by kernel_rfl, by kernel_rfl, by kernel_rfl, by kernel_rfl⟩ (forall_cons (fun x => ⟨rfl, fun k => spec_l4Asc.h5 k x.1 x.2.1 x.2.2.1 x.2.2.2.1⟩) (forall_nil)) (fun k x => spec_l4Asc.hf k x.1 x.2.1 x.2.2.1) k
noncomputable def b72 : Code := Try.f72.body.getD .skip
theorem e72 : OM.Entry Try.prog 72 := ⟨_, Try.func72, by kernel_rfl, by kernel_rfl⟩
@[reducible] noncomputable def spec_NodesOk.g : Sig := ⟨[.fz tConfig, .fz (.sl (.int .i64))], [.v .bool .z], []⟩
@[reducible] noncomputable def spec_NodesOk.fk : Nat → denI spec_NodesOk.g.pms → Option (denR (outTys spec_NodesOk.g.rts spec_NodesOk.g.pms)) := fun k x => spec_NodesOk.f k x.1 x.2.1
@[reducible] noncomputable def spec_NodesOk.sm (k : Nat) : Sm := ⟨72, spec_NodesOk.g.pms, spec_NodesOk.g.rts, spec_NodesOk.fk k⟩
noncomputable def spec_NodesOk.E (k : Nat) : Env := ⟨tys, [spec_ConfigOk.sm k, spec_l4Asc.sm k], [], [], []⟩
noncomputable def spec_NodesOk.pts : List (Pt (denR (outTys spec_NodesOk.g.rts spec_NodesOk.g.pms))) := []
theorem spec_NodesOk.hf (k : Nat) (a0 : Config) (a1 : (List Int)) : (spec_NodesOk.f k a0 a1 : Option (denR (outTys spec_NodesOk.g.rts spec_NodesOk.g.pms))) = evC (spec_NodesOk.E k) (fun κ s => lhOf k κ s spec_NodesOk.pts) b72 (OM.start spec_NodesOk.g.pms 0 (a0, a1, ())) (OM.fin spec_NodesOk.g Try.f72.results.toList) := by kernel_rfl
theorem spec_NodesOk.ok (k : Nat) : SmOk Try.prog (spec_NodesOk.sm k) :=
  sm_ok mixed (E := spec_NodesOk.E) (pts := spec_NodesOk.pts) (fun k => ⟨⟨tysOk, by kernel_rfl⟩, forall_cons ⟨spec_ConfigOk.ok k, e70⟩ (forall_cons ⟨spec_l4Asc.ok k, e134⟩ (forall_nil))⟩) (fun _ => rfl) (fun _ => rfl)
    ⟨Try.func72, by kernel_rfl, by kernel_rfl, by kernel_rfl, by kernel_rfl, by kernel_rfl, by kernel_rfl⟩ (forall_nil) (fun k x => spec_NodesOk.hf k x.1 x.2.1) k
noncomputable def b54 : Code := Try.f54.body.getD .skip
theorem e54 : OM.Entry Try.prog 54 := ⟨_, Try.func54, by kernel_rfl, by kernel_rfl⟩
@[reducible] noncomputable def spec_OffOf.g : Sig := ⟨[.fz (.int .i64)], [.v (.int .i64) .z], []⟩
@[reducible] noncomputable def spec_OffOf.fk : Nat → denI spec_OffOf.g.pms → Option (denR (outTys spec_OffOf.g.rts spec_OffOf.g.pms)) := fun k x => spec_OffOf.f x.1
@[reducible] noncomputable def spec_OffOf.sm (k : Nat) : Sm := ⟨54, spec_OffOf.g.pms, spec_OffOf.g.rts, spec_OffOf.fk k⟩
noncomputable def spec_OffOf.E (k : Nat) : Env := ⟨tys, [spec_PlaceOk.sm k], [], [], []⟩
noncomputable def spec_OffOf.pts : List (Pt (denR (outTys spec_OffOf.g.rts spec_OffOf.g.pms))) := []
theorem spec_OffOf.hf (k : Nat) (a0 : Int) : (spec_OffOf.f a0 : Option (denR (outTys spec_OffOf.g.rts spec_OffOf.g.pms))) = evC (spec_OffOf.E k) (fun κ s => lhOf k κ s spec_OffOf.pts) b54 (OM.start spec_OffOf.g.pms 0 (a0, ())) (OM.fin spec_OffOf.g Try.f54.results.toList) := by kernel_rfl
theorem spec_OffOf.ok (k : Nat) : SmOk Try.prog (spec_OffOf.sm k) :=
  sm_ok mixed (E := spec_OffOf.E) (pts := spec_OffOf.pts) (fun k => ⟨⟨tysOk, by kernel_rfl⟩, forall_cons ⟨spec_PlaceOk.ok k, e52⟩ (forall_nil)⟩) (fun _ => rfl) (fun _ => rfl)
    ⟨Try.func54, by kernel_rfl, by kernel_rfl, by kernel_rfl, by kernel_rfl, by kernel_rfl, by kernel_rfl⟩ (forall_nil) (fun k x => spec_OffOf.hf k x.1) k
noncomputable def b75 : Code := Try.f75.body.getD .skip
theorem e75 : OM.Entry Try.prog 75 := ⟨_, Try.func75, by kernel_rfl, by kernel_rfl⟩
@[reducible] noncomputable def spec_l9Last.g : Sig := ⟨[.fz tMend], [.v (.int .i64) .z], []⟩
@[reducible] noncomputable def spec_l9Last.fk : Nat → denI spec_l9Last.g.pms → Option (denR (outTys spec_l9Last.g.rts spec_l9Last.g.pms)) := fun k x => spec_l9Last.f x.1
@[reducible] noncomputable def spec_l9Last.sm (k : Nat) : Sm := ⟨75, spec_l9Last.g.pms, spec_l9Last.g.rts, spec_l9Last.fk k⟩
noncomputable def spec_l9Last.E (k : Nat) : Env := ⟨tys, [spec_OffOf.sm k], [], [], []⟩
noncomputable def spec_l9Last.pts : List (Pt (denR (outTys spec_l9Last.g.rts spec_l9Last.g.pms))) := []
theorem spec_l9Last.hf (k : Nat) (a0 : Mend) : (spec_l9Last.f a0 : Option (denR (outTys spec_l9Last.g.rts spec_l9Last.g.pms))) = evC (spec_l9Last.E k) (fun κ s => lhOf k κ s spec_l9Last.pts) b75 (OM.start spec_l9Last.g.pms 0 (a0, ())) (OM.fin spec_l9Last.g Try.f75.results.toList) := by kernel_rfl
theorem spec_l9Last.ok (k : Nat) : SmOk Try.prog (spec_l9Last.sm k) :=
  sm_ok mixed (E := spec_l9Last.E) (pts := spec_l9Last.pts) (fun k => ⟨⟨tysOk, by kernel_rfl⟩, forall_cons ⟨spec_OffOf.ok k, e54⟩ (forall_nil)⟩) (fun _ => rfl) (fun _ => rfl)
    ⟨Try.func75, by kernel_rfl, by kernel_rfl, by kernel_rfl, by kernel_rfl, by kernel_rfl, by kernel_rfl⟩ (forall_nil) (fun k x => spec_l9Last.hf k x.1) k
noncomputable def b16 : Code := Try.f16.body.getD .skip
theorem e16 : OM.Entry Try.prog 16 := ⟨_, Try.func16, by kernel_rfl, by kernel_rfl⟩
@[reducible] noncomputable def spec_MendOk.g : Sig := ⟨[.fz tConfig, .fz tMend], [.v .bool .z], []⟩
@[reducible] noncomputable def spec_MendOk.fk : Nat → denI spec_MendOk.g.pms → Option (denR (outTys spec_MendOk.g.rts spec_MendOk.g.pms)) := fun k x => spec_MendOk.f k x.1 x.2.1
@[reducible] noncomputable def spec_MendOk.sm (k : Nat) : Sm := ⟨16, spec_MendOk.g.pms, spec_MendOk.g.rts, spec_MendOk.fk k⟩
noncomputable def spec_MendOk.E (k : Nat) : Env := ⟨tys, [spec_l1In.sm k, spec_EpochOf.sm k, spec_EntryOk.sm k, spec_l6Asc.sm k, spec_ConfigOk.sm k, spec_NodesOk.sm k, spec_l9Last.sm k], [], [], []⟩
@[reducible] noncomputable def spec_MendOk.s9 : List Slot := [.r 8 9 [] tConfig, .r 12 13 [] tMend, .v 20 (.int .i64) .z [] 0, .v 9 tConfig .z [] 0, .v 13 tMend .z [] 0]
@[reducible] noncomputable def spec_MendOk.s19 : List Slot := [.r 8 9 [] tConfig, .r 12 13 [] tMend, .v 24 (.int .i64) .z [] 0, .v 9 tConfig .z [] 0, .v 13 tMend .z [] 0]
noncomputable def spec_MendOk.pts : List (Pt (denR (outTys spec_MendOk.g.rts spec_MendOk.g.pms))) := [⟨9, spec_MendOk.s9, fun k x => spec_MendOk.p9 k x.1 x.2.1 x.2.2.1⟩, ⟨19, spec_MendOk.s19, fun k x => spec_MendOk.p19 k x.1 x.2.1 x.2.2.1⟩]
theorem spec_MendOk.h9 (k : Nat) (x0 : Int) (x1 : Config) (x2 : Mend) : (spec_MendOk.p9 (k + 1) x0 x1 x2 : Option (denR (outTys spec_MendOk.g.rts spec_MendOk.g.pms))) = evAt (spec_MendOk.E k) (fun κ s => lhOf k κ s spec_MendOk.pts) 9 b16 (unproj spec_MendOk.s9 (x0, x1, x2, ())) (OM.fin spec_MendOk.g Try.f16.results.toList) := by kernel_rfl
theorem spec_MendOk.h19 (k : Nat) (x0 : Int) (x1 : Config) (x2 : Mend) : (spec_MendOk.p19 (k + 1) x0 x1 x2 : Option (denR (outTys spec_MendOk.g.rts spec_MendOk.g.pms))) = evAt (spec_MendOk.E k) (fun κ s => lhOf k κ s spec_MendOk.pts) 19 b16 (unproj spec_MendOk.s19 (x0, x1, x2, ())) (OM.fin spec_MendOk.g Try.f16.results.toList) := by kernel_rfl
theorem spec_MendOk.hf (k : Nat) (a0 : Config) (a1 : Mend) : (spec_MendOk.f k a0 a1 : Option (denR (outTys spec_MendOk.g.rts spec_MendOk.g.pms))) = evC (spec_MendOk.E k) (fun κ s => lhOf k κ s spec_MendOk.pts) b16 (OM.start spec_MendOk.g.pms 0 (a0, a1, ())) (OM.fin spec_MendOk.g Try.f16.results.toList) := by kernel_rfl
theorem spec_MendOk.ok (k : Nat) : SmOk Try.prog (spec_MendOk.sm k) :=
  sm_ok mixed (E := spec_MendOk.E) (pts := spec_MendOk.pts) (fun k => ⟨⟨tysOk, by kernel_rfl⟩, forall_cons ⟨spec_l1In.ok k, e71⟩ (forall_cons ⟨spec_EpochOf.ok k, e61⟩ (forall_cons ⟨spec_EntryOk.ok k, e74⟩ (forall_cons ⟨spec_l6Asc.ok k, e73⟩ (forall_cons ⟨spec_ConfigOk.ok k, e70⟩ (forall_cons ⟨spec_NodesOk.ok k, e72⟩ (forall_cons ⟨spec_l9Last.ok k, e75⟩ (forall_nil)))))))⟩) (fun _ => rfl) (fun _ => rfl)
    ⟨Try.func16, by kernel_rfl, by kernel_rfl, by kernel_rfl, by kernel_rfl, by kernel_rfl, by kernel_rfl⟩ (forall_cons (fun x => ⟨rfl, fun k => spec_MendOk.h9 k x.1 x.2.1 x.2.2.1⟩) (forall_cons (fun x => ⟨rfl, fun k => spec_MendOk.h19 k x.1 x.2.1 x.2.2.1⟩) (forall_nil))) (fun k x => spec_MendOk.hf k x.1 x.2.1) k
noncomputable def b59 : Code := Try.f59.body.getD .skip
theorem e59 : OM.Entry Try.prog 59 := ⟨_, Try.func59, by kernel_rfl, by kernel_rfl⟩
@[reducible] noncomputable def spec_l9Copy.g : Sig := ⟨[.fz tMend], [.v tMend (.two .z (.two .z (.two (.own .z) (.two (.own .z) (.two .z (.two (.own (.own .z)) .z))))))], []⟩
@[reducible] noncomputable def spec_l9Copy.fk : Nat → denI spec_l9Copy.g.pms → Option (denR (outTys spec_l9Copy.g.rts spec_l9Copy.g.pms)) := fun k x => spec_l9Copy.f k x.1
@[reducible] noncomputable def spec_l9Copy.sm (k : Nat) : Sm := ⟨59, spec_l9Copy.g.pms, spec_l9Copy.g.rts, spec_l9Copy.fk k⟩
noncomputable def spec_l9Copy.E (k : Nat) : Env := ⟨tys, [], [34], [], []⟩
@[reducible] noncomputable def spec_l9Copy.s7 : List Slot := [.r 4 5 [] tMend, .r 8 9 [] tMend, .r 12 13 [] tMend, .v 16 (.int .i64) .z [] 0, .v 5 tMend .z [] 0, .v 9 tMend (.two .z (.two .z (.two (.own .a) (.two (.own .a) (.two .z (.two (.own .a) .z)))))) [] 0, .v 13 tMend (.two .z (.two .z (.two (.own .z) (.two (.own .z) (.two .z (.two (.own (.own .z)) .z)))))) [] 0]
noncomputable def spec_l9Copy.pts : List (Pt (denR (outTys spec_l9Copy.g.rts spec_l9Copy.g.pms))) := [⟨7, spec_l9Copy.s7, fun k x => spec_l9Copy.p7 k x.1 x.2.1 x.2.2.1 x.2.2.2.1⟩]
theorem spec_l9Copy.h7 (k : Nat) (x0 : Int) (x1 : Mend) (x2 : Mend) (x3 : Mend) : (spec_l9Copy.p7 (k + 1) x0 x1 x2 x3 : Option (denR (outTys spec_l9Copy.g.rts spec_l9Copy.g.pms))) = evAt (spec_l9Copy.E k) (fun κ s => lhOf k κ s spec_l9Copy.pts) 7 b59 (unproj spec_l9Copy.s7 (x0, x1, x2, x3, ())) (OM.fin spec_l9Copy.g Try.f59.results.toList) := by kernel_rfl
theorem spec_l9Copy.hf (k : Nat) (a0 : Mend) : (spec_l9Copy.f k a0 : Option (denR (outTys spec_l9Copy.g.rts spec_l9Copy.g.pms))) = evC (spec_l9Copy.E k) (fun κ s => lhOf k κ s spec_l9Copy.pts) b59 (OM.start spec_l9Copy.g.pms 0 (a0, ())) (OM.fin spec_l9Copy.g Try.f59.results.toList) := by kernel_rfl
theorem spec_l9Copy.ok (k : Nat) : SmOk Try.prog (spec_l9Copy.sm k) :=
  sm_ok mixed (E := spec_l9Copy.E) (pts := spec_l9Copy.pts) (fun k => ⟨⟨tysOk, by kernel_rfl⟩, forall_nil⟩) (fun _ => rfl) (fun _ => rfl)
    ⟨Try.func59, by kernel_rfl, by kernel_rfl, by kernel_rfl, by kernel_rfl, by kernel_rfl, by kernel_rfl⟩ (forall_cons (fun x => ⟨rfl, fun k => spec_l9Copy.h7 k x.1 x.2.1 x.2.2.1 x.2.2.2.1⟩) (forall_nil)) (fun k x => spec_l9Copy.hf k x.1) k
noncomputable def b129 : Code := Try.f129.body.getD .skip
theorem e129 : OM.Entry Try.prog 129 := ⟨_, Try.func129, by kernel_rfl, by kernel_rfl⟩
@[reducible] noncomputable def spec_l4Has.g : Sig := ⟨[.fz (.sl (.int .i64)), .fz (.int .i64)], [.v .bool .z], []⟩
@[reducible] noncomputable def spec_l4Has.fk : Nat → denI spec_l4Has.g.pms → Option (denR (outTys spec_l4Has.g.rts spec_l4Has.g.pms)) := fun k x => spec_l4Has.f k x.1 x.2.1
@[reducible] noncomputable def spec_l4Has.sm (k : Nat) : Sm := ⟨129, spec_l4Has.g.pms, spec_l4Has.g.rts, spec_l4Has.fk k⟩
noncomputable def spec_l4Has.E (k : Nat) : Env := ⟨tys, [], [], [], []⟩
@[reducible] noncomputable def spec_l4Has.s5 : List Slot := [.v 0 (.sl (.int .i64)) .z [] 0, .v 4 (.int .i64) .z [] 0, .v 20 (.int .i64) .z [] 0]
noncomputable def spec_l4Has.pts : List (Pt (denR (outTys spec_l4Has.g.rts spec_l4Has.g.pms))) := [⟨5, spec_l4Has.s5, fun k x => spec_l4Has.p5 k x.1 x.2.1 x.2.2.1⟩]
theorem spec_l4Has.h5 (k : Nat) (x0 : (List Int)) (x1 : Int) (x2 : Int) : (spec_l4Has.p5 (k + 1) x0 x1 x2 : Option (denR (outTys spec_l4Has.g.rts spec_l4Has.g.pms))) = evAt (spec_l4Has.E k) (fun κ s => lhOf k κ s spec_l4Has.pts) 5 b129 (unproj spec_l4Has.s5 (x0, x1, x2, ())) (OM.fin spec_l4Has.g Try.f129.results.toList) := by kernel_rfl
theorem spec_l4Has.hf (k : Nat) (a0 : (List Int)) (a1 : Int) : (spec_l4Has.f k a0 a1 : Option (denR (outTys spec_l4Has.g.rts spec_l4Has.g.pms))) = evC (spec_l4Has.E k) (fun κ s => lhOf k κ s spec_l4Has.pts) b129 (OM.start spec_l4Has.g.pms 0 (a0, a1, ())) (OM.fin spec_l4Has.g Try.f129.results.toList) := by kernel_rfl
theorem spec_l4Has.ok (k : Nat) : SmOk Try.prog (spec_l4Has.sm k) :=
  sm_ok mixed (E := spec_l4Has.E) (pts := spec_l4Has.pts) (fun k => ⟨⟨tysOk, by kernel_rfl⟩, forall_nil⟩) (fun _ => rfl) (fun _ => rfl)
    ⟨Try.func129, by kernel_rfl, by kernel_rfl, by kernel_rfl, by kernel_rfl, by kernel_rfl, by kernel_rfl⟩ (forall_cons (fun x => ⟨rfl, fun k => spec_l4Has.h5 k x.1 x.2.1 x.2.2.1⟩) (forall_nil)) (fun k x => spec_l4Has.hf k x.1 x.2.1) k
noncomputable def b60 : Code := Try.f60.body.getD .skip
theorem e60 : OM.Entry Try.prog 60 := ⟨_, Try.func60, by kernel_rfl, by kernel_rfl⟩
@[reducible] noncomputable def spec_l4Put.g : Sig := ⟨[.fz (.sl (.int .i64)), .fz (.int .i64)], [.v (.sl (.int .i64)) (.own .z)], []⟩
@[reducible] noncomputable def spec_l4Put.fk : Nat → denI spec_l4Put.g.pms → Option (denR (outTys spec_l4Put.g.rts spec_l4Put.g.pms)) := fun k x => spec_l4Put.f k x.1 x.2.1
@[reducible] noncomputable def spec_l4Put.sm (k : Nat) : Sm := ⟨60, spec_l4Put.g.pms, spec_l4Put.g.rts, spec_l4Put.fk k⟩
noncomputable def spec_l4Put.E (k : Nat) : Env := ⟨tys, [spec_l4Has.sm k], [36, 42], [], []⟩
@[reducible] noncomputable def spec_l4Put.s9 : List Slot := [.v 0 (.sl (.int .i64)) .z [] 0, .v 4 (.int .i64) .z [] 0, .v 20 (.sl (.int .i64)) (.own .z) [] 0, .v 24 .bool .z [] 0, .v 28 (.int .i64) .z [] 0]
noncomputable def spec_l4Put.pts : List (Pt (denR (outTys spec_l4Put.g.rts spec_l4Put.g.pms))) := [⟨9, spec_l4Put.s9, fun k x => spec_l4Put.p9 k x.1 x.2.1 x.2.2.1 x.2.2.2.1 x.2.2.2.2.1⟩]
theorem spec_l4Put.h9 (k : Nat) (x0 : (List Int)) (x1 : Int) (x2 : (List Int)) (x3 : Bool) (x4 : Int) : (spec_l4Put.p9 (k + 1) x0 x1 x2 x3 x4 : Option (denR (outTys spec_l4Put.g.rts spec_l4Put.g.pms))) = evAt (spec_l4Put.E k) (fun κ s => lhOf k κ s spec_l4Put.pts) 9 b60 (unproj spec_l4Put.s9 (x0, x1, x2, x3, x4, ())) (OM.fin spec_l4Put.g Try.f60.results.toList) := by kernel_rfl
theorem spec_l4Put.hf (k : Nat) (a0 : (List Int)) (a1 : Int) : (spec_l4Put.f k a0 a1 : Option (denR (outTys spec_l4Put.g.rts spec_l4Put.g.pms))) = evC (spec_l4Put.E k) (fun κ s => lhOf k κ s spec_l4Put.pts) b60 (OM.start spec_l4Put.g.pms 0 (a0, a1, ())) (OM.fin spec_l4Put.g Try.f60.results.toList) := by kernel_rfl
theorem spec_l4Put.ok (k : Nat) : SmOk Try.prog (spec_l4Put.sm k) :=
  sm_ok mixed (E := spec_l4Put.E) (pts := spec_l4Put.pts) (fun k => ⟨⟨tysOk, by kernel_rfl⟩, forall_cons ⟨spec_l4Has.ok k, e129⟩ (forall_nil)⟩) (fun _ => rfl) (fun _ => rfl)
    ⟨Try.func60, by kernel_rfl, by kernel_rfl, by kernel_rfl, by kernel_rfl, by kernel_rfl, by kernel_rfl⟩ (forall_cons (fun x => ⟨rfl, fun k => spec_l4Put.h9 k x.1 x.2.1 x.2.2.1 x.2.2.2.1 x.2.2.2.2.1⟩) (forall_nil)) (fun k x => spec_l4Put.hf k x.1 x.2.1) k
noncomputable def b11 : Code := Try.f11.body.getD .skip
theorem e11 : OM.Entry Try.prog 11 := ⟨_, Try.func11, by kernel_rfl, by kernel_rfl⟩
@[reducible] noncomputable def spec_MendSeal.g : Sig := ⟨[.fz tConfig, .fz tMend, .fz (.int .i64), .fz (.sl tEntry)], [.v tMend (.two .z (.two .z (.two (.own .z) (.two (.own .z) (.two .z (.two (.own (.own .z)) .z)))))), .v .bool .z], []⟩
@[reducible] noncomputable def spec_MendSeal.fk : Nat → denI spec_MendSeal.g.pms → Option (denR (outTys spec_MendSeal.g.rts spec_MendSeal.g.pms)) := fun k x => spec_MendSeal.f k x.1 x.2.1 x.2.2.1 x.2.2.2.1
@[reducible] noncomputable def spec_MendSeal.sm (k : Nat) : Sm := ⟨11, spec_MendSeal.g.pms, spec_MendSeal.g.rts, spec_MendSeal.fk k⟩
noncomputable def spec_MendSeal.E (k : Nat) : Env := ⟨tys, [spec_EpochOf.sm k, spec_l6Keep.sm k, spec_MendOk.sm k, spec_l9Copy.sm k, spec_l4Put.sm k], [], [], []⟩
@[reducible] noncomputable def spec_MendSeal.s13 : List Slot := [.v 12 (.sl tEntry) .z [] 0, .r 16 17 [] tConfig, .r 20 21 [] tMend, .r 32 33 [] tMend, .r 40 41 [] tMend, .v 44 (.int .i64) .z [] 0, .v 17 tConfig .z [] 0, .v 21 tMend .z [] 0, .v 33 tMend (.two .z (.two .z (.two (.own .a) (.two (.own .a) (.two .z (.two (.own .a) .z)))))) [] 0, .v 41 tMend (.two .z (.two .z (.two (.own .z) (.two (.own .z) (.two .z (.two (.own (.own .z)) .z)))))) [] 0]
noncomputable def spec_MendSeal.pts : List (Pt (denR (outTys spec_MendSeal.g.rts spec_MendSeal.g.pms))) := [⟨13, spec_MendSeal.s13, fun k x => spec_MendSeal.p13 k x.1 x.2.1 x.2.2.1 x.2.2.2.1 x.2.2.2.2.1 x.2.2.2.2.2.1⟩]
theorem spec_MendSeal.h13 (k : Nat) (x0 : (List Entry)) (x1 : Int) (x2 : Config) (x3 : Mend) (x4 : Mend) (x5 : Mend) : (spec_MendSeal.p13 (k + 1) x0 x1 x2 x3 x4 x5 : Option (denR (outTys spec_MendSeal.g.rts spec_MendSeal.g.pms))) = evAt (spec_MendSeal.E k) (fun κ s => lhOf k κ s spec_MendSeal.pts) 13 b11 (unproj spec_MendSeal.s13 (x0, x1, x2, x3, x4, x5, ())) (OM.fin spec_MendSeal.g Try.f11.results.toList) := by kernel_rfl
theorem spec_MendSeal.hf (k : Nat) (a0 : Config) (a1 : Mend) (a2 : Int) (a3 : (List Entry)) : (spec_MendSeal.f k a0 a1 a2 a3 : Option (denR (outTys spec_MendSeal.g.rts spec_MendSeal.g.pms))) = evC (spec_MendSeal.E k) (fun κ s => lhOf k κ s spec_MendSeal.pts) b11 (OM.start spec_MendSeal.g.pms 0 (a0, a1, a2, a3, ())) (OM.fin spec_MendSeal.g Try.f11.results.toList) := by kernel_rfl
theorem spec_MendSeal.ok (k : Nat) : SmOk Try.prog (spec_MendSeal.sm k) :=
  sm_ok mixed (E := spec_MendSeal.E) (pts := spec_MendSeal.pts) (fun k => ⟨⟨tysOk, by kernel_rfl⟩, forall_cons ⟨spec_EpochOf.ok k, e61⟩ (forall_cons ⟨spec_l6Keep.ok k, e62⟩ (forall_cons ⟨spec_MendOk.ok k, e16⟩ (forall_cons ⟨spec_l9Copy.ok k, e59⟩ (forall_cons ⟨spec_l4Put.ok k, e60⟩ (forall_nil)))))⟩) (fun _ => rfl) (fun _ => rfl)
    ⟨Try.func11, by kernel_rfl, by kernel_rfl, by kernel_rfl, by kernel_rfl, by kernel_rfl, by kernel_rfl⟩ (forall_cons (fun x => ⟨rfl, fun k => spec_MendSeal.h13 k x.1 x.2.1 x.2.2.1 x.2.2.2.1 x.2.2.2.2.1 x.2.2.2.2.2.1⟩) (forall_nil)) (fun k x => spec_MendSeal.hf k x.1 x.2.1 x.2.2.1 x.2.2.2.1) k
noncomputable def b147 : Code := Try.f147.body.getD .skip
theorem e147 : OM.Entry Try.prog 147 := ⟨_, Try.func147, by kernel_rfl, by kernel_rfl⟩
@[reducible] noncomputable def spec_l4Span.g : Sig := ⟨[.fz tConfig, .fz (.sl (.int .i64))], [.v (.int .i64) .z], []⟩
@[reducible] noncomputable def spec_l4Span.fk : Nat → denI spec_l4Span.g.pms → Option (denR (outTys spec_l4Span.g.rts spec_l4Span.g.pms)) := fun k x => spec_l4Span.f k x.1 x.2.1
@[reducible] noncomputable def spec_l4Span.sm (k : Nat) : Sm := ⟨147, spec_l4Span.g.pms, spec_l4Span.g.rts, spec_l4Span.fk k⟩
noncomputable def spec_l4Span.E (k : Nat) : Env := ⟨tys, [], [23], [], []⟩
@[reducible] noncomputable def spec_l4Span.s9 : List Slot := [.v 4 (.sl (.int .i64)) .z [] 0, .r 8 9 [] tConfig, .v 20 (.sl .bool) (.own .z) [] 0, .v 24 (.int .i64) .z [] 0, .v 28 (.int .i64) .z [] 0, .v 9 tConfig .z [] 0]
noncomputable def spec_l4Span.pts : List (Pt (denR (outTys spec_l4Span.g.rts spec_l4Span.g.pms))) := [⟨9, spec_l4Span.s9, fun k x => spec_l4Span.p9 k x.1 x.2.1 x.2.2.1 x.2.2.2.1 x.2.2.2.2.1⟩]
theorem spec_l4Span.h9 (k : Nat) (x0 : (List Int)) (x1 : (List Bool)) (x2 : Int) (x3 : Int) (x4 : Config) : (spec_l4Span.p9 (k + 1) x0 x1 x2 x3 x4 : Option (denR (outTys spec_l4Span.g.rts spec_l4Span.g.pms))) = evAt (spec_l4Span.E k) (fun κ s => lhOf k κ s spec_l4Span.pts) 9 b147 (unproj spec_l4Span.s9 (x0, x1, x2, x3, x4, ())) (OM.fin spec_l4Span.g Try.f147.results.toList) := by kernel_rfl
theorem spec_l4Span.hf (k : Nat) (a0 : Config) (a1 : (List Int)) : (spec_l4Span.f k a0 a1 : Option (denR (outTys spec_l4Span.g.rts spec_l4Span.g.pms))) = evC (spec_l4Span.E k) (fun κ s => lhOf k κ s spec_l4Span.pts) b147 (OM.start spec_l4Span.g.pms 0 (a0, a1, ())) (OM.fin spec_l4Span.g Try.f147.results.toList) := by kernel_rfl
theorem spec_l4Span.ok (k : Nat) : SmOk Try.prog (spec_l4Span.sm k) :=
  sm_ok mixed (E := spec_l4Span.E) (pts := spec_l4Span.pts) (fun k => ⟨⟨tysOk, by kernel_rfl⟩, forall_nil⟩) (fun _ => rfl) (fun _ => rfl)
    ⟨Try.func147, by kernel_rfl, by kernel_rfl, by kernel_rfl, by kernel_rfl, by kernel_rfl, by kernel_rfl⟩ (forall_cons (fun x => ⟨rfl, fun k => spec_l4Span.h9 k x.1 x.2.1 x.2.2.1 x.2.2.2.1 x.2.2.2.2.1⟩) (forall_nil)) (fun k x => spec_l4Span.hf k x.1 x.2.1) k
noncomputable def b145 : Code := Try.f145.body.getD .skip
theorem e145 : OM.Entry Try.prog 145 := ⟨_, Try.func145, by kernel_rfl, by kernel_rfl⟩
@[reducible] noncomputable def spec_Holds.g : Sig := ⟨[.fz tConfig, .fz (.sl (.int .i64))], [.v .bool .z], []⟩
@[reducible] noncomputable def spec_Holds.fk : Nat → denI spec_Holds.g.pms → Option (denR (outTys spec_Holds.g.rts spec_Holds.g.pms)) := fun k x => spec_Holds.f k x.1 x.2.1
@[reducible] noncomputable def spec_Holds.sm (k : Nat) : Sm := ⟨145, spec_Holds.g.pms, spec_Holds.g.rts, spec_Holds.fk k⟩
noncomputable def spec_Holds.E (k : Nat) : Env := ⟨tys, [spec_NodesOk.sm k, spec_l4Span.sm k], [], [], []⟩
noncomputable def spec_Holds.pts : List (Pt (denR (outTys spec_Holds.g.rts spec_Holds.g.pms))) := []
theorem spec_Holds.hf (k : Nat) (a0 : Config) (a1 : (List Int)) : (spec_Holds.f k a0 a1 : Option (denR (outTys spec_Holds.g.rts spec_Holds.g.pms))) = evC (spec_Holds.E k) (fun κ s => lhOf k κ s spec_Holds.pts) b145 (OM.start spec_Holds.g.pms 0 (a0, a1, ())) (OM.fin spec_Holds.g Try.f145.results.toList) := by kernel_rfl
theorem spec_Holds.ok (k : Nat) : SmOk Try.prog (spec_Holds.sm k) :=
  sm_ok mixed (E := spec_Holds.E) (pts := spec_Holds.pts) (fun k => ⟨⟨tysOk, by kernel_rfl⟩, forall_cons ⟨spec_NodesOk.ok k, e72⟩ (forall_cons ⟨spec_l4Span.ok k, e147⟩ (forall_nil))⟩) (fun _ => rfl) (fun _ => rfl)
    ⟨Try.func145, by kernel_rfl, by kernel_rfl, by kernel_rfl, by kernel_rfl, by kernel_rfl, by kernel_rfl⟩ (forall_nil) (fun k x => spec_Holds.hf k x.1 x.2.1) k
noncomputable def b177 : Code := Try.f177.body.getD .skip
theorem e177 : OM.Entry Try.prog 177 := ⟨_, Try.func177, by kernel_rfl, by kernel_rfl⟩
@[reducible] noncomputable def spec_l9Cover.g : Sig := ⟨[.fz tConfig, .fz tMend], [.v (.sl (.int .i64)) (.own .z)], []⟩
@[reducible] noncomputable def spec_l9Cover.fk : Nat → denI spec_l9Cover.g.pms → Option (denR (outTys spec_l9Cover.g.rts spec_l9Cover.g.pms)) := fun k x => spec_l9Cover.f k x.1 x.2.1
@[reducible] noncomputable def spec_l9Cover.sm (k : Nat) : Sm := ⟨177, spec_l9Cover.g.pms, spec_l9Cover.g.rts, spec_l9Cover.fk k⟩
noncomputable def spec_l9Cover.E (k : Nat) : Env := ⟨tys, [spec_l4Put.sm k, spec_Holds.sm k], [9], [], []⟩
@[reducible] noncomputable def spec_l9Cover.s7 : List Slot := [.r 8 9 [] tConfig, .v 20 (.sl (.int .i64)) (.own .z) [] 0, .v 24 (.int .i64) .z [] 0, .v 9 tConfig .z [] 0]
noncomputable def spec_l9Cover.pts : List (Pt (denR (outTys spec_l9Cover.g.rts spec_l9Cover.g.pms))) := [⟨7, spec_l9Cover.s7, fun k x => spec_l9Cover.p7 k x.1 x.2.1 x.2.2.1⟩]
theorem spec_l9Cover.h7 (k : Nat) (x0 : (List Int)) (x1 : Int) (x2 : Config) : (spec_l9Cover.p7 (k + 1) x0 x1 x2 : Option (denR (outTys spec_l9Cover.g.rts spec_l9Cover.g.pms))) = evAt (spec_l9Cover.E k) (fun κ s => lhOf k κ s spec_l9Cover.pts) 7 b177 (unproj spec_l9Cover.s7 (x0, x1, x2, ())) (OM.fin spec_l9Cover.g Try.f177.results.toList) := by kernel_rfl
theorem spec_l9Cover.hf (k : Nat) (a0 : Config) (a1 : Mend) : (spec_l9Cover.f k a0 a1 : Option (denR (outTys spec_l9Cover.g.rts spec_l9Cover.g.pms))) = evC (spec_l9Cover.E k) (fun κ s => lhOf k κ s spec_l9Cover.pts) b177 (OM.start spec_l9Cover.g.pms 0 (a0, a1, ())) (OM.fin spec_l9Cover.g Try.f177.results.toList) := by kernel_rfl
theorem spec_l9Cover.ok (k : Nat) : SmOk Try.prog (spec_l9Cover.sm k) :=
  sm_ok mixed (E := spec_l9Cover.E) (pts := spec_l9Cover.pts) (fun k => ⟨⟨tysOk, by kernel_rfl⟩, forall_cons ⟨spec_l4Put.ok k, e60⟩ (forall_cons ⟨spec_Holds.ok k, e145⟩ (forall_nil))⟩) (fun _ => rfl) (fun _ => rfl)
    ⟨Try.func177, by kernel_rfl, by kernel_rfl, by kernel_rfl, by kernel_rfl, by kernel_rfl, by kernel_rfl⟩ (forall_cons (fun x => ⟨rfl, fun k => spec_l9Cover.h7 k x.1 x.2.1 x.2.2.1⟩) (forall_nil)) (fun k x => spec_l9Cover.hf k x.1 x.2.1) k
noncomputable def b146 : Code := Try.f146.body.getD .skip
theorem e146 : OM.Entry Try.prog 146 := ⟨_, Try.func146, by kernel_rfl, by kernel_rfl⟩
@[reducible] noncomputable def spec_l4Less.g : Sig := ⟨[.fz (.sl (.int .i64)), .fz (.sl (.int .i64))], [.v (.sl (.int .i64)) (.own .z)], []⟩
@[reducible] noncomputable def spec_l4Less.fk : Nat → denI spec_l4Less.g.pms → Option (denR (outTys spec_l4Less.g.rts spec_l4Less.g.pms)) := fun k x => spec_l4Less.f k x.1 x.2.1
@[reducible] noncomputable def spec_l4Less.sm (k : Nat) : Sm := ⟨146, spec_l4Less.g.pms, spec_l4Less.g.rts, spec_l4Less.fk k⟩
noncomputable def spec_l4Less.E (k : Nat) : Env := ⟨tys, [spec_l4Has.sm k], [25], [], []⟩
@[reducible] noncomputable def spec_l4Less.s7 : List Slot := [.v 0 (.sl (.int .i64)) .z [] 0, .v 4 (.sl (.int .i64)) .z [] 0, .v 20 (.sl (.int .i64)) (.own .z) [] 0, .v 24 (.int .i64) .z [] 0]
noncomputable def spec_l4Less.pts : List (Pt (denR (outTys spec_l4Less.g.rts spec_l4Less.g.pms))) := [⟨7, spec_l4Less.s7, fun k x => spec_l4Less.p7 k x.1 x.2.1 x.2.2.1 x.2.2.2.1⟩]
theorem spec_l4Less.h7 (k : Nat) (x0 : (List Int)) (x1 : (List Int)) (x2 : (List Int)) (x3 : Int) : (spec_l4Less.p7 (k + 1) x0 x1 x2 x3 : Option (denR (outTys spec_l4Less.g.rts spec_l4Less.g.pms))) = evAt (spec_l4Less.E k) (fun κ s => lhOf k κ s spec_l4Less.pts) 7 b146 (unproj spec_l4Less.s7 (x0, x1, x2, x3, ())) (OM.fin spec_l4Less.g Try.f146.results.toList) := by kernel_rfl
theorem spec_l4Less.hf (k : Nat) (a0 : (List Int)) (a1 : (List Int)) : (spec_l4Less.f k a0 a1 : Option (denR (outTys spec_l4Less.g.rts spec_l4Less.g.pms))) = evC (spec_l4Less.E k) (fun κ s => lhOf k κ s spec_l4Less.pts) b146 (OM.start spec_l4Less.g.pms 0 (a0, a1, ())) (OM.fin spec_l4Less.g Try.f146.results.toList) := by kernel_rfl
theorem spec_l4Less.ok (k : Nat) : SmOk Try.prog (spec_l4Less.sm k) :=
  sm_ok mixed (E := spec_l4Less.E) (pts := spec_l4Less.pts) (fun k => ⟨⟨tysOk, by kernel_rfl⟩, forall_cons ⟨spec_l4Has.ok k, e129⟩ (forall_nil)⟩) (fun _ => rfl) (fun _ => rfl)
    ⟨Try.func146, by kernel_rfl, by kernel_rfl, by kernel_rfl, by kernel_rfl, by kernel_rfl, by kernel_rfl⟩ (forall_cons (fun x => ⟨rfl, fun k => spec_l4Less.h7 k x.1 x.2.1 x.2.2.1 x.2.2.2.1⟩) (forall_nil)) (fun k x => spec_l4Less.hf k x.1 x.2.1) k
noncomputable def b95 : Code := Try.f95.body.getD .skip
theorem e95 : OM.Entry Try.prog 95 := ⟨_, Try.func95, by kernel_rfl, by kernel_rfl⟩
@[reducible] noncomputable def spec_l9Both.g : Sig := ⟨[.fz (.sl (.int .i64)), .fz (.sl (.int .i64))], [.v (.sl (.int .i64)) (.own .z)], []⟩
@[reducible] noncomputable def spec_l9Both.fk : Nat → denI spec_l9Both.g.pms → Option (denR (outTys spec_l9Both.g.rts spec_l9Both.g.pms)) := fun k x => spec_l9Both.f k x.1 x.2.1
@[reducible] noncomputable def spec_l9Both.sm (k : Nat) : Sm := ⟨95, spec_l9Both.g.pms, spec_l9Both.g.rts, spec_l9Both.fk k⟩
noncomputable def spec_l9Both.E (k : Nat) : Env := ⟨tys, [spec_l4Less.sm k], [], [], []⟩
noncomputable def spec_l9Both.pts : List (Pt (denR (outTys spec_l9Both.g.rts spec_l9Both.g.pms))) := []
theorem spec_l9Both.hf (k : Nat) (a0 : (List Int)) (a1 : (List Int)) : (spec_l9Both.f k a0 a1 : Option (denR (outTys spec_l9Both.g.rts spec_l9Both.g.pms))) = evC (spec_l9Both.E k) (fun κ s => lhOf k κ s spec_l9Both.pts) b95 (OM.start spec_l9Both.g.pms 0 (a0, a1, ())) (OM.fin spec_l9Both.g Try.f95.results.toList) := by kernel_rfl
theorem spec_l9Both.ok (k : Nat) : SmOk Try.prog (spec_l9Both.sm k) :=
  sm_ok mixed (E := spec_l9Both.E) (pts := spec_l9Both.pts) (fun k => ⟨⟨tysOk, by kernel_rfl⟩, forall_cons ⟨spec_l4Less.ok k, e146⟩ (forall_nil)⟩) (fun _ => rfl) (fun _ => rfl)
    ⟨Try.func95, by kernel_rfl, by kernel_rfl, by kernel_rfl, by kernel_rfl, by kernel_rfl, by kernel_rfl⟩ (forall_nil) (fun k x => spec_l9Both.hf k x.1 x.2.1) k
noncomputable def b94 : Code := Try.f94.body.getD .skip
theorem e94 : OM.Entry Try.prog 94 := ⟨_, Try.func94, by kernel_rfl, by kernel_rfl⟩
@[reducible] noncomputable def spec_Enough.g : Sig := ⟨[.fz tConfig, .fz (.sl (.int .i64)), .fz (.sl (.int .i64))], [.v .bool .z], []⟩
@[reducible] noncomputable def spec_Enough.fk : Nat → denI spec_Enough.g.pms → Option (denR (outTys spec_Enough.g.rts spec_Enough.g.pms)) := fun k x => spec_Enough.f k x.1 x.2.1 x.2.2.1
@[reducible] noncomputable def spec_Enough.sm (k : Nat) : Sm := ⟨94, spec_Enough.g.pms, spec_Enough.g.rts, spec_Enough.fk k⟩
noncomputable def spec_Enough.E (k : Nat) : Env := ⟨tys, [spec_NodesOk.sm k, spec_l4Span.sm k, spec_Holds.sm k, spec_l4Less.sm k], [], [], []⟩
noncomputable def spec_Enough.pts : List (Pt (denR (outTys spec_Enough.g.rts spec_Enough.g.pms))) := []
theorem spec_Enough.hf (k : Nat) (a0 : Config) (a1 : (List Int)) (a2 : (List Int)) : (spec_Enough.f k a0 a1 a2 : Option (denR (outTys spec_Enough.g.rts spec_Enough.g.pms))) = evC (spec_Enough.E k) (fun κ s => lhOf k κ s spec_Enough.pts) b94 (OM.start spec_Enough.g.pms 0 (a0, a1, a2, ())) (OM.fin spec_Enough.g Try.f94.results.toList) := by kernel_rfl
theorem spec_Enough.ok (k : Nat) : SmOk Try.prog (spec_Enough.sm k) :=
  sm_ok mixed (E := spec_Enough.E) (pts := spec_Enough.pts) (fun k => ⟨⟨tysOk, by kernel_rfl⟩, forall_cons ⟨spec_NodesOk.ok k, e72⟩ (forall_cons ⟨spec_l4Span.ok k, e147⟩ (forall_cons ⟨spec_Holds.ok k, e145⟩ (forall_cons ⟨spec_l4Less.ok k, e146⟩ (forall_nil))))⟩) (fun _ => rfl) (fun _ => rfl)
    ⟨Try.func94, by kernel_rfl, by kernel_rfl, by kernel_rfl, by kernel_rfl, by kernel_rfl, by kernel_rfl⟩ (forall_nil) (fun k x => spec_Enough.hf k x.1 x.2.1 x.2.2.1) k
noncomputable def b176 : Code := Try.f176.body.getD .skip
theorem e176 : OM.Entry Try.prog 176 := ⟨_, Try.func176, by kernel_rfl, by kernel_rfl⟩
@[reducible] noncomputable def spec_MendPlan.g : Sig := ⟨[.fz tConfig, .fz tMend, .fz (.sl (.int .i64))], [.v tMend (.two .z (.two .z (.two (.own .z) (.two (.own .z) (.two .z (.two (.own (.own .z)) .z)))))), .v .bool .z], []⟩
@[reducible] noncomputable def spec_MendPlan.fk : Nat → denI spec_MendPlan.g.pms → Option (denR (outTys spec_MendPlan.g.rts spec_MendPlan.g.pms)) := fun k x => spec_MendPlan.f k x.1 x.2.1 x.2.2.1
@[reducible] noncomputable def spec_MendPlan.sm (k : Nat) : Sm := ⟨176, spec_MendPlan.g.pms, spec_MendPlan.g.rts, spec_MendPlan.fk k⟩
noncomputable def spec_MendPlan.E (k : Nat) : Env := ⟨tys, [spec_l9Last.sm k, spec_MendOk.sm k, spec_l9Copy.sm k, spec_l9Both.sm k, spec_Enough.sm k], [], [], []⟩
@[reducible] noncomputable def spec_MendPlan.s17 : List Slot := [.r 16 17 [] tMend, .r 24 25 [] tMend, .r 32 33 [] tMend, .v 36 (.int .i64) .z [] 0, .v 17 tMend .z [] 0, .v 25 tMend (.two .z (.two .z (.two (.own .a) (.two (.own .a) (.two .z (.two (.own .a) .z)))))) [] 0, .v 33 tMend (.two .z (.two .z (.two (.own .z) (.two (.own .z) (.two .z (.two (.own (.own .z)) .z)))))) [] 0]
noncomputable def spec_MendPlan.pts : List (Pt (denR (outTys spec_MendPlan.g.rts spec_MendPlan.g.pms))) := [⟨17, spec_MendPlan.s17, fun k x => spec_MendPlan.p17 k x.1 x.2.1 x.2.2.1 x.2.2.2.1⟩]
theorem spec_MendPlan.h17 (k : Nat) (x0 : Int) (x1 : Mend) (x2 : Mend) (x3 : Mend) : (spec_MendPlan.p17 (k + 1) x0 x1 x2 x3 : Option (denR (outTys spec_MendPlan.g.rts spec_MendPlan.g.pms))) = evAt (spec_MendPlan.E k) (fun κ s => lhOf k κ s spec_MendPlan.pts) 17 b176 (unproj spec_MendPlan.s17 (x0, x1, x2, x3, ())) (OM.fin spec_MendPlan.g Try.f176.results.toList) := by kernel_rfl
theorem spec_MendPlan.hf (k : Nat) (a0 : Config) (a1 : Mend) (a2 : (List Int)) : (spec_MendPlan.f k a0 a1 a2 : Option (denR (outTys spec_MendPlan.g.rts spec_MendPlan.g.pms))) = evC (spec_MendPlan.E k) (fun κ s => lhOf k κ s spec_MendPlan.pts) b176 (OM.start spec_MendPlan.g.pms 0 (a0, a1, a2, ())) (OM.fin spec_MendPlan.g Try.f176.results.toList) := by kernel_rfl
theorem spec_MendPlan.ok (k : Nat) : SmOk Try.prog (spec_MendPlan.sm k) :=
  sm_ok mixed (E := spec_MendPlan.E) (pts := spec_MendPlan.pts) (fun k => ⟨⟨tysOk, by kernel_rfl⟩, forall_cons ⟨spec_l9Last.ok k, e75⟩ (forall_cons ⟨spec_MendOk.ok k, e16⟩ (forall_cons ⟨spec_l9Copy.ok k, e59⟩ (forall_cons ⟨spec_l9Both.ok k, e95⟩ (forall_cons ⟨spec_Enough.ok k, e94⟩ (forall_nil)))))⟩) (fun _ => rfl) (fun _ => rfl)
    ⟨Try.func176, by kernel_rfl, by kernel_rfl, by kernel_rfl, by kernel_rfl, by kernel_rfl, by kernel_rfl⟩ (forall_cons (fun x => ⟨rfl, fun k => spec_MendPlan.h17 k x.1 x.2.1 x.2.2.1 x.2.2.2.1⟩) (forall_nil)) (fun k x => spec_MendPlan.hf k x.1 x.2.1 x.2.2.1) k
noncomputable def b18 : Code := Try.f18.body.getD .skip
theorem e18 : OM.Entry Try.prog 18 := ⟨_, Try.func18, by kernel_rfl, by kernel_rfl⟩
@[reducible] noncomputable def spec_MendAck.g : Sig := ⟨[.fz tConfig, .fz tMend, .fz (.int .i64), .fz (.int .i64)], [.v tMend (.two .z (.two .z (.two (.own .z) (.two (.own .z) (.two .z (.two (.own (.own .z)) .z)))))), .v .bool .z], []⟩
@[reducible] noncomputable def spec_MendAck.fk : Nat → denI spec_MendAck.g.pms → Option (denR (outTys spec_MendAck.g.rts spec_MendAck.g.pms)) := fun k x => spec_MendAck.f k x.1 x.2.1 x.2.2.1 x.2.2.2.1
@[reducible] noncomputable def spec_MendAck.sm (k : Nat) : Sm := ⟨18, spec_MendAck.g.pms, spec_MendAck.g.rts, spec_MendAck.fk k⟩
noncomputable def spec_MendAck.E (k : Nat) : Env := ⟨tys, [spec_l1In.sm k, spec_MendOk.sm k, spec_l9Copy.sm k, spec_l4Put.sm k], [], [], []⟩
noncomputable def spec_MendAck.pts : List (Pt (denR (outTys spec_MendAck.g.rts spec_MendAck.g.pms))) := []
theorem spec_MendAck.hf (k : Nat) (a0 : Config) (a1 : Mend) (a2 : Int) (a3 : Int) : (spec_MendAck.f k a0 a1 a2 a3 : Option (denR (outTys spec_MendAck.g.rts spec_MendAck.g.pms))) = evC (spec_MendAck.E k) (fun κ s => lhOf k κ s spec_MendAck.pts) b18 (OM.start spec_MendAck.g.pms 0 (a0, a1, a2, a3, ())) (OM.fin spec_MendAck.g Try.f18.results.toList) := by kernel_rfl
theorem spec_MendAck.ok (k : Nat) : SmOk Try.prog (spec_MendAck.sm k) :=
  sm_ok mixed (E := spec_MendAck.E) (pts := spec_MendAck.pts) (fun k => ⟨⟨tysOk, by kernel_rfl⟩, forall_cons ⟨spec_l1In.ok k, e71⟩ (forall_cons ⟨spec_MendOk.ok k, e16⟩ (forall_cons ⟨spec_l9Copy.ok k, e59⟩ (forall_cons ⟨spec_l4Put.ok k, e60⟩ (forall_nil))))⟩) (fun _ => rfl) (fun _ => rfl)
    ⟨Try.func18, by kernel_rfl, by kernel_rfl, by kernel_rfl, by kernel_rfl, by kernel_rfl, by kernel_rfl⟩ (forall_nil) (fun k x => spec_MendAck.hf k x.1 x.2.1 x.2.2.1 x.2.2.2.1) k
noncomputable def b157 : Code := Try.f157.body.getD .skip
theorem e157 : OM.Entry Try.prog 157 := ⟨_, Try.func157, by kernel_rfl, by kernel_rfl⟩
@[reducible] noncomputable def spec_l9DrawRight.g : Sig := ⟨[.ptr tl1Cur .z .z, .fz tConfig], [.v tMend (.two .z (.two .z (.two (.own .z) (.two (.own .z) (.two .z (.two (.own (.own .z)) .z))))))], []⟩
@[reducible] noncomputable def spec_l9DrawRight.fk : Nat → denI spec_l9DrawRight.g.pms → Option (denR (outTys spec_l9DrawRight.g.rts spec_l9DrawRight.g.pms)) := fun k x => spec_l9DrawRight.f k x.1 x.2.1
@[reducible] noncomputable def spec_l9DrawRight.sm (k : Nat) : Sm := ⟨157, spec_l9DrawRight.g.pms, spec_l9DrawRight.g.rts, spec_l9DrawRight.fk k⟩
noncomputable def spec_l9DrawRight.E (k : Nat) : Env := ⟨tys, [spec_l1Below.sm k, spec_l1Once.sm k, spec_MendNew.sm k, spec_l1Max.sm k, spec_l6DrawRight.sm k, spec_StoreEra.sm k, spec_MendSeal.sm k, spec_l9Cover.sm k, spec_MendPlan.sm k, spec_MendAck.sm k], [43, 57, 83], [14], []⟩
@[reducible] noncomputable def spec_l9DrawRight.s9 : List Slot := [.r 0 36001 [] tl1Cur, .r 12 13 [] tConfig, .r 16 17 [] tMend, .r 20 21 [] tMend, .v 24 (.int .i64) .z [] 0, .v 28 (.int .i64) .z [] 0, .v 13 tConfig .z [] 0, .v 17 tMend (.two .z (.two .z (.two (.own .a) (.two (.own .a) (.two .z (.two (.own .a) .z)))))) [] 0, .v 21 tMend (.two .z (.two .z (.two (.own .z) (.two (.own .z) (.two .z (.two (.own (.own .z)) .z)))))) [] 0, .v 36001 tl1Cur .z [] 0]
@[reducible] noncomputable def spec_l9DrawRight.s28 : List Slot := [.r 0 36001 [] tl1Cur, .r 12 13 [] tConfig, .r 16 17 [] tMend, .r 20 21 [] tMend, .v 13 tConfig .z [] 0, .v 17 tMend (.two .z (.two .z (.two (.own .a) (.two (.own .a) (.two .z (.two (.own .a) .z)))))) [] 0, .v 21 tMend (.two .z (.two .z (.two (.own .z) (.two (.own .z) (.two .z (.two (.own (.own .z)) .z)))))) [] 0, .v 36001 tl1Cur .z [] 0]
@[reducible] noncomputable def spec_l9DrawRight.s31 : List Slot := [.r 0 36001 [] tl1Cur, .r 12 13 [] tConfig, .r 16 17 [] tMend, .r 20 21 [] tMend, .v 48 (.int .i64) .z [] 0, .v 13 tConfig .z [] 0, .v 17 tMend (.two .z (.two .z (.two (.own .a) (.two (.own .a) (.two .z (.two (.own .a) .z)))))) [] 0, .v 21 tMend (.two .z (.two .z (.two (.own .z) (.two (.own .z) (.two .z (.two (.own (.own .z)) .z)))))) [] 0, .v 36001 tl1Cur .z [] 0]
noncomputable def spec_l9DrawRight.pts : List (Pt (denR (outTys spec_l9DrawRight.g.rts spec_l9DrawRight.g.pms))) := [⟨9, spec_l9DrawRight.s9, fun k x => spec_l9DrawRight.p9 k x.1 x.2.1 x.2.2.1 x.2.2.2.1 x.2.2.2.2.1 x.2.2.2.2.2.1⟩, ⟨28, spec_l9DrawRight.s28, fun k x => spec_l9DrawRight.p28 k x.1 x.2.1 x.2.2.1 x.2.2.2.1⟩, ⟨31, spec_l9DrawRight.s31, fun k x => spec_l9DrawRight.p31 k x.1 x.2.1 x.2.2.1 x.2.2.2.1 x.2.2.2.2.1⟩]
theorem spec_l9DrawRight.h9 (k : Nat) (x0 : Int) (x1 : Int) (x2 : Config) (x3 : Mend) (x4 : Mend) (x5 : l1Cur) : (spec_l9DrawRight.p9 (k + 1) x0 x1 x2 x3 x4 x5 : Option (denR (outTys spec_l9DrawRight.g.rts spec_l9DrawRight.g.pms))) = evAt (spec_l9DrawRight.E k) (fun κ s => lhOf k κ s spec_l9DrawRight.pts) 9 b157 (unproj spec_l9DrawRight.s9 (x0, x1, x2, x3, x4, x5, ())) (OM.fin spec_l9DrawRight.g Try.f157.results.toList) := by kernel_rfl
theorem spec_l9DrawRight.h28 (k : Nat) (x0 : Config) (x1 : Mend) (x2 : Mend) (x3 : l1Cur) : (spec_l9DrawRight.p28 (k + 1) x0 x1 x2 x3 : Option (denR (outTys spec_l9DrawRight.g.rts spec_l9DrawRight.g.pms))) = evAt (spec_l9DrawRight.E k) (fun κ s => lhOf k κ s spec_l9DrawRight.pts) 28 b157 (unproj spec_l9DrawRight.s28 (x0, x1, x2, x3, ())) (OM.fin spec_l9DrawRight.g Try.f157.results.toList) := by kernel_rfl
theorem spec_l9DrawRight.h31 (k : Nat) (x0 : Int) (x1 : Config) (x2 : Mend) (x3 : Mend) (x4 : l1Cur) : (spec_l9DrawRight.p31 (k + 1) x0 x1 x2 x3 x4 : Option (denR (outTys spec_l9DrawRight.g.rts spec_l9DrawRight.g.pms))) = evAt (spec_l9DrawRight.E k) (fun κ s => lhOf k κ s spec_l9DrawRight.pts) 31 b157 (unproj spec_l9DrawRight.s31 (x0, x1, x2, x3, x4, ())) (OM.fin spec_l9DrawRight.g Try.f157.results.toList) := by kernel_rfl
theorem spec_l9DrawRight.hf (k : Nat) (a0 : l1Cur) (a1 : Config) : (spec_l9DrawRight.f k a0 a1 : Option (denR (outTys spec_l9DrawRight.g.rts spec_l9DrawRight.g.pms))) = evC (spec_l9DrawRight.E k) (fun κ s => lhOf k κ s spec_l9DrawRight.pts) b157 (OM.start spec_l9DrawRight.g.pms 0 (a0, a1, ())) (OM.fin spec_l9DrawRight.g Try.f157.results.toList) := by kernel_rfl
theorem spec_l9DrawRight.ok (k : Nat) : SmOk Try.prog (spec_l9DrawRight.sm k) :=
  sm_ok mixed (E := spec_l9DrawRight.E) (pts := spec_l9DrawRight.pts) (fun k => ⟨⟨tysOk, by kernel_rfl⟩, forall_cons ⟨spec_l1Below.ok k, e50⟩ (forall_cons ⟨spec_l1Once.ok k, e49⟩ (forall_cons ⟨spec_MendNew.ok k, e173⟩ (forall_cons ⟨spec_l1Max.ok k, e172⟩ (forall_cons ⟨spec_l6DrawRight.ok k, e175⟩ (forall_cons ⟨spec_StoreEra.ok k, e174⟩ (forall_cons ⟨spec_MendSeal.ok k, e11⟩ (forall_cons ⟨spec_l9Cover.ok k, e177⟩ (forall_cons ⟨spec_MendPlan.ok k, e176⟩ (forall_cons ⟨spec_MendAck.ok k, e18⟩ (forall_nil))))))))))⟩) (fun _ => rfl) (fun _ => rfl)
    ⟨Try.func157, by kernel_rfl, by kernel_rfl, by kernel_rfl, by kernel_rfl, by kernel_rfl, by kernel_rfl⟩ (forall_cons (fun x => ⟨rfl, fun k => spec_l9DrawRight.h9 k x.1 x.2.1 x.2.2.1 x.2.2.2.1 x.2.2.2.2.1 x.2.2.2.2.2.1⟩) (forall_cons (fun x => ⟨rfl, fun k => spec_l9DrawRight.h28 k x.1 x.2.1 x.2.2.1 x.2.2.2.1⟩) (forall_cons (fun x => ⟨rfl, fun k => spec_l9DrawRight.h31 k x.1 x.2.1 x.2.2.1 x.2.2.2.1 x.2.2.2.2.1⟩) (forall_nil)))) (fun k x => spec_l9DrawRight.hf k x.1 x.2.1) k
noncomputable def b122 : Code := Try.f122.body.getD .skip
theorem e122 : OM.Entry Try.prog 122 := ⟨_, Try.func122, by kernel_rfl, by kernel_rfl⟩
@[reducible] noncomputable def spec_l1PickInt.g : Sig := ⟨[.ptr tl1Cur .z .z, .fz (.sl (.int .i64))], [.v (.int .i64) .z], []⟩
@[reducible] noncomputable def spec_l1PickInt.fk : Nat → denI spec_l1PickInt.g.pms → Option (denR (outTys spec_l1PickInt.g.rts spec_l1PickInt.g.pms)) := fun k x => spec_l1PickInt.f x.1 x.2.1
@[reducible] noncomputable def spec_l1PickInt.sm (k : Nat) : Sm := ⟨122, spec_l1PickInt.g.pms, spec_l1PickInt.g.rts, spec_l1PickInt.fk k⟩
noncomputable def spec_l1PickInt.E (k : Nat) : Env := ⟨tys, [spec_l1Below.sm k], [], [], []⟩
noncomputable def spec_l1PickInt.pts : List (Pt (denR (outTys spec_l1PickInt.g.rts spec_l1PickInt.g.pms))) := []
theorem spec_l1PickInt.hf (k : Nat) (a0 : l1Cur) (a1 : (List Int)) : (spec_l1PickInt.f a0 a1 : Option (denR (outTys spec_l1PickInt.g.rts spec_l1PickInt.g.pms))) = evC (spec_l1PickInt.E k) (fun κ s => lhOf k κ s spec_l1PickInt.pts) b122 (OM.start spec_l1PickInt.g.pms 0 (a0, a1, ())) (OM.fin spec_l1PickInt.g Try.f122.results.toList) := by kernel_rfl
theorem spec_l1PickInt.ok (k : Nat) : SmOk Try.prog (spec_l1PickInt.sm k) :=
  sm_ok mixed (E := spec_l1PickInt.E) (pts := spec_l1PickInt.pts) (fun k => ⟨⟨tysOk, by kernel_rfl⟩, forall_cons ⟨spec_l1Below.ok k, e50⟩ (forall_nil)⟩) (fun _ => rfl) (fun _ => rfl)
    ⟨Try.func122, by kernel_rfl, by kernel_rfl, by kernel_rfl, by kernel_rfl, by kernel_rfl, by kernel_rfl⟩ (forall_nil) (fun k x => spec_l1PickInt.hf k x.1 x.2.1) k
noncomputable def b139 : Code := Try.f139.body.getD .skip
theorem e139 : OM.Entry Try.prog 139 := ⟨_, Try.func139, by kernel_rfl, by kernel_rfl⟩
@[reducible] noncomputable def spec_l4DrawNodes.g : Sig := ⟨[.ptr tl1Cur .z .z, .fz tConfig], [.v (.sl (.int .i64)) (.own .z)], []⟩
@[reducible] noncomputable def spec_l4DrawNodes.fk : Nat → denI spec_l4DrawNodes.g.pms → Option (denR (outTys spec_l4DrawNodes.g.rts spec_l4DrawNodes.g.pms)) := fun k x => spec_l4DrawNodes.f k x.1 x.2.1
@[reducible] noncomputable def spec_l4DrawNodes.sm (k : Nat) : Sm := ⟨139, spec_l4DrawNodes.g.pms, spec_l4DrawNodes.g.rts, spec_l4DrawNodes.fk k⟩
noncomputable def spec_l4DrawNodes.E (k : Nat) : Env := ⟨tys, [spec_l1Below.sm k, spec_l1Once.sm k, spec_l1Max.sm k, spec_l4Put.sm k, spec_l1PickInt.sm k], [], [], []⟩
@[reducible] noncomputable def spec_l4DrawNodes.s9 : List Slot := [.r 0 36001 [] tl1Cur, .r 12 13 [] tConfig, .v 20 (.sl (.int .i64)) (.own .z) [] 0, .v 24 (.int .i64) .z [] 0, .v 28 (.int .i64) .z [] 0, .v 13 tConfig .z [] 0, .v 36001 tl1Cur .z [] 0]
noncomputable def spec_l4DrawNodes.pts : List (Pt (denR (outTys spec_l4DrawNodes.g.rts spec_l4DrawNodes.g.pms))) := [⟨9, spec_l4DrawNodes.s9, fun k x => spec_l4DrawNodes.p9 k x.1 x.2.1 x.2.2.1 x.2.2.2.1 x.2.2.2.2.1⟩]
theorem spec_l4DrawNodes.h9 (k : Nat) (x0 : (List Int)) (x1 : Int) (x2 : Int) (x3 : Config) (x4 : l1Cur) : (spec_l4DrawNodes.p9 (k + 1) x0 x1 x2 x3 x4 : Option (denR (outTys spec_l4DrawNodes.g.rts spec_l4DrawNodes.g.pms))) = evAt (spec_l4DrawNodes.E k) (fun κ s => lhOf k κ s spec_l4DrawNodes.pts) 9 b139 (unproj spec_l4DrawNodes.s9 (x0, x1, x2, x3, x4, ())) (OM.fin spec_l4DrawNodes.g Try.f139.results.toList) := by kernel_rfl
theorem spec_l4DrawNodes.hf (k : Nat) (a0 : l1Cur) (a1 : Config) : (spec_l4DrawNodes.f k a0 a1 : Option (denR (outTys spec_l4DrawNodes.g.rts spec_l4DrawNodes.g.pms))) = evC (spec_l4DrawNodes.E k) (fun κ s => lhOf k κ s spec_l4DrawNodes.pts) b139 (OM.start spec_l4DrawNodes.g.pms 0 (a0, a1, ())) (OM.fin spec_l4DrawNodes.g Try.f139.results.toList) := by kernel_rfl
theorem spec_l4DrawNodes.ok (k : Nat) : SmOk Try.prog (spec_l4DrawNodes.sm k) :=
  sm_ok mixed (E := spec_l4DrawNodes.E) (pts := spec_l4DrawNodes.pts) (fun k => ⟨⟨tysOk, by kernel_rfl⟩, forall_cons ⟨spec_l1Below.ok k, e50⟩ (forall_cons ⟨spec_l1Once.ok k, e49⟩ (forall_cons ⟨spec_l1Max.ok k, e172⟩ (forall_cons ⟨spec_l4Put.ok k, e60⟩ (forall_cons ⟨spec_l1PickInt.ok k, e122⟩ (forall_nil)))))⟩) (fun _ => rfl) (fun _ => rfl)
    ⟨Try.func139, by kernel_rfl, by kernel_rfl, by kernel_rfl, by kernel_rfl, by kernel_rfl, by kernel_rfl⟩ (forall_cons (fun x => ⟨rfl, fun k => spec_l4DrawNodes.h9 k x.1 x.2.1 x.2.2.1 x.2.2.2.1 x.2.2.2.2.1⟩) (forall_nil)) (fun k x => spec_l4DrawNodes.hf k x.1 x.2.1) k
noncomputable def b121 : Code := Try.f121.body.getD .skip
theorem e121 : OM.Entry Try.prog 121 := ⟨_, Try.func121, by kernel_rfl, by kernel_rfl⟩
@[reducible] noncomputable def spec_l1DrawPlace.g : Sig := ⟨[.ptr tl1Cur .z .z], [.v (.int .i64) .z], []⟩
@[reducible] noncomputable def spec_l1DrawPlace.fk : Nat → denI spec_l1DrawPlace.g.pms → Option (denR (outTys spec_l1DrawPlace.g.rts spec_l1DrawPlace.g.pms)) := fun k x => spec_l1DrawPlace.f x.1
@[reducible] noncomputable def spec_l1DrawPlace.sm (k : Nat) : Sm := ⟨121, spec_l1DrawPlace.g.pms, spec_l1DrawPlace.g.rts, spec_l1DrawPlace.fk k⟩
noncomputable def spec_l1DrawPlace.E (k : Nat) : Env := ⟨tys, [spec_l1Below.sm k, spec_l1Place.sm k, spec_l1PickInt.sm k], [], [], []⟩
noncomputable def spec_l1DrawPlace.pts : List (Pt (denR (outTys spec_l1DrawPlace.g.rts spec_l1DrawPlace.g.pms))) := []
theorem spec_l1DrawPlace.hf (k : Nat) (a0 : l1Cur) : (spec_l1DrawPlace.f a0 : Option (denR (outTys spec_l1DrawPlace.g.rts spec_l1DrawPlace.g.pms))) = evC (spec_l1DrawPlace.E k) (fun κ s => lhOf k κ s spec_l1DrawPlace.pts) b121 (OM.start spec_l1DrawPlace.g.pms 0 (a0, ())) (OM.fin spec_l1DrawPlace.g Try.f121.results.toList) := by kernel_rfl
theorem spec_l1DrawPlace.ok (k : Nat) : SmOk Try.prog (spec_l1DrawPlace.sm k) :=
  sm_ok mixed (E := spec_l1DrawPlace.E) (pts := spec_l1DrawPlace.pts) (fun k => ⟨⟨tysOk, by kernel_rfl⟩, forall_cons ⟨spec_l1Below.ok k, e50⟩ (forall_cons ⟨spec_l1Place.ok k, e53⟩ (forall_cons ⟨spec_l1PickInt.ok k, e122⟩ (forall_nil)))⟩) (fun _ => rfl) (fun _ => rfl)
    ⟨Try.func121, by kernel_rfl, by kernel_rfl, by kernel_rfl, by kernel_rfl, by kernel_rfl, by kernel_rfl⟩ (forall_nil) (fun k x => spec_l1DrawPlace.hf k x.1) k
noncomputable def b51 : Code := Try.f51.body.getD .skip
theorem e51 : OM.Entry Try.prog 51 := ⟨_, Try.func51, by kernel_rfl, by kernel_rfl⟩
@[reducible] noncomputable def spec_l3Draw.g : Sig := ⟨[.ptr tl1Cur .z .z], [.v tEntry .z], []⟩
@[reducible] noncomputable def spec_l3Draw.fk : Nat → denI spec_l3Draw.g.pms → Option (denR (outTys spec_l3Draw.g.rts spec_l3Draw.g.pms)) := fun k x => spec_l3Draw.f x.1
@[reducible] noncomputable def spec_l3Draw.sm (k : Nat) : Sm := ⟨51, spec_l3Draw.g.pms, spec_l3Draw.g.rts, spec_l3Draw.fk k⟩
noncomputable def spec_l3Draw.E (k : Nat) : Env := ⟨tys, [spec_l1Below.sm k, spec_l3DrawRight.sm k, spec_l1PickInt.sm k, spec_l1DrawPlace.sm k], [], [], []⟩
noncomputable def spec_l3Draw.pts : List (Pt (denR (outTys spec_l3Draw.g.rts spec_l3Draw.g.pms))) := []
theorem spec_l3Draw.hf (k : Nat) (a0 : l1Cur) : (spec_l3Draw.f a0 : Option (denR (outTys spec_l3Draw.g.rts spec_l3Draw.g.pms))) = evC (spec_l3Draw.E k) (fun κ s => lhOf k κ s spec_l3Draw.pts) b51 (OM.start spec_l3Draw.g.pms 0 (a0, ())) (OM.fin spec_l3Draw.g Try.f51.results.toList) := by kernel_rfl
theorem spec_l3Draw.ok (k : Nat) : SmOk Try.prog (spec_l3Draw.sm k) :=
  sm_ok mixed (E := spec_l3Draw.E) (pts := spec_l3Draw.pts) (fun k => ⟨⟨tysOk, by kernel_rfl⟩, forall_cons ⟨spec_l1Below.ok k, e50⟩ (forall_cons ⟨spec_l3DrawRight.ok k, e120⟩ (forall_cons ⟨spec_l1PickInt.ok k, e122⟩ (forall_cons ⟨spec_l1DrawPlace.ok k, e121⟩ (forall_nil))))⟩) (fun _ => rfl) (fun _ => rfl)
    ⟨Try.func51, by kernel_rfl, by kernel_rfl, by kernel_rfl, by kernel_rfl, by kernel_rfl, by kernel_rfl⟩ (forall_nil) (fun k x => spec_l3Draw.hf k x.1) k
noncomputable def b117 : Code := Try.f117.body.getD .skip
theorem e117 : OM.Entry Try.prog 117 := ⟨_, Try.func117, by kernel_rfl, by kernel_rfl⟩
@[reducible] noncomputable def spec_l9Draw.g : Sig := ⟨[.ptr tl1Cur .z .z, .fz tConfig], [.v tMend (.two .z (.two .z (.two (.own .z) (.two (.own .z) (.two .z (.two (.own (.own .z)) .z))))))], []⟩
@[reducible] noncomputable def spec_l9Draw.fk : Nat → denI spec_l9Draw.g.pms → Option (denR (outTys spec_l9Draw.g.rts spec_l9Draw.g.pms)) := fun k x => spec_l9Draw.f k x.1 x.2.1
@[reducible] noncomputable def spec_l9Draw.sm (k : Nat) : Sm := ⟨117, spec_l9Draw.g.pms, spec_l9Draw.g.rts, spec_l9Draw.fk k⟩
noncomputable def spec_l9Draw.E (k : Nat) : Env := ⟨tys, [spec_l1Below.sm k, spec_l9DrawRight.sm k, spec_l1PickInt.sm k, spec_l4DrawNodes.sm k, spec_l3Draw.sm k], [], [], []⟩
noncomputable def spec_l9Draw.pts : List (Pt (denR (outTys spec_l9Draw.g.rts spec_l9Draw.g.pms))) := []
theorem spec_l9Draw.hf (k : Nat) (a0 : l1Cur) (a1 : Config) : (spec_l9Draw.f k a0 a1 : Option (denR (outTys spec_l9Draw.g.rts spec_l9Draw.g.pms))) = evC (spec_l9Draw.E k) (fun κ s => lhOf k κ s spec_l9Draw.pts) b117 (OM.start spec_l9Draw.g.pms 0 (a0, a1, ())) (OM.fin spec_l9Draw.g Try.f117.results.toList) := by kernel_rfl
theorem spec_l9Draw.ok (k : Nat) : SmOk Try.prog (spec_l9Draw.sm k) :=
  sm_ok mixed (E := spec_l9Draw.E) (pts := spec_l9Draw.pts) (fun k => ⟨⟨tysOk, by kernel_rfl⟩, forall_cons ⟨spec_l1Below.ok k, e50⟩ (forall_cons ⟨spec_l9DrawRight.ok k, e157⟩ (forall_cons ⟨spec_l1PickInt.ok k, e122⟩ (forall_cons ⟨spec_l4DrawNodes.ok k, e139⟩ (forall_cons ⟨spec_l3Draw.ok k, e51⟩ (forall_nil)))))⟩) (fun _ => rfl) (fun _ => rfl)
    ⟨Try.func117, by kernel_rfl, by kernel_rfl, by kernel_rfl, by kernel_rfl, by kernel_rfl, by kernel_rfl⟩ (forall_nil) (fun k x => spec_l9Draw.hf k x.1 x.2.1) k
@[reducible] noncomputable def spec_l4DrawRight.g : Sig := ⟨[.ptr tl1Cur .z .z], [.v tConfig (.two (.own .z) .z)], []⟩
@[reducible] noncomputable def spec_l4DrawRight.fk : Nat → denI spec_l4DrawRight.g.pms → Option (denR (outTys spec_l4DrawRight.g.rts spec_l4DrawRight.g.pms)) := fun k x => spec_l4DrawRight.f k x.1
@[reducible] noncomputable def spec_l4DrawRight.sm (k : Nat) : Sm := ⟨79, spec_l4DrawRight.g.pms, spec_l4DrawRight.g.rts, spec_l4DrawRight.fk k⟩
noncomputable def spec_l4DrawRight.E (k : Nat) : Env := ⟨tys, [spec_l1Below.sm k, spec_l1Once.sm k], [], [], []⟩
@[reducible] noncomputable def spec_l4DrawRight.s9 : List Slot := [.r 0 36001 [] tl1Cur, .r 8 9 [] tConfig, .r 12 13 [] tConfig, .v 16 (.int .i64) .z [] 0, .v 20 (.int .i64) .z [] 0, .v 9 tConfig (.two (.own .a) .z) [] 0, .v 13 tConfig (.two (.own .z) .z) [] 0, .v 36001 tl1Cur .z [] 0]
noncomputable def spec_l4DrawRight.pts : List (Pt (denR (outTys spec_l4DrawRight.g.rts spec_l4DrawRight.g.pms))) := [⟨9, spec_l4DrawRight.s9, fun k x => spec_l4DrawRight.p9 k x.1 x.2.1 x.2.2.1 x.2.2.2.1 x.2.2.2.2.1⟩]
theorem spec_l4DrawRight.h9 (k : Nat) (x0 : Int) (x1 : Int) (x2 : Config) (x3 : Config) (x4 : l1Cur) : (spec_l4DrawRight.p9 (k + 1) x0 x1 x2 x3 x4 : Option (denR (outTys spec_l4DrawRight.g.rts spec_l4DrawRight.g.pms))) = evAt (spec_l4DrawRight.E k) (fun κ s => lhOf k κ s spec_l4DrawRight.pts) 9 b79 (unproj spec_l4DrawRight.s9 (x0, x1, x2, x3, x4, ())) (OM.fin spec_l4DrawRight.g Try.f79.results.toList) := by kernel_rfl
theorem spec_l4DrawRight.hf (k : Nat) (a0 : l1Cur) : (spec_l4DrawRight.f k a0 : Option (denR (outTys spec_l4DrawRight.g.rts spec_l4DrawRight.g.pms))) = evC (spec_l4DrawRight.E k) (fun κ s => lhOf k κ s spec_l4DrawRight.pts) b79 (OM.start spec_l4DrawRight.g.pms 0 (a0, ())) (OM.fin spec_l4DrawRight.g Try.f79.results.toList) := by kernel_rfl
theorem spec_l4DrawRight.ok (k : Nat) : SmOk Try.prog (spec_l4DrawRight.sm k) :=
  sm_ok mixed (E := spec_l4DrawRight.E) (pts := spec_l4DrawRight.pts) (fun k => ⟨⟨tysOk, by kernel_rfl⟩, forall_cons ⟨spec_l1Below.ok k, e50⟩ (forall_cons ⟨spec_l1Once.ok k, e49⟩ (forall_nil))⟩) (fun _ => rfl) (fun _ => rfl)
    ⟨Try.func79, by kernel_rfl, by kernel_rfl, by kernel_rfl, by kernel_rfl, by kernel_rfl, by kernel_rfl⟩ (forall_cons (fun x => ⟨rfl, fun k => spec_l4DrawRight.h9 k x.1 x.2.1 x.2.2.1 x.2.2.2.1 x.2.2.2.2.1⟩) (forall_nil)) (fun k x => spec_l4DrawRight.hf k x.1) k
noncomputable def b118 : Code := Try.f118.body.getD .skip
theorem e118 : OM.Entry Try.prog 118 := ⟨_, Try.func118, by kernel_rfl, by kernel_rfl⟩
@[reducible] noncomputable def spec_l4Draw.g : Sig := ⟨[.ptr tl1Cur .z .z], [.v tConfig (.two (.own .z) .z)], []⟩
@[reducible] noncomputable def spec_l4Draw.fk : Nat → denI spec_l4Draw.g.pms → Option (denR (outTys spec_l4Draw.g.rts spec_l4Draw.g.pms)) := fun k x => spec_l4Draw.f k x.1
@[reducible] noncomputable def spec_l4Draw.sm (k : Nat) : Sm := ⟨118, spec_l4Draw.g.pms, spec_l4Draw.g.rts, spec_l4Draw.fk k⟩
noncomputable def spec_l4Draw.E (k : Nat) : Env := ⟨tys, [spec_l1Below.sm k, spec_l1PickInt.sm k, spec_l4DrawRight.sm k], [], [], []⟩
noncomputable def spec_l4Draw.pts : List (Pt (denR (outTys spec_l4Draw.g.rts spec_l4Draw.g.pms))) := []
theorem spec_l4Draw.hf (k : Nat) (a0 : l1Cur) : (spec_l4Draw.f k a0 : Option (denR (outTys spec_l4Draw.g.rts spec_l4Draw.g.pms))) = evC (spec_l4Draw.E k) (fun κ s => lhOf k κ s spec_l4Draw.pts) b118 (OM.start spec_l4Draw.g.pms 0 (a0, ())) (OM.fin spec_l4Draw.g Try.f118.results.toList) := by kernel_rfl
theorem spec_l4Draw.ok (k : Nat) : SmOk Try.prog (spec_l4Draw.sm k) :=
  sm_ok mixed (E := spec_l4Draw.E) (pts := spec_l4Draw.pts) (fun k => ⟨⟨tysOk, by kernel_rfl⟩, forall_cons ⟨spec_l1Below.ok k, e50⟩ (forall_cons ⟨spec_l1PickInt.ok k, e122⟩ (forall_cons ⟨spec_l4DrawRight.ok k, e79⟩ (forall_nil)))⟩) (fun _ => rfl) (fun _ => rfl)
    ⟨Try.func118, by kernel_rfl, by kernel_rfl, by kernel_rfl, by kernel_rfl, by kernel_rfl, by kernel_rfl⟩ (forall_nil) (fun k x => spec_l4Draw.hf k x.1) k
noncomputable def b48 : Code := Try.f48.body.getD .skip
theorem e48 : OM.Entry Try.prog 48 := ⟨_, Try.func48, by kernel_rfl, by kernel_rfl⟩
@[reducible] noncomputable def spec_l9DrawOne.g : Sig := ⟨[.fz (.sl (.int .u8))], [.v tConfig .z, .v tMend (.two .z (.two .z (.two (.own .z) (.two (.own .z) (.two .z (.two (.own (.own .z)) .z)))))), .p tl1Cur .z], []⟩
@[reducible] noncomputable def spec_l9DrawOne.fk : Nat → denI spec_l9DrawOne.g.pms → Option (denR (outTys spec_l9DrawOne.g.rts spec_l9DrawOne.g.pms)) := fun k x => spec_l9DrawOne.f k x.1
@[reducible] noncomputable def spec_l9DrawOne.sm (k : Nat) : Sm := ⟨48, spec_l9DrawOne.g.pms, spec_l9DrawOne.g.rts, spec_l9DrawOne.fk k⟩
noncomputable def spec_l9DrawOne.E (k : Nat) : Env := ⟨tys, [spec_l1New.sm k, spec_l1Once.sm k, spec_l4DrawRight_z.sm k, spec_l9Draw.sm k, spec_l4Draw.sm k], [], [], []⟩
noncomputable def spec_l9DrawOne.pts : List (Pt (denR (outTys spec_l9DrawOne.g.rts spec_l9DrawOne.g.pms))) := []
theorem spec_l9DrawOne.hf (k : Nat) (a0 : (List Int)) : (spec_l9DrawOne.f k a0 : Option (denR (outTys spec_l9DrawOne.g.rts spec_l9DrawOne.g.pms))) = evC (spec_l9DrawOne.E k) (fun κ s => lhOf k κ s spec_l9DrawOne.pts) b48 (OM.start spec_l9DrawOne.g.pms 0 (a0, ())) (OM.fin spec_l9DrawOne.g Try.f48.results.toList) := by kernel_rfl
theorem spec_l9DrawOne.ok (k : Nat) : SmOk Try.prog (spec_l9DrawOne.sm k) :=
  sm_ok mixed (E := spec_l9DrawOne.E) (pts := spec_l9DrawOne.pts) (fun k => ⟨⟨tysOk, by kernel_rfl⟩, forall_cons ⟨spec_l1New.ok k, e78⟩ (forall_cons ⟨spec_l1Once.ok k, e49⟩ (forall_cons ⟨spec_l4DrawRight_z.ok k, e79⟩ (forall_cons ⟨spec_l9Draw.ok k, e117⟩ (forall_cons ⟨spec_l4Draw.ok k, e118⟩ (forall_nil)))))⟩) (fun _ => rfl) (fun _ => rfl)
    ⟨Try.func48, by kernel_rfl, by kernel_rfl, by kernel_rfl, by kernel_rfl, by kernel_rfl, by kernel_rfl⟩ (forall_nil) (fun k x => spec_l9DrawOne.hf k x.1) k
noncomputable def b9 : Code := Try.f9.body.getD .skip
theorem e9 : OM.Entry Try.prog 9 := ⟨_, Try.func9, by kernel_rfl, by kernel_rfl⟩
@[reducible] noncomputable def spec_DrawMendSeal.g : Sig := ⟨[.fz (.sl (.int .u8))], [.v tConfig .z, .v tMend (.two .z (.two .z (.two (.own .z) (.two (.own .z) (.two .z (.two (.own (.own .z)) .z)))))), .v (.int .i64) .z, .v (.sl tEntry) (.own .z)], []⟩
@[reducible] noncomputable def spec_DrawMendSeal.fk : Nat → denI spec_DrawMendSeal.g.pms → Option (denR (outTys spec_DrawMendSeal.g.rts spec_DrawMendSeal.g.pms)) := fun k x => spec_DrawMendSeal.f k x.1
@[reducible] noncomputable def spec_DrawMendSeal.sm (k : Nat) : Sm := ⟨9, spec_DrawMendSeal.g.pms, spec_DrawMendSeal.g.rts, spec_DrawMendSeal.fk k⟩
noncomputable def spec_DrawMendSeal.E (k : Nat) : Env := ⟨tys, [spec_l1Below.sm k, spec_l1Once.sm k, spec_l1Place.sm k, spec_PlaceOk.sm k, spec_OffOf.sm k, spec_l3Draw.sm k, spec_l9DrawOne.sm k], [], [5], []⟩
@[reducible] noncomputable def spec_DrawMendSeal.s10 : List Slot := [.r 8 9 [] tConfig, .r 12 13 [] tMend, .r 24 25 [] tConfig, .r 28 29 [] tMend, .r 32 40457 [] tl1Cur, .v 9 tConfig (.two (.own .a) .z) [] 0, .v 13 tMend (.two .z (.two .z (.two (.own .a) (.two (.own .a) (.two .z (.two (.own .a) .z)))))) [] 0, .v 25 tConfig .z [] 0, .v 29 tMend (.two .z (.two .z (.two (.own .z) (.two (.own .z) (.two .z (.two (.own (.own .z)) .z)))))) [] 0, .v 40457 tl1Cur .z [] 0]
@[reducible] noncomputable def spec_DrawMendSeal.s15 : List Slot := [.r 8 9 [] tConfig, .r 12 13 [] tMend, .r 24 25 [] tConfig, .r 28 29 [] tMend, .r 32 40457 [] tl1Cur, .v 36 (.sl tEntry) (.own .z) [] 0, .v 40 (.int .i64) .z [] 0, .v 9 tConfig (.two (.own .a) .z) [] 0, .v 13 tMend (.two .z (.two .z (.two (.own .a) (.two (.own .a) (.two .z (.two (.own .a) .z)))))) [] 0, .v 25 tConfig .z [] 0, .v 29 tMend (.two .z (.two .z (.two (.own .z) (.two (.own .z) (.two .z (.two (.own (.own .z)) .z)))))) [] 0, .v 40457 tl1Cur .z [] 0]
noncomputable def spec_DrawMendSeal.pts : List (Pt (denR (outTys spec_DrawMendSeal.g.rts spec_DrawMendSeal.g.pms))) := [⟨10, spec_DrawMendSeal.s10, fun k x => spec_DrawMendSeal.p10 k x.1 x.2.1 x.2.2.1 x.2.2.2.1 x.2.2.2.2.1⟩, ⟨15, spec_DrawMendSeal.s15, fun k x => spec_DrawMendSeal.p15 k x.1 x.2.1 x.2.2.1 x.2.2.2.1 x.2.2.2.2.1 x.2.2.2.2.2.1 x.2.2.2.2.2.2.1⟩]
theorem spec_DrawMendSeal.h10 (k : Nat) (x0 : Config) (x1 : Mend) (x2 : Config) (x3 : Mend) (x4 : l1Cur) : (spec_DrawMendSeal.p10 (k + 1) x0 x1 x2 x3 x4 : Option (denR (outTys spec_DrawMendSeal.g.rts spec_DrawMendSeal.g.pms))) = evAt (spec_DrawMendSeal.E k) (fun κ s => lhOf k κ s spec_DrawMendSeal.pts) 10 b9 (unproj spec_DrawMendSeal.s10 (x0, x1, x2, x3, x4, ())) (OM.fin spec_DrawMendSeal.g Try.f9.results.toList) := by kernel_rfl
theorem spec_DrawMendSeal.h15 (k : Nat) (x0 : (List Entry)) (x1 : Int) (x2 : Config) (x3 : Mend) (x4 : Config) (x5 : Mend) (x6 : l1Cur) : (spec_DrawMendSeal.p15 (k + 1) x0 x1 x2 x3 x4 x5 x6 : Option (denR (outTys spec_DrawMendSeal.g.rts spec_DrawMendSeal.g.pms))) = evAt (spec_DrawMendSeal.E k) (fun κ s => lhOf k κ s spec_DrawMendSeal.pts) 15 b9 (unproj spec_DrawMendSeal.s15 (x0, x1, x2, x3, x4, x5, x6, ())) (OM.fin spec_DrawMendSeal.g Try.f9.results.toList) := by kernel_rfl
theorem spec_DrawMendSeal.hf (k : Nat) (a0 : (List Int)) : (spec_DrawMendSeal.f k a0 : Option (denR (outTys spec_DrawMendSeal.g.rts spec_DrawMendSeal.g.pms))) = evC (spec_DrawMendSeal.E k) (fun κ s => lhOf k κ s spec_DrawMendSeal.pts) b9 (OM.start spec_DrawMendSeal.g.pms 0 (a0, ())) (OM.fin spec_DrawMendSeal.g Try.f9.results.toList) := by kernel_rfl
theorem spec_DrawMendSeal.ok (k : Nat) : SmOk Try.prog (spec_DrawMendSeal.sm k) :=
  sm_ok mixed (E := spec_DrawMendSeal.E) (pts := spec_DrawMendSeal.pts) (fun k => ⟨⟨tysOk, by kernel_rfl⟩, forall_cons ⟨spec_l1Below.ok k, e50⟩ (forall_cons ⟨spec_l1Once.ok k, e49⟩ (forall_cons ⟨spec_l1Place.ok k, e53⟩ (forall_cons ⟨spec_PlaceOk.ok k, e52⟩ (forall_cons ⟨spec_OffOf.ok k, e54⟩ (forall_cons ⟨spec_l3Draw.ok k, e51⟩ (forall_cons ⟨spec_l9DrawOne.ok k, e48⟩ (forall_nil)))))))⟩) (fun _ => rfl) (fun _ => rfl)
    ⟨Try.func9, by kernel_rfl, by kernel_rfl, by kernel_rfl, by kernel_rfl, by kernel_rfl, by kernel_rfl⟩ (forall_cons (fun x => ⟨rfl, fun k => spec_DrawMendSeal.h10 k x.1 x.2.1 x.2.2.1 x.2.2.2.1 x.2.2.2.2.1⟩) (forall_cons (fun x => ⟨rfl, fun k => spec_DrawMendSeal.h15 k x.1 x.2.1 x.2.2.1 x.2.2.2.1 x.2.2.2.2.1 x.2.2.2.2.2.1 x.2.2.2.2.2.2.1⟩) (forall_nil))) (fun k x => spec_DrawMendSeal.hf k x.1) k
noncomputable def b67 : Code := Try.f67.body.getD .skip
theorem e67 : OM.Entry Try.prog 67 := ⟨_, Try.func67, by kernel_rfl, by kernel_rfl⟩
@[reducible] noncomputable def impl_within.g : Sig := ⟨[.fz (.int .i64), .fz (.int .i64), .fz (.int .i64)], [.v .bool .z], []⟩
@[reducible] noncomputable def impl_within.fk : Nat → denI impl_within.g.pms → Option (denR (outTys impl_within.g.rts impl_within.g.pms)) := fun k x => impl_within.f x.1 x.2.1 x.2.2.1
@[reducible] noncomputable def impl_within.sm (k : Nat) : Sm := ⟨67, impl_within.g.pms, impl_within.g.rts, impl_within.fk k⟩
noncomputable def impl_within.E (k : Nat) : Env := ⟨tys, [], [], [], []⟩
noncomputable def impl_within.pts : List (Pt (denR (outTys impl_within.g.rts impl_within.g.pms))) := []
theorem impl_within.hf (k : Nat) (a0 : Int) (a1 : Int) (a2 : Int) : (impl_within.f a0 a1 a2 : Option (denR (outTys impl_within.g.rts impl_within.g.pms))) = evC (impl_within.E k) (fun κ s => lhOf k κ s impl_within.pts) b67 (OM.start impl_within.g.pms 0 (a0, a1, a2, ())) (OM.fin impl_within.g Try.f67.results.toList) := by kernel_rfl
theorem impl_within.ok (k : Nat) : SmOk Try.prog (impl_within.sm k) :=
  sm_ok mixed (E := impl_within.E) (pts := impl_within.pts) (fun k => ⟨⟨tysOk, by kernel_rfl⟩, forall_nil⟩) (fun _ => rfl) (fun _ => rfl)
    ⟨Try.func67, by kernel_rfl, by kernel_rfl, by kernel_rfl, by kernel_rfl, by kernel_rfl, by kernel_rfl⟩ (forall_nil) (fun k x => impl_within.hf k x.1 x.2.1 x.2.2.1) k
noncomputable def b68 : Code := Try.f68.body.getD .skip
theorem e68 : OM.Entry Try.prog 68 := ⟨_, Try.func68, by kernel_rfl, by kernel_rfl⟩
@[reducible] noncomputable def impl_ConfigOk.g : Sig := ⟨[.fz tConfig], [.v .bool .z], []⟩
@[reducible] noncomputable def impl_ConfigOk.fk : Nat → denI impl_ConfigOk.g.pms → Option (denR (outTys impl_ConfigOk.g.rts impl_ConfigOk.g.pms)) := fun k x => impl_ConfigOk.f k x.1
@[reducible] noncomputable def impl_ConfigOk.sm (k : Nat) : Sm := ⟨68, impl_ConfigOk.g.pms, impl_ConfigOk.g.rts, impl_ConfigOk.fk k⟩
noncomputable def impl_ConfigOk.E (k : Nat) : Env := ⟨tys, [impl_within.sm k], [11], [], []⟩
@[reducible] noncomputable def impl_ConfigOk.s5 : List Slot := [.r 4 5 [] tConfig, .v 24 (.sl (.int .i64)) .z [] 0, .v 28 (.int .i64) .z [] 0, .v 32 (.int .i64) .z [] 0, .v 5 tConfig .z [] 0]
noncomputable def impl_ConfigOk.pts : List (Pt (denR (outTys impl_ConfigOk.g.rts impl_ConfigOk.g.pms))) := [⟨5, impl_ConfigOk.s5, fun k x => impl_ConfigOk.p5 k x.1 x.2.1 x.2.2.1 x.2.2.2.1⟩]
theorem impl_ConfigOk.h5 (k : Nat) (x0 : (List Int)) (x1 : Int) (x2 : Int) (x3 : Config) : (impl_ConfigOk.p5 (k + 1) x0 x1 x2 x3 : Option (denR (outTys impl_ConfigOk.g.rts impl_ConfigOk.g.pms))) = evAt (impl_ConfigOk.E k) (fun κ s => lhOf k κ s impl_ConfigOk.pts) 5 b68 (unproj impl_ConfigOk.s5 (x0, x1, x2, x3, ())) (OM.fin impl_ConfigOk.g Try.f68.results.toList) := by kernel_rfl
theorem impl_ConfigOk.hf (k : Nat) (a0 : Config) : (impl_ConfigOk.f k a0 : Option (denR (outTys impl_ConfigOk.g.rts impl_ConfigOk.g.pms))) = evC (impl_ConfigOk.E k) (fun κ s => lhOf k κ s impl_ConfigOk.pts) b68 (OM.start impl_ConfigOk.g.pms 0 (a0, ())) (OM.fin impl_ConfigOk.g Try.f68.results.toList) := by kernel_rfl
theorem impl_ConfigOk.ok (k : Nat) : SmOk Try.prog (impl_ConfigOk.sm k) :=
  sm_ok mixed (E := impl_ConfigOk.E) (pts := impl_ConfigOk.pts) (fun k => ⟨⟨tysOk, by kernel_rfl⟩, forall_cons ⟨impl_within.ok k, e67⟩ (forall_nil)⟩) (fun _ => rfl) (fun _ => rfl)
    ⟨Try.func68, by kernel_rfl, by kernel_rfl, by kernel_rfl, by kernel_rfl, by kernel_rfl, by kernel_rfl⟩ (forall_cons (fun x => ⟨rfl, fun k => impl_ConfigOk.h5 k x.1 x.2.1 x.2.2.1 x.2.2.2.1⟩) (forall_nil)) (fun k x => impl_ConfigOk.hf k x.1) k
noncomputable def b132 : Code := Try.f132.body.getD .skip
theorem e132 : OM.Entry Try.prog 132 := ⟨_, Try.func132, by kernel_rfl, by kernel_rfl⟩
@[reducible] noncomputable def impl_ascends.g : Sig := ⟨[.fz (.sl (.int .i64)), .fz (.int .i64)], [.v .bool .z], []⟩
@[reducible] noncomputable def impl_ascends.fk : Nat → denI impl_ascends.g.pms → Option (denR (outTys impl_ascends.g.rts impl_ascends.g.pms)) := fun k x => impl_ascends.f k x.1 x.2.1
@[reducible] noncomputable def impl_ascends.sm (k : Nat) : Sm := ⟨132, impl_ascends.g.pms, impl_ascends.g.rts, impl_ascends.fk k⟩
noncomputable def impl_ascends.E (k : Nat) : Env := ⟨tys, [impl_within.sm k], [13], [], []⟩
@[reducible] noncomputable def impl_ascends.s5 : List Slot := [.v 0 (.sl (.int .i64)) .z [] 0, .v 4 (.int .i64) .z [] 0, .v 28 (.sl (.int .i64)) .z [] 0, .v 32 (.int .i64) .z [] 0, .v 36 (.int .i64) .z [] 0]
noncomputable def impl_ascends.pts : List (Pt (denR (outTys impl_ascends.g.rts impl_ascends.g.pms))) := [⟨5, impl_ascends.s5, fun k x => impl_ascends.p5 k x.1 x.2.1 x.2.2.1 x.2.2.2.1 x.2.2.2.2.1⟩]
theorem impl_ascends.h5 (k : Nat) (x0 : (List Int)) (x1 : Int) (x2 : (List Int)) (x3 : Int) (x4 : Int) : (impl_ascends.p5 (k + 1) x0 x1 x2 x3 x4 : Option (denR (outTys impl_ascends.g.rts impl_ascends.g.pms))) = evAt (impl_ascends.E k) (fun κ s => lhOf k κ s impl_ascends.pts) 5 b132 (unproj impl_ascends.s5 (x0, x1, x2, x3, x4, ())) (OM.fin impl_ascends.g Try.f132.results.toList) := by kernel_rfl
theorem impl_ascends.hf (k : Nat) (a0 : (List Int)) (a1 : Int) : (impl_ascends.f k a0 a1 : Option (denR (outTys impl_ascends.g.rts impl_ascends.g.pms))) = evC (impl_ascends.E k) (fun κ s => lhOf k κ s impl_ascends.pts) b132 (OM.start impl_ascends.g.pms 0 (a0, a1, ())) (OM.fin impl_ascends.g Try.f132.results.toList) := by kernel_rfl
theorem impl_ascends.ok (k : Nat) : SmOk Try.prog (impl_ascends.sm k) :=
  sm_ok mixed (E := impl_ascends.E) (pts := impl_ascends.pts) (fun k => ⟨⟨tysOk, by kernel_rfl⟩, forall_cons ⟨impl_within.ok k, e67⟩ (forall_nil)⟩) (fun _ => rfl) (fun _ => rfl)
    ⟨Try.func132, by kernel_rfl, by kernel_rfl, by kernel_rfl, by kernel_rfl, by kernel_rfl, by kernel_rfl⟩ (forall_cons (fun x => ⟨rfl, fun k => impl_ascends.h5 k x.1 x.2.1 x.2.2.1 x.2.2.2.1 x.2.2.2.2.1⟩) (forall_nil)) (fun k x => impl_ascends.hf k x.1 x.2.1) k
noncomputable def b64 : Code := Try.f64.body.getD .skip
theorem e64 : OM.Entry Try.prog 64 := ⟨_, Try.func64, by kernel_rfl, by kernel_rfl⟩
@[reducible] noncomputable def impl_NodesOk.g : Sig := ⟨[.fz tConfig, .fz (.sl (.int .i64))], [.v .bool .z], []⟩
@[reducible] noncomputable def impl_NodesOk.fk : Nat → denI impl_NodesOk.g.pms → Option (denR (outTys impl_NodesOk.g.rts impl_NodesOk.g.pms)) := fun k x => impl_NodesOk.f k x.1 x.2.1
@[reducible] noncomputable def impl_NodesOk.sm (k : Nat) : Sm := ⟨64, impl_NodesOk.g.pms, impl_NodesOk.g.rts, impl_NodesOk.fk k⟩
noncomputable def impl_NodesOk.E (k : Nat) : Env := ⟨tys, [impl_ConfigOk.sm k, impl_ascends.sm k], [], [], []⟩
noncomputable def impl_NodesOk.pts : List (Pt (denR (outTys impl_NodesOk.g.rts impl_NodesOk.g.pms))) := []
theorem impl_NodesOk.hf (k : Nat) (a0 : Config) (a1 : (List Int)) : (impl_NodesOk.f k a0 a1 : Option (denR (outTys impl_NodesOk.g.rts impl_NodesOk.g.pms))) = evC (impl_NodesOk.E k) (fun κ s => lhOf k κ s impl_NodesOk.pts) b64 (OM.start impl_NodesOk.g.pms 0 (a0, a1, ())) (OM.fin impl_NodesOk.g Try.f64.results.toList) := by kernel_rfl
theorem impl_NodesOk.ok (k : Nat) : SmOk Try.prog (impl_NodesOk.sm k) :=
  sm_ok mixed (E := impl_NodesOk.E) (pts := impl_NodesOk.pts) (fun k => ⟨⟨tysOk, by kernel_rfl⟩, forall_cons ⟨impl_ConfigOk.ok k, e68⟩ (forall_cons ⟨impl_ascends.ok k, e132⟩ (forall_nil))⟩) (fun _ => rfl) (fun _ => rfl)
    ⟨Try.func64, by kernel_rfl, by kernel_rfl, by kernel_rfl, by kernel_rfl, by kernel_rfl, by kernel_rfl⟩ (forall_nil) (fun k x => impl_NodesOk.hf k x.1 x.2.1) k
noncomputable def b66 : Code := Try.f66.body.getD .skip
theorem e66 : OM.Entry Try.prog 66 := ⟨_, Try.func66, by kernel_rfl, by kernel_rfl⟩
@[reducible] noncomputable def impl_isEpoch.g : Sig := ⟨[.fz (.int .i64)], [.v .bool .z], []⟩
@[reducible] noncomputable def impl_isEpoch.fk : Nat → denI impl_isEpoch.g.pms → Option (denR (outTys impl_isEpoch.g.rts impl_isEpoch.g.pms)) := fun k x => impl_isEpoch.f x.1
@[reducible] noncomputable def impl_isEpoch.sm (k : Nat) : Sm := ⟨66, impl_isEpoch.g.pms, impl_isEpoch.g.rts, impl_isEpoch.fk k⟩
noncomputable def impl_isEpoch.E (k : Nat) : Env := ⟨tys, [impl_within.sm k], [], [], []⟩
noncomputable def impl_isEpoch.pts : List (Pt (denR (outTys impl_isEpoch.g.rts impl_isEpoch.g.pms))) := []
theorem impl_isEpoch.hf (k : Nat) (a0 : Int) : (impl_isEpoch.f a0 : Option (denR (outTys impl_isEpoch.g.rts impl_isEpoch.g.pms))) = evC (impl_isEpoch.E k) (fun κ s => lhOf k κ s impl_isEpoch.pts) b66 (OM.start impl_isEpoch.g.pms 0 (a0, ())) (OM.fin impl_isEpoch.g Try.f66.results.toList) := by kernel_rfl
theorem impl_isEpoch.ok (k : Nat) : SmOk Try.prog (impl_isEpoch.sm k) :=
  sm_ok mixed (E := impl_isEpoch.E) (pts := impl_isEpoch.pts) (fun k => ⟨⟨tysOk, by kernel_rfl⟩, forall_cons ⟨impl_within.ok k, e67⟩ (forall_nil)⟩) (fun _ => rfl) (fun _ => rfl)
    ⟨Try.func66, by kernel_rfl, by kernel_rfl, by kernel_rfl, by kernel_rfl, by kernel_rfl, by kernel_rfl⟩ (forall_nil) (fun k x => impl_isEpoch.hf k x.1) k
noncomputable def b131 : Code := Try.f131.body.getD .skip
theorem e131 : OM.Entry Try.prog 131 := ⟨_, Try.func131, by kernel_rfl, by kernel_rfl⟩
@[reducible] noncomputable def impl_isOff.g : Sig := ⟨[.fz (.int .i64)], [.v .bool .z], []⟩
@[reducible] noncomputable def impl_isOff.fk : Nat → denI impl_isOff.g.pms → Option (denR (outTys impl_isOff.g.rts impl_isOff.g.pms)) := fun k x => impl_isOff.f x.1
@[reducible] noncomputable def impl_isOff.sm (k : Nat) : Sm := ⟨131, impl_isOff.g.pms, impl_isOff.g.rts, impl_isOff.fk k⟩
noncomputable def impl_isOff.E (k : Nat) : Env := ⟨tys, [impl_within.sm k], [], [], []⟩
noncomputable def impl_isOff.pts : List (Pt (denR (outTys impl_isOff.g.rts impl_isOff.g.pms))) := []
theorem impl_isOff.hf (k : Nat) (a0 : Int) : (impl_isOff.f a0 : Option (denR (outTys impl_isOff.g.rts impl_isOff.g.pms))) = evC (impl_isOff.E k) (fun κ s => lhOf k κ s impl_isOff.pts) b131 (OM.start impl_isOff.g.pms 0 (a0, ())) (OM.fin impl_isOff.g Try.f131.results.toList) := by kernel_rfl
theorem impl_isOff.ok (k : Nat) : SmOk Try.prog (impl_isOff.sm k) :=
  sm_ok mixed (E := impl_isOff.E) (pts := impl_isOff.pts) (fun k => ⟨⟨tysOk, by kernel_rfl⟩, forall_cons ⟨impl_within.ok k, e67⟩ (forall_nil)⟩) (fun _ => rfl) (fun _ => rfl)
    ⟨Try.func131, by kernel_rfl, by kernel_rfl, by kernel_rfl, by kernel_rfl, by kernel_rfl, by kernel_rfl⟩ (forall_nil) (fun k x => impl_isOff.hf k x.1) k
noncomputable def b63 : Code := Try.f63.body.getD .skip
theorem e63 : OM.Entry Try.prog 63 := ⟨_, Try.func63, by kernel_rfl, by kernel_rfl⟩
@[reducible] noncomputable def impl_PlaceOk.g : Sig := ⟨[.fz (.int .i64)], [.v .bool .z], []⟩
@[reducible] noncomputable def impl_PlaceOk.fk : Nat → denI impl_PlaceOk.g.pms → Option (denR (outTys impl_PlaceOk.g.rts impl_PlaceOk.g.pms)) := fun k x => impl_PlaceOk.f x.1
@[reducible] noncomputable def impl_PlaceOk.sm (k : Nat) : Sm := ⟨63, impl_PlaceOk.g.pms, impl_PlaceOk.g.rts, impl_PlaceOk.fk k⟩
noncomputable def impl_PlaceOk.E (k : Nat) : Env := ⟨tys, [impl_isEpoch.sm k, impl_isOff.sm k], [], [], []⟩
noncomputable def impl_PlaceOk.pts : List (Pt (denR (outTys impl_PlaceOk.g.rts impl_PlaceOk.g.pms))) := []
theorem impl_PlaceOk.hf (k : Nat) (a0 : Int) : (impl_PlaceOk.f a0 : Option (denR (outTys impl_PlaceOk.g.rts impl_PlaceOk.g.pms))) = evC (impl_PlaceOk.E k) (fun κ s => lhOf k κ s impl_PlaceOk.pts) b63 (OM.start impl_PlaceOk.g.pms 0 (a0, ())) (OM.fin impl_PlaceOk.g Try.f63.results.toList) := by kernel_rfl
theorem impl_PlaceOk.ok (k : Nat) : SmOk Try.prog (impl_PlaceOk.sm k) :=
  sm_ok mixed (E := impl_PlaceOk.E) (pts := impl_PlaceOk.pts) (fun k => ⟨⟨tysOk, by kernel_rfl⟩, forall_cons ⟨impl_isEpoch.ok k, e66⟩ (forall_cons ⟨impl_isOff.ok k, e131⟩ (forall_nil))⟩) (fun _ => rfl) (fun _ => rfl)
    ⟨Try.func63, by kernel_rfl, by kernel_rfl, by kernel_rfl, by kernel_rfl, by kernel_rfl, by kernel_rfl⟩ (forall_nil) (fun k x => impl_PlaceOk.hf k x.1) k
noncomputable def b28 : Code := Try.f28.body.getD .skip
theorem e28 : OM.Entry Try.prog 28 := ⟨_, Try.func28, by kernel_rfl, by kernel_rfl⟩
@[reducible] noncomputable def impl_OffOf.g : Sig := ⟨[.fz (.int .i64)], [.v (.int .i64) .z], []⟩
@[reducible] noncomputable def impl_OffOf.fk : Nat → denI impl_OffOf.g.pms → Option (denR (outTys impl_OffOf.g.rts impl_OffOf.g.pms)) := fun k x => impl_OffOf.f x.1
@[reducible] noncomputable def impl_OffOf.sm (k : Nat) : Sm := ⟨28, impl_OffOf.g.pms, impl_OffOf.g.rts, impl_OffOf.fk k⟩
noncomputable def impl_OffOf.E (k : Nat) : Env := ⟨tys, [impl_PlaceOk.sm k], [], [], []⟩
noncomputable def impl_OffOf.pts : List (Pt (denR (outTys impl_OffOf.g.rts impl_OffOf.g.pms))) := []
theorem impl_OffOf.hf (k : Nat) (a0 : Int) : (impl_OffOf.f a0 : Option (denR (outTys impl_OffOf.g.rts impl_OffOf.g.pms))) = evC (impl_OffOf.E k) (fun κ s => lhOf k κ s impl_OffOf.pts) b28 (OM.start impl_OffOf.g.pms 0 (a0, ())) (OM.fin impl_OffOf.g Try.f28.results.toList) := by kernel_rfl
theorem impl_OffOf.ok (k : Nat) : SmOk Try.prog (impl_OffOf.sm k) :=
  sm_ok mixed (E := impl_OffOf.E) (pts := impl_OffOf.pts) (fun k => ⟨⟨tysOk, by kernel_rfl⟩, forall_cons ⟨impl_PlaceOk.ok k, e63⟩ (forall_nil)⟩) (fun _ => rfl) (fun _ => rfl)
    ⟨Try.func28, by kernel_rfl, by kernel_rfl, by kernel_rfl, by kernel_rfl, by kernel_rfl, by kernel_rfl⟩ (forall_nil) (fun k x => impl_OffOf.hf k x.1) k
noncomputable def b65 : Code := Try.f65.body.getD .skip
theorem e65 : OM.Entry Try.prog 65 := ⟨_, Try.func65, by kernel_rfl, by kernel_rfl⟩
@[reducible] noncomputable def impl_lastOff.g : Sig := ⟨[.fz tMend], [.v (.int .i64) .z], []⟩
@[reducible] noncomputable def impl_lastOff.fk : Nat → denI impl_lastOff.g.pms → Option (denR (outTys impl_lastOff.g.rts impl_lastOff.g.pms)) := fun k x => impl_lastOff.f x.1
@[reducible] noncomputable def impl_lastOff.sm (k : Nat) : Sm := ⟨65, impl_lastOff.g.pms, impl_lastOff.g.rts, impl_lastOff.fk k⟩
noncomputable def impl_lastOff.E (k : Nat) : Env := ⟨tys, [impl_OffOf.sm k], [], [], []⟩
noncomputable def impl_lastOff.pts : List (Pt (denR (outTys impl_lastOff.g.rts impl_lastOff.g.pms))) := []
theorem impl_lastOff.hf (k : Nat) (a0 : Mend) : (impl_lastOff.f a0 : Option (denR (outTys impl_lastOff.g.rts impl_lastOff.g.pms))) = evC (impl_lastOff.E k) (fun κ s => lhOf k κ s impl_lastOff.pts) b65 (OM.start impl_lastOff.g.pms 0 (a0, ())) (OM.fin impl_lastOff.g Try.f65.results.toList) := by kernel_rfl
theorem impl_lastOff.ok (k : Nat) : SmOk Try.prog (impl_lastOff.sm k) :=
  sm_ok mixed (E := impl_lastOff.E) (pts := impl_lastOff.pts) (fun k => ⟨⟨tysOk, by kernel_rfl⟩, forall_cons ⟨impl_OffOf.ok k, e28⟩ (forall_nil)⟩) (fun _ => rfl) (fun _ => rfl)
    ⟨Try.func65, by kernel_rfl, by kernel_rfl, by kernel_rfl, by kernel_rfl, by kernel_rfl, by kernel_rfl⟩ (forall_nil) (fun k x => impl_lastOff.hf k x.1) k
noncomputable def b98 : Code := Try.f98.body.getD .skip
theorem e98 : OM.Entry Try.prog 98 := ⟨_, Try.func98, by kernel_rfl, by kernel_rfl⟩
@[reducible] noncomputable def impl_dataOk.g : Sig := ⟨[.fz .str], [.v .bool .z], []⟩
@[reducible] noncomputable def impl_dataOk.fk : Nat → denI impl_dataOk.g.pms → Option (denR (outTys impl_dataOk.g.rts impl_dataOk.g.pms)) := fun k x => impl_dataOk.f x.1
@[reducible] noncomputable def impl_dataOk.sm (k : Nat) : Sm := ⟨98, impl_dataOk.g.pms, impl_dataOk.g.rts, impl_dataOk.fk k⟩
noncomputable def impl_dataOk.E (k : Nat) : Env := ⟨tys, [], [], [], []⟩
noncomputable def impl_dataOk.pts : List (Pt (denR (outTys impl_dataOk.g.rts impl_dataOk.g.pms))) := []
theorem impl_dataOk.hf (k : Nat) (a0 : ByteArray) : (impl_dataOk.f a0 : Option (denR (outTys impl_dataOk.g.rts impl_dataOk.g.pms))) = evC (impl_dataOk.E k) (fun κ s => lhOf k κ s impl_dataOk.pts) b98 (OM.start impl_dataOk.g.pms 0 (a0, ())) (OM.fin impl_dataOk.g Try.f98.results.toList) := by kernel_rfl
theorem impl_dataOk.ok (k : Nat) : SmOk Try.prog (impl_dataOk.sm k) :=
  sm_ok mixed (E := impl_dataOk.E) (pts := impl_dataOk.pts) (fun k => ⟨⟨tysOk, by kernel_rfl⟩, forall_nil⟩) (fun _ => rfl) (fun _ => rfl)
    ⟨Try.func98, by kernel_rfl, by kernel_rfl, by kernel_rfl, by kernel_rfl, by kernel_rfl, by kernel_rfl⟩ (forall_nil) (fun k x => impl_dataOk.hf k x.1) k
noncomputable def b12 : Code := Try.f12.body.getD .skip
theorem e12 : OM.Entry Try.prog 12 := ⟨_, Try.func12, by kernel_rfl, by kernel_rfl⟩
@[reducible] noncomputable def impl_EpochOf.g : Sig := ⟨[.fz (.int .i64)], [.v (.int .i64) .z], []⟩
@[reducible] noncomputable def impl_EpochOf.fk : Nat → denI impl_EpochOf.g.pms → Option (denR (outTys impl_EpochOf.g.rts impl_EpochOf.g.pms)) := fun k x => impl_EpochOf.f x.1
@[reducible] noncomputable def impl_EpochOf.sm (k : Nat) : Sm := ⟨12, impl_EpochOf.g.pms, impl_EpochOf.g.rts, impl_EpochOf.fk k⟩
noncomputable def impl_EpochOf.E (k : Nat) : Env := ⟨tys, [impl_PlaceOk.sm k], [], [], []⟩
noncomputable def impl_EpochOf.pts : List (Pt (denR (outTys impl_EpochOf.g.rts impl_EpochOf.g.pms))) := []
theorem impl_EpochOf.hf (k : Nat) (a0 : Int) : (impl_EpochOf.f a0 : Option (denR (outTys impl_EpochOf.g.rts impl_EpochOf.g.pms))) = evC (impl_EpochOf.E k) (fun κ s => lhOf k κ s impl_EpochOf.pts) b12 (OM.start impl_EpochOf.g.pms 0 (a0, ())) (OM.fin impl_EpochOf.g Try.f12.results.toList) := by kernel_rfl
theorem impl_EpochOf.ok (k : Nat) : SmOk Try.prog (impl_EpochOf.sm k) :=
  sm_ok mixed (E := impl_EpochOf.E) (pts := impl_EpochOf.pts) (fun k => ⟨⟨tysOk, by kernel_rfl⟩, forall_cons ⟨impl_PlaceOk.ok k, e63⟩ (forall_nil)⟩) (fun _ => rfl) (fun _ => rfl)
    ⟨Try.func12, by kernel_rfl, by kernel_rfl, by kernel_rfl, by kernel_rfl, by kernel_rfl, by kernel_rfl⟩ (forall_nil) (fun k x => impl_EpochOf.hf k x.1) k
noncomputable def b26 : Code := Try.f26.body.getD .skip
theorem e26 : OM.Entry Try.prog 26 := ⟨_, Try.func26, by kernel_rfl, by kernel_rfl⟩
@[reducible] noncomputable def impl_EntryOk.g : Sig := ⟨[.fz tEntry], [.v .bool .z], []⟩
@[reducible] noncomputable def impl_EntryOk.fk : Nat → denI impl_EntryOk.g.pms → Option (denR (outTys impl_EntryOk.g.rts impl_EntryOk.g.pms)) := fun k x => impl_EntryOk.f k x.1
@[reducible] noncomputable def impl_EntryOk.sm (k : Nat) : Sm := ⟨26, impl_EntryOk.g.pms, impl_EntryOk.g.rts, impl_EntryOk.fk k⟩
noncomputable def impl_EntryOk.E (k : Nat) : Env := ⟨tys, [impl_within.sm k, impl_PlaceOk.sm k, impl_dataOk.sm k, impl_EpochOf.sm k], [], [2, 3], []⟩
@[reducible] noncomputable def impl_EntryOk.s4 : List Slot := [.r 4 5 [] tEntry, .v 12 .bool .z [] 0, .v 5 tEntry .z [] 0]
@[reducible] noncomputable def impl_EntryOk.s6 : List Slot := [.r 4 5 [] tEntry, .v 12 .bool .z [] 0, .v 16 .bool .z [] 0, .v 5 tEntry .z [] 0]
noncomputable def impl_EntryOk.pts : List (Pt (denR (outTys impl_EntryOk.g.rts impl_EntryOk.g.pms))) := [⟨4, impl_EntryOk.s4, fun k x => impl_EntryOk.p4 k x.1 x.2.1⟩, ⟨6, impl_EntryOk.s6, fun k x => impl_EntryOk.p6 k x.1 x.2.1 x.2.2.1⟩]
theorem impl_EntryOk.h4 (k : Nat) (x0 : Bool) (x1 : Entry) : (impl_EntryOk.p4 (k + 1) x0 x1 : Option (denR (outTys impl_EntryOk.g.rts impl_EntryOk.g.pms))) = evAt (impl_EntryOk.E k) (fun κ s => lhOf k κ s impl_EntryOk.pts) 4 b26 (unproj impl_EntryOk.s4 (x0, x1, ())) (OM.fin impl_EntryOk.g Try.f26.results.toList) := by kernel_rfl
theorem impl_EntryOk.h6 (k : Nat) (x0 : Bool) (x1 : Bool) (x2 : Entry) : (impl_EntryOk.p6 (k + 1) x0 x1 x2 : Option (denR (outTys impl_EntryOk.g.rts impl_EntryOk.g.pms))) = evAt (impl_EntryOk.E k) (fun κ s => lhOf k κ s impl_EntryOk.pts) 6 b26 (unproj impl_EntryOk.s6 (x0, x1, x2, ())) (OM.fin impl_EntryOk.g Try.f26.results.toList) := by kernel_rfl
theorem impl_EntryOk.hf (k : Nat) (a0 : Entry) : (impl_EntryOk.f k a0 : Option (denR (outTys impl_EntryOk.g.rts impl_EntryOk.g.pms))) = evC (impl_EntryOk.E k) (fun κ s => lhOf k κ s impl_EntryOk.pts) b26 (OM.start impl_EntryOk.g.pms 0 (a0, ())) (OM.fin impl_EntryOk.g Try.f26.results.toList) := by kernel_rfl
theorem impl_EntryOk.ok (k : Nat) : SmOk Try.prog (impl_EntryOk.sm k) :=
  sm_ok mixed (E := impl_EntryOk.E) (pts := impl_EntryOk.pts) (fun k => ⟨⟨tysOk, by kernel_rfl⟩, forall_cons ⟨impl_within.ok k, e67⟩ (forall_cons ⟨impl_PlaceOk.ok k, e63⟩ (forall_cons ⟨impl_dataOk.ok k, e98⟩ (forall_cons ⟨impl_EpochOf.ok k, e12⟩ (forall_nil))))⟩) (fun _ => rfl) (fun _ => rfl)
    ⟨Try.func26, by kernel_rfl, by kernel_rfl, by kernel_rfl, by kernel_rfl, by kernel_rfl, by kernel_rfl⟩ (forall_cons (fun x => ⟨rfl, fun k => impl_EntryOk.h4 k x.1 x.2.1⟩) (forall_cons (fun x => ⟨rfl, fun k => impl_EntryOk.h6 k x.1 x.2.1 x.2.2.1⟩) (forall_nil))) (fun k x => impl_EntryOk.hf k x.1) k
noncomputable def b133 : Code := Try.f133.body.getD .skip
theorem e133 : OM.Entry Try.prog 133 := ⟨_, Try.func133, by kernel_rfl, by kernel_rfl⟩
@[reducible] noncomputable def impl_placesAscend.g : Sig := ⟨[.fz (.sl tEntry)], [.v .bool .z], []⟩
@[reducible] noncomputable def impl_placesAscend.fk : Nat → denI impl_placesAscend.g.pms → Option (denR (outTys impl_placesAscend.g.rts impl_placesAscend.g.pms)) := fun k x => impl_placesAscend.f k x.1
@[reducible] noncomputable def impl_placesAscend.sm (k : Nat) : Sm := ⟨133, impl_placesAscend.g.pms, impl_placesAscend.g.rts, impl_placesAscend.fk k⟩
noncomputable def impl_placesAscend.E (k : Nat) : Env := ⟨tys, [], [11], [], []⟩
@[reducible] noncomputable def impl_placesAscend.s5 : List Slot := [.v 0 (.sl tEntry) .z [] 0, .v 20 (.sl tEntry) .z [] 0, .v 24 (.int .i64) .z [] 0, .v 28 (.int .i64) .z [] 0]
noncomputable def impl_placesAscend.pts : List (Pt (denR (outTys impl_placesAscend.g.rts impl_placesAscend.g.pms))) := [⟨5, impl_placesAscend.s5, fun k x => impl_placesAscend.p5 k x.1 x.2.1 x.2.2.1 x.2.2.2.1⟩]
theorem impl_placesAscend.h5 (k : Nat) (x0 : (List Entry)) (x1 : (List Entry)) (x2 : Int) (x3 : Int) : (impl_placesAscend.p5 (k + 1) x0 x1 x2 x3 : Option (denR (outTys impl_placesAscend.g.rts impl_placesAscend.g.pms))) = evAt (impl_placesAscend.E k) (fun κ s => lhOf k κ s impl_placesAscend.pts) 5 b133 (unproj impl_placesAscend.s5 (x0, x1, x2, x3, ())) (OM.fin impl_placesAscend.g Try.f133.results.toList) := by kernel_rfl
theorem impl_placesAscend.hf (k : Nat) (a0 : (List Entry)) : (impl_placesAscend.f k a0 : Option (denR (outTys impl_placesAscend.g.rts impl_placesAscend.g.pms))) = evC (impl_placesAscend.E k) (fun κ s => lhOf k κ s impl_placesAscend.pts) b133 (OM.start impl_placesAscend.g.pms 0 (a0, ())) (OM.fin impl_placesAscend.g Try.f133.results.toList) := by kernel_rfl
theorem impl_placesAscend.ok (k : Nat) : SmOk Try.prog (impl_placesAscend.sm k) :=
  sm_ok mixed (E := impl_placesAscend.E) (pts := impl_placesAscend.pts) (fun k => ⟨⟨tysOk, by kernel_rfl⟩, forall_nil⟩) (fun _ => rfl) (fun _ => rfl)
    ⟨Try.func133, by kernel_rfl, by kernel_rfl, by kernel_rfl, by kernel_rfl, by kernel_rfl, by kernel_rfl⟩ (forall_cons (fun x => ⟨rfl, fun k => impl_placesAscend.h5 k x.1 x.2.1 x.2.2.1 x.2.2.2.1⟩) (forall_nil)) (fun k x => impl_placesAscend.hf k x.1) k
noncomputable def b69 : Code := Try.f69.body.getD .skip
theorem e69 : OM.Entry Try.prog 69 := ⟨_, Try.func69, by kernel_rfl, by kernel_rfl⟩
@[reducible] noncomputable def impl_seenOk.g : Sig := ⟨[.fz tMend], [.v .bool .z], []⟩
@[reducible] noncomputable def impl_seenOk.fk : Nat → denI impl_seenOk.g.pms → Option (denR (outTys impl_seenOk.g.rts impl_seenOk.g.pms)) := fun k x => impl_seenOk.f k x.1
@[reducible] noncomputable def impl_seenOk.sm (k : Nat) : Sm := ⟨69, impl_seenOk.g.pms, impl_seenOk.g.rts, impl_seenOk.fk k⟩
noncomputable def impl_seenOk.E (k : Nat) : Env := ⟨tys, [impl_EpochOf.sm k, impl_EntryOk.sm k, impl_placesAscend.sm k], [11], [], []⟩
@[reducible] noncomputable def impl_seenOk.s5 : List Slot := [.r 4 5 [] tMend, .v 24 (.sl tEntry) .z [] 0, .v 28 (.int .i64) .z [] 0, .v 32 (.int .i64) .z [] 0, .v 5 tMend .z [] 0]
noncomputable def impl_seenOk.pts : List (Pt (denR (outTys impl_seenOk.g.rts impl_seenOk.g.pms))) := [⟨5, impl_seenOk.s5, fun k x => impl_seenOk.p5 k x.1 x.2.1 x.2.2.1 x.2.2.2.1⟩]
theorem impl_seenOk.h5 (k : Nat) (x0 : (List Entry)) (x1 : Int) (x2 : Int) (x3 : Mend) : (impl_seenOk.p5 (k + 1) x0 x1 x2 x3 : Option (denR (outTys impl_seenOk.g.rts impl_seenOk.g.pms))) = evAt (impl_seenOk.E k) (fun κ s => lhOf k κ s impl_seenOk.pts) 5 b69 (unproj impl_seenOk.s5 (x0, x1, x2, x3, ())) (OM.fin impl_seenOk.g Try.f69.results.toList) := by kernel_rfl
theorem impl_seenOk.hf (k : Nat) (a0 : Mend) : (impl_seenOk.f k a0 : Option (denR (outTys impl_seenOk.g.rts impl_seenOk.g.pms))) = evC (impl_seenOk.E k) (fun κ s => lhOf k κ s impl_seenOk.pts) b69 (OM.start impl_seenOk.g.pms 0 (a0, ())) (OM.fin impl_seenOk.g Try.f69.results.toList) := by kernel_rfl
theorem impl_seenOk.ok (k : Nat) : SmOk Try.prog (impl_seenOk.sm k) :=
  sm_ok mixed (E := impl_seenOk.E) (pts := impl_seenOk.pts) (fun k => ⟨⟨tysOk, by kernel_rfl⟩, forall_cons ⟨impl_EpochOf.ok k, e12⟩ (forall_cons ⟨impl_EntryOk.ok k, e26⟩ (forall_cons ⟨impl_placesAscend.ok k, e133⟩ (forall_nil)))⟩) (fun _ => rfl) (fun _ => rfl)
    ⟨Try.func69, by kernel_rfl, by kernel_rfl, by kernel_rfl, by kernel_rfl, by kernel_rfl, by kernel_rfl⟩ (forall_cons (fun x => ⟨rfl, fun k => impl_seenOk.h5 k x.1 x.2.1 x.2.2.1 x.2.2.2.1⟩) (forall_nil)) (fun k x => impl_seenOk.hf k x.1) k
noncomputable def b14 : Code := Try.f14.body.getD .skip
theorem e14 : OM.Entry Try.prog 14 := ⟨_, Try.func14, by kernel_rfl, by kernel_rfl⟩
@[reducible] noncomputable def impl_MendOk.g : Sig := ⟨[.fz tConfig, .fz tMend], [.v .bool .z], []⟩
@[reducible] noncomputable def impl_MendOk.fk : Nat → denI impl_MendOk.g.pms → Option (denR (outTys impl_MendOk.g.rts impl_MendOk.g.pms)) := fun k x => impl_MendOk.f k x.1 x.2.1
@[reducible] noncomputable def impl_MendOk.sm (k : Nat) : Sm := ⟨14, impl_MendOk.g.pms, impl_MendOk.g.rts, impl_MendOk.fk k⟩
noncomputable def impl_MendOk.E (k : Nat) : Env := ⟨tys, [impl_within.sm k, impl_ConfigOk.sm k, impl_NodesOk.sm k, impl_isEpoch.sm k, impl_lastOff.sm k, impl_seenOk.sm k], [15], [10, 11], []⟩
@[reducible] noncomputable def impl_MendOk.s5 : List Slot := [.r 8 9 [] tConfig, .r 12 13 [] tMend, .v 40 (.sl (.sl (.int .i64))) .z [] 0, .v 44 (.int .i64) .z [] 0, .v 48 (.int .i64) .z [] 0, .v 9 tConfig .z [] 0, .v 13 tMend .z [] 0]
@[reducible] noncomputable def impl_MendOk.s20 : List Slot := [.r 8 9 [] tConfig, .r 12 13 [] tMend, .v 28 (.int .i64) .z [] 0, .v 9 tConfig .z [] 0, .v 13 tMend .z [] 0]
@[reducible] noncomputable def impl_MendOk.s22 : List Slot := [.r 8 9 [] tConfig, .r 12 13 [] tMend, .v 28 (.int .i64) .z [] 0, .v 32 .bool .z [] 0, .v 9 tConfig .z [] 0, .v 13 tMend .z [] 0]
noncomputable def impl_MendOk.pts : List (Pt (denR (outTys impl_MendOk.g.rts impl_MendOk.g.pms))) := [⟨5, impl_MendOk.s5, fun k x => impl_MendOk.p5 k x.1 x.2.1 x.2.2.1 x.2.2.2.1 x.2.2.2.2.1⟩, ⟨20, impl_MendOk.s20, fun k x => impl_MendOk.p20 k x.1 x.2.1 x.2.2.1⟩, ⟨22, impl_MendOk.s22, fun k x => impl_MendOk.p22 k x.1 x.2.1 x.2.2.1 x.2.2.2.1⟩]
theorem impl_MendOk.h5 (k : Nat) (x0 : (List (List Int))) (x1 : Int) (x2 : Int) (x3 : Config) (x4 : Mend) : (impl_MendOk.p5 (k + 1) x0 x1 x2 x3 x4 : Option (denR (outTys impl_MendOk.g.rts impl_MendOk.g.pms))) = evAt (impl_MendOk.E k) (fun κ s => lhOf k κ s impl_MendOk.pts) 5 b14 (unproj impl_MendOk.s5 (x0, x1, x2, x3, x4, ())) (OM.fin impl_MendOk.g Try.f14.results.toList) := by kernel_rfl
theorem impl_MendOk.h20 (k : Nat) (x0 : Int) (x1 : Config) (x2 : Mend) : (impl_MendOk.p20 (k + 1) x0 x1 x2 : Option (denR (outTys impl_MendOk.g.rts impl_MendOk.g.pms))) = evAt (impl_MendOk.E k) (fun κ s => lhOf k κ s impl_MendOk.pts) 20 b14 (unproj impl_MendOk.s20 (x0, x1, x2, ())) (OM.fin impl_MendOk.g Try.f14.results.toList) := by kernel_rfl
theorem impl_MendOk.h22 (k : Nat) (x0 : Int) (x1 : Bool) (x2 : Config) (x3 : Mend) : (impl_MendOk.p22 (k + 1) x0 x1 x2 x3 : Option (denR (outTys impl_MendOk.g.rts impl_MendOk.g.pms))) = evAt (impl_MendOk.E k) (fun κ s => lhOf k κ s impl_MendOk.pts) 22 b14 (unproj impl_MendOk.s22 (x0, x1, x2, x3, ())) (OM.fin impl_MendOk.g Try.f14.results.toList) := by kernel_rfl
theorem impl_MendOk.hf (k : Nat) (a0 : Config) (a1 : Mend) : (impl_MendOk.f k a0 a1 : Option (denR (outTys impl_MendOk.g.rts impl_MendOk.g.pms))) = evC (impl_MendOk.E k) (fun κ s => lhOf k κ s impl_MendOk.pts) b14 (OM.start impl_MendOk.g.pms 0 (a0, a1, ())) (OM.fin impl_MendOk.g Try.f14.results.toList) := by kernel_rfl
theorem impl_MendOk.ok (k : Nat) : SmOk Try.prog (impl_MendOk.sm k) :=
  sm_ok mixed (E := impl_MendOk.E) (pts := impl_MendOk.pts) (fun k => ⟨⟨tysOk, by kernel_rfl⟩, forall_cons ⟨impl_within.ok k, e67⟩ (forall_cons ⟨impl_ConfigOk.ok k, e68⟩ (forall_cons ⟨impl_NodesOk.ok k, e64⟩ (forall_cons ⟨impl_isEpoch.ok k, e66⟩ (forall_cons ⟨impl_lastOff.ok k, e65⟩ (forall_cons ⟨impl_seenOk.ok k, e69⟩ (forall_nil))))))⟩) (fun _ => rfl) (fun _ => rfl)
    ⟨Try.func14, by kernel_rfl, by kernel_rfl, by kernel_rfl, by kernel_rfl, by kernel_rfl, by kernel_rfl⟩ (forall_cons (fun x => ⟨rfl, fun k => impl_MendOk.h5 k x.1 x.2.1 x.2.2.1 x.2.2.2.1 x.2.2.2.2.1⟩) (forall_cons (fun x => ⟨rfl, fun k => impl_MendOk.h20 k x.1 x.2.1 x.2.2.1⟩) (forall_cons (fun x => ⟨rfl, fun k => impl_MendOk.h22 k x.1 x.2.1 x.2.2.1 x.2.2.2.1⟩) (forall_nil)))) (fun k x => impl_MendOk.hf k x.1 x.2.1) k
noncomputable def b97 : Code := Try.f97.body.getD .skip
theorem e97 : OM.Entry Try.prog 97 := ⟨_, Try.func97, by kernel_rfl, by kernel_rfl⟩
@[reducible] noncomputable def impl_copyInts.g : Sig := ⟨[.fz (.sl (.int .i64))], [.v (.sl (.int .i64)) (.own .z)], []⟩
@[reducible] noncomputable def impl_copyInts.fk : Nat → denI impl_copyInts.g.pms → Option (denR (outTys impl_copyInts.g.rts impl_copyInts.g.pms)) := fun k x => impl_copyInts.f x.1
@[reducible] noncomputable def impl_copyInts.sm (k : Nat) : Sm := ⟨97, impl_copyInts.g.pms, impl_copyInts.g.rts, impl_copyInts.fk k⟩
noncomputable def impl_copyInts.E (k : Nat) : Env := ⟨tys, [], [4], [], []⟩
noncomputable def impl_copyInts.pts : List (Pt (denR (outTys impl_copyInts.g.rts impl_copyInts.g.pms))) := []
theorem impl_copyInts.hf (k : Nat) (a0 : (List Int)) : (impl_copyInts.f a0 : Option (denR (outTys impl_copyInts.g.rts impl_copyInts.g.pms))) = evC (impl_copyInts.E k) (fun κ s => lhOf k κ s impl_copyInts.pts) b97 (OM.start impl_copyInts.g.pms 0 (a0, ())) (OM.fin impl_copyInts.g Try.f97.results.toList) := by kernel_rfl
theorem impl_copyInts.ok (k : Nat) : SmOk Try.prog (impl_copyInts.sm k) :=
  sm_ok mixed (E := impl_copyInts.E) (pts := impl_copyInts.pts) (fun k => ⟨⟨tysOk, by kernel_rfl⟩, forall_nil⟩) (fun _ => rfl) (fun _ => rfl)
    ⟨Try.func97, by kernel_rfl, by kernel_rfl, by kernel_rfl, by kernel_rfl, by kernel_rfl, by kernel_rfl⟩ (forall_nil) (fun k x => impl_copyInts.hf k x.1) k
noncomputable def b123 : Code := Try.f123.body.getD .skip
theorem e123 : OM.Entry Try.prog 123 := ⟨_, Try.func123, by kernel_rfl, by kernel_rfl⟩
@[reducible] noncomputable def impl_copyEntries.g : Sig := ⟨[.fz (.sl tEntry)], [.v (.sl tEntry) (.own .z)], []⟩
@[reducible] noncomputable def impl_copyEntries.fk : Nat → denI impl_copyEntries.g.pms → Option (denR (outTys impl_copyEntries.g.rts impl_copyEntries.g.pms)) := fun k x => impl_copyEntries.f x.1
@[reducible] noncomputable def impl_copyEntries.sm (k : Nat) : Sm := ⟨123, impl_copyEntries.g.pms, impl_copyEntries.g.rts, impl_copyEntries.fk k⟩
noncomputable def impl_copyEntries.E (k : Nat) : Env := ⟨tys, [], [4], [], []⟩
noncomputable def impl_copyEntries.pts : List (Pt (denR (outTys impl_copyEntries.g.rts impl_copyEntries.g.pms))) := []
theorem impl_copyEntries.hf (k : Nat) (a0 : (List Entry)) : (impl_copyEntries.f a0 : Option (denR (outTys impl_copyEntries.g.rts impl_copyEntries.g.pms))) = evC (impl_copyEntries.E k) (fun κ s => lhOf k κ s impl_copyEntries.pts) b123 (OM.start impl_copyEntries.g.pms 0 (a0, ())) (OM.fin impl_copyEntries.g Try.f123.results.toList) := by kernel_rfl
theorem impl_copyEntries.ok (k : Nat) : SmOk Try.prog (impl_copyEntries.sm k) :=
  sm_ok mixed (E := impl_copyEntries.E) (pts := impl_copyEntries.pts) (fun k => ⟨⟨tysOk, by kernel_rfl⟩, forall_nil⟩) (fun _ => rfl) (fun _ => rfl)
    ⟨Try.func123, by kernel_rfl, by kernel_rfl, by kernel_rfl, by kernel_rfl, by kernel_rfl, by kernel_rfl⟩ (forall_nil) (fun k x => impl_copyEntries.hf k x.1) k
noncomputable def b56 : Code := Try.f56.body.getD .skip
theorem e56 : OM.Entry Try.prog 56 := ⟨_, Try.func56, by kernel_rfl, by kernel_rfl⟩
@[reducible] noncomputable def impl_copyMend.g : Sig := ⟨[.fz tMend], [.v tMend (.two .z (.two .z (.two (.own .z) (.two (.own .z) (.two .z (.two (.own (.own .z)) .z))))))], []⟩
@[reducible] noncomputable def impl_copyMend.fk : Nat → denI impl_copyMend.g.pms → Option (denR (outTys impl_copyMend.g.rts impl_copyMend.g.pms)) := fun k x => impl_copyMend.f k x.1
@[reducible] noncomputable def impl_copyMend.sm (k : Nat) : Sm := ⟨56, impl_copyMend.g.pms, impl_copyMend.g.rts, impl_copyMend.fk k⟩
noncomputable def impl_copyMend.E (k : Nat) : Env := ⟨tys, [impl_copyInts.sm k, impl_copyEntries.sm k], [22], [], []⟩
@[reducible] noncomputable def impl_copyMend.s9 : List Slot := [.r 8 9 [] tMend, .r 12 13 [] tMend, .v 68 (.sl (.sl (.int .i64))) .z [] 0, .v 72 (.int .i64) .z [] 0, .v 76 (.int .i64) .z [] 0, .v 9 tMend (.two .z (.two .z (.two (.own .a) (.two (.own .a) (.two .z (.two (.own .a) .z)))))) [] 0, .v 13 tMend (.two .z (.two .z (.two (.own .z) (.two (.own .z) (.two .z (.two (.own (.own .z)) .z)))))) [] 0]
noncomputable def impl_copyMend.pts : List (Pt (denR (outTys impl_copyMend.g.rts impl_copyMend.g.pms))) := [⟨9, impl_copyMend.s9, fun k x => impl_copyMend.p9 k x.1 x.2.1 x.2.2.1 x.2.2.2.1 x.2.2.2.2.1⟩]
theorem impl_copyMend.h9 (k : Nat) (x0 : (List (List Int))) (x1 : Int) (x2 : Int) (x3 : Mend) (x4 : Mend) : (impl_copyMend.p9 (k + 1) x0 x1 x2 x3 x4 : Option (denR (outTys impl_copyMend.g.rts impl_copyMend.g.pms))) = evAt (impl_copyMend.E k) (fun κ s => lhOf k κ s impl_copyMend.pts) 9 b56 (unproj impl_copyMend.s9 (x0, x1, x2, x3, x4, ())) (OM.fin impl_copyMend.g Try.f56.results.toList) := by kernel_rfl
theorem impl_copyMend.hf (k : Nat) (a0 : Mend) : (impl_copyMend.f k a0 : Option (denR (outTys impl_copyMend.g.rts impl_copyMend.g.pms))) = evC (impl_copyMend.E k) (fun κ s => lhOf k κ s impl_copyMend.pts) b56 (OM.start impl_copyMend.g.pms 0 (a0, ())) (OM.fin impl_copyMend.g Try.f56.results.toList) := by kernel_rfl
theorem impl_copyMend.ok (k : Nat) : SmOk Try.prog (impl_copyMend.sm k) :=
  sm_ok mixed (E := impl_copyMend.E) (pts := impl_copyMend.pts) (fun k => ⟨⟨tysOk, by kernel_rfl⟩, forall_cons ⟨impl_copyInts.ok k, e97⟩ (forall_cons ⟨impl_copyEntries.ok k, e123⟩ (forall_nil))⟩) (fun _ => rfl) (fun _ => rfl)
    ⟨Try.func56, by kernel_rfl, by kernel_rfl, by kernel_rfl, by kernel_rfl, by kernel_rfl, by kernel_rfl⟩ (forall_cons (fun x => ⟨rfl, fun k => impl_copyMend.h9 k x.1 x.2.1 x.2.2.1 x.2.2.2.1 x.2.2.2.2.1⟩) (forall_nil)) (fun k x => impl_copyMend.hf k x.1) k
noncomputable def b55 : Code := Try.f55.body.getD .skip
theorem e55 : OM.Entry Try.prog 55 := ⟨_, Try.func55, by kernel_rfl, by kernel_rfl⟩
@[reducible] noncomputable def impl_mendAsWas.g : Sig := ⟨[.fz tConfig, .fz tMend], [.v tMend (.two .z (.two .z (.two (.own .z) (.two (.own .z) (.two .z (.two (.own (.own .z)) .z))))))], []⟩
@[reducible] noncomputable def impl_mendAsWas.fk : Nat → denI impl_mendAsWas.g.pms → Option (denR (outTys impl_mendAsWas.g.rts impl_mendAsWas.g.pms)) := fun k x => impl_mendAsWas.f k x.1 x.2.1
@[reducible] noncomputable def impl_mendAsWas.sm (k : Nat) : Sm := ⟨55, impl_mendAsWas.g.pms, impl_mendAsWas.g.rts, impl_mendAsWas.fk k⟩
noncomputable def impl_mendAsWas.E (k : Nat) : Env := ⟨tys, [impl_MendOk.sm k, impl_copyMend.sm k], [], [], []⟩
noncomputable def impl_mendAsWas.pts : List (Pt (denR (outTys impl_mendAsWas.g.rts impl_mendAsWas.g.pms))) := []
theorem impl_mendAsWas.hf (k : Nat) (a0 : Config) (a1 : Mend) : (impl_mendAsWas.f k a0 a1 : Option (denR (outTys impl_mendAsWas.g.rts impl_mendAsWas.g.pms))) = evC (impl_mendAsWas.E k) (fun κ s => lhOf k κ s impl_mendAsWas.pts) b55 (OM.start impl_mendAsWas.g.pms 0 (a0, a1, ())) (OM.fin impl_mendAsWas.g Try.f55.results.toList) := by kernel_rfl
theorem impl_mendAsWas.ok (k : Nat) : SmOk Try.prog (impl_mendAsWas.sm k) :=
  sm_ok mixed (E := impl_mendAsWas.E) (pts := impl_mendAsWas.pts) (fun k => ⟨⟨tysOk, by kernel_rfl⟩, forall_cons ⟨impl_MendOk.ok k, e14⟩ (forall_cons ⟨impl_copyMend.ok k, e56⟩ (forall_nil))⟩) (fun _ => rfl) (fun _ => rfl)
    ⟨Try.func55, by kernel_rfl, by kernel_rfl, by kernel_rfl, by kernel_rfl, by kernel_rfl, by kernel_rfl⟩ (forall_nil) (fun k x => impl_mendAsWas.hf k x.1 x.2.1) k
noncomputable def b178 : Code := Try.f178.body.getD .skip
theorem e178 : OM.Entry Try.prog 178 := ⟨_, Try.func178, by kernel_rfl, by kernel_rfl⟩
@[reducible] noncomputable def cmp_isNaN_int.g : Sig := ⟨[.fz (.int .i64)], [.v .bool .z], []⟩
@[reducible] noncomputable def cmp_isNaN_int.fk : Nat → denI cmp_isNaN_int.g.pms → Option (denR (outTys cmp_isNaN_int.g.rts cmp_isNaN_int.g.pms)) := fun k x => cmp_isNaN_int.f x.1
@[reducible] noncomputable def cmp_isNaN_int.sm (k : Nat) : Sm := ⟨178, cmp_isNaN_int.g.pms, cmp_isNaN_int.g.rts, cmp_isNaN_int.fk k⟩
noncomputable def cmp_isNaN_int.E (k : Nat) : Env := ⟨tys, [], [], [], []⟩
noncomputable def cmp_isNaN_int.pts : List (Pt (denR (outTys cmp_isNaN_int.g.rts cmp_isNaN_int.g.pms))) := []
theorem cmp_isNaN_int.hf (k : Nat) (a0 : Int) : (cmp_isNaN_int.f a0 : Option (denR (outTys cmp_isNaN_int.g.rts cmp_isNaN_int.g.pms))) = evC (cmp_isNaN_int.E k) (fun κ s => lhOf k κ s cmp_isNaN_int.pts) b178 (OM.start cmp_isNaN_int.g.pms 0 (a0, ())) (OM.fin cmp_isNaN_int.g Try.f178.results.toList) := by kernel_rfl
theorem cmp_isNaN_int.ok (k : Nat) : SmOk Try.prog (cmp_isNaN_int.sm k) :=
  sm_ok mixed (E := cmp_isNaN_int.E) (pts := cmp_isNaN_int.pts) (fun k => ⟨⟨tysOk, by kernel_rfl⟩, forall_nil⟩) (fun _ => rfl) (fun _ => rfl)
    ⟨Try.func178, by kernel_rfl, by kernel_rfl, by kernel_rfl, by kernel_rfl, by kernel_rfl, by kernel_rfl⟩ (forall_nil) (fun k x => cmp_isNaN_int.hf k x.1) k
noncomputable def b159 : Code := Try.f159.body.getD .skip
theorem e159 : OM.Entry Try.prog 159 := ⟨_, Try.func159, by kernel_rfl, by kernel_rfl⟩
@[reducible] noncomputable def cmp_Less_int.g : Sig := ⟨[.fz (.int .i64), .fz (.int .i64)], [.v .bool .z], []⟩
@[reducible] noncomputable def cmp_Less_int.fk : Nat → denI cmp_Less_int.g.pms → Option (denR (outTys cmp_Less_int.g.rts cmp_Less_int.g.pms)) := fun k x => cmp_Less_int.f x.1 x.2.1
@[reducible] noncomputable def cmp_Less_int.sm (k : Nat) : Sm := ⟨159, cmp_Less_int.g.pms, cmp_Less_int.g.rts, cmp_Less_int.fk k⟩
noncomputable def cmp_Less_int.E (k : Nat) : Env := ⟨tys, [cmp_isNaN_int.sm k], [], [], []⟩
noncomputable def cmp_Less_int.pts : List (Pt (denR (outTys cmp_Less_int.g.rts cmp_Less_int.g.pms))) := []
theorem cmp_Less_int.hf (k : Nat) (a0 : Int) (a1 : Int) : (cmp_Less_int.f a0 a1 : Option (denR (outTys cmp_Less_int.g.rts cmp_Less_int.g.pms))) = evC (cmp_Less_int.E k) (fun κ s => lhOf k κ s cmp_Less_int.pts) b159 (OM.start cmp_Less_int.g.pms 0 (a0, a1, ())) (OM.fin cmp_Less_int.g Try.f159.results.toList) := by kernel_rfl
theorem cmp_Less_int.ok (k : Nat) : SmOk Try.prog (cmp_Less_int.sm k) :=
  sm_ok mixed (E := cmp_Less_int.E) (pts := cmp_Less_int.pts) (fun k => ⟨⟨tysOk, by kernel_rfl⟩, forall_cons ⟨cmp_isNaN_int.ok k, e178⟩ (forall_nil)⟩) (fun _ => rfl) (fun _ => rfl)
    ⟨Try.func159, by kernel_rfl, by kernel_rfl, by kernel_rfl, by kernel_rfl, by kernel_rfl, by kernel_rfl⟩ (forall_nil) (fun k x => cmp_Less_int.hf k x.1 x.2.1) k
noncomputable def b160 : Code := Try.f160.body.getD .skip
theorem e160 : OM.Entry Try.prog 160 := ⟨_, Try.func160, by kernel_rfl, by kernel_rfl⟩
@[reducible] noncomputable def slices_isNaN_int.g : Sig := ⟨[.fz (.int .i64)], [.v .bool .z], []⟩
@[reducible] noncomputable def slices_isNaN_int.fk : Nat → denI slices_isNaN_int.g.pms → Option (denR (outTys slices_isNaN_int.g.rts slices_isNaN_int.g.pms)) := fun k x => slices_isNaN_int.f x.1
@[reducible] noncomputable def slices_isNaN_int.sm (k : Nat) : Sm := ⟨160, slices_isNaN_int.g.pms, slices_isNaN_int.g.rts, slices_isNaN_int.fk k⟩
noncomputable def slices_isNaN_int.E (k : Nat) : Env := ⟨tys, [], [], [], []⟩
noncomputable def slices_isNaN_int.pts : List (Pt (denR (outTys slices_isNaN_int.g.rts slices_isNaN_int.g.pms))) := []
theorem slices_isNaN_int.hf (k : Nat) (a0 : Int) : (slices_isNaN_int.f a0 : Option (denR (outTys slices_isNaN_int.g.rts slices_isNaN_int.g.pms))) = evC (slices_isNaN_int.E k) (fun κ s => lhOf k κ s slices_isNaN_int.pts) b160 (OM.start slices_isNaN_int.g.pms 0 (a0, ())) (OM.fin slices_isNaN_int.g Try.f160.results.toList) := by kernel_rfl
theorem slices_isNaN_int.ok (k : Nat) : SmOk Try.prog (slices_isNaN_int.sm k) :=
  sm_ok mixed (E := slices_isNaN_int.E) (pts := slices_isNaN_int.pts) (fun k => ⟨⟨tysOk, by kernel_rfl⟩, forall_nil⟩) (fun _ => rfl) (fun _ => rfl)
    ⟨Try.func160, by kernel_rfl, by kernel_rfl, by kernel_rfl, by kernel_rfl, by kernel_rfl, by kernel_rfl⟩ (forall_nil) (fun k x => slices_isNaN_int.hf k x.1) k
noncomputable def b124 : Code := Try.f124.body.getD .skip
theorem e124 : OM.Entry Try.prog 124 := ⟨_, Try.func124, by kernel_rfl, by kernel_rfl⟩
@[reducible] noncomputable def slices_BinarySearch_int_int.g : Sig := ⟨[.fz (.sl (.int .i64)), .fz (.int .i64)], [.v (.int .i64) .z, .v .bool .z], []⟩
@[reducible] noncomputable def slices_BinarySearch_int_int.fk : Nat → denI slices_BinarySearch_int_int.g.pms → Option (denR (outTys slices_BinarySearch_int_int.g.rts slices_BinarySearch_int_int.g.pms)) := fun k x => slices_BinarySearch_int_int.f k x.1 x.2.1
@[reducible] noncomputable def slices_BinarySearch_int_int.sm (k : Nat) : Sm := ⟨124, slices_BinarySearch_int_int.g.pms, slices_BinarySearch_int_int.g.rts, slices_BinarySearch_int_int.fk k⟩
noncomputable def slices_BinarySearch_int_int.E (k : Nat) : Env := ⟨tys, [cmp_Less_int.sm k, slices_isNaN_int.sm k], [30], [], []⟩
@[reducible] noncomputable def slices_BinarySearch_int_int.s7 : List Slot := [.v 0 (.sl (.int .i64)) .z [] 0, .v 4 (.int .i64) .z [] 0, .v 24 (.int .i64) .z [] 0, .v 28 (.int .i64) .z [] 0, .v 32 (.int .i64) .z [] 0]
noncomputable def slices_BinarySearch_int_int.pts : List (Pt (denR (outTys slices_BinarySearch_int_int.g.rts slices_BinarySearch_int_int.g.pms))) := [⟨7, slices_BinarySearch_int_int.s7, fun k x => slices_BinarySearch_int_int.p7 k x.1 x.2.1 x.2.2.1 x.2.2.2.1 x.2.2.2.2.1⟩]
theorem slices_BinarySearch_int_int.h7 (k : Nat) (x0 : (List Int)) (x1 : Int) (x2 : Int) (x3 : Int) (x4 : Int) : (slices_BinarySearch_int_int.p7 (k + 1) x0 x1 x2 x3 x4 : Option (denR (outTys slices_BinarySearch_int_int.g.rts slices_BinarySearch_int_int.g.pms))) = evAt (slices_BinarySearch_int_int.E k) (fun κ s => lhOf k κ s slices_BinarySearch_int_int.pts) 7 b124 (unproj slices_BinarySearch_int_int.s7 (x0, x1, x2, x3, x4, ())) (OM.fin slices_BinarySearch_int_int.g Try.f124.results.toList) := by kernel_rfl
theorem slices_BinarySearch_int_int.hf (k : Nat) (a0 : (List Int)) (a1 : Int) : (slices_BinarySearch_int_int.f k a0 a1 : Option (denR (outTys slices_BinarySearch_int_int.g.rts slices_BinarySearch_int_int.g.pms))) = evC (slices_BinarySearch_int_int.E k) (fun κ s => lhOf k κ s slices_BinarySearch_int_int.pts) b124 (OM.start slices_BinarySearch_int_int.g.pms 0 (a0, a1, ())) (OM.fin slices_BinarySearch_int_int.g Try.f124.results.toList) := by kernel_rfl
theorem slices_BinarySearch_int_int.ok (k : Nat) : SmOk Try.prog (slices_BinarySearch_int_int.sm k) :=
  sm_ok mixed (E := slices_BinarySearch_int_int.E) (pts := slices_BinarySearch_int_int.pts) (fun k => ⟨⟨tysOk, by kernel_rfl⟩, forall_cons ⟨cmp_Less_int.ok k, e159⟩ (forall_cons ⟨slices_isNaN_int.ok k, e160⟩ (forall_nil))⟩) (fun _ => rfl) (fun _ => rfl)
    ⟨Try.func124, by kernel_rfl, by kernel_rfl, by kernel_rfl, by kernel_rfl, by kernel_rfl, by kernel_rfl⟩ (forall_cons (fun x => ⟨rfl, fun k => slices_BinarySearch_int_int.h7 k x.1 x.2.1 x.2.2.1 x.2.2.2.1 x.2.2.2.2.1⟩) (forall_nil)) (fun k x => slices_BinarySearch_int_int.hf k x.1 x.2.1) k
noncomputable def b125 : Code := Try.f125.body.getD .skip
theorem e125 : OM.Entry Try.prog 125 := ⟨_, Try.func125, by kernel_rfl, by kernel_rfl⟩
noncomputable def slices_Insert_int_int.rho : Shelf.Ren := ⟨fun n => cond (Nat.beq n 21) 125 (cond (Nat.beq n 27) 161 (cond (Nat.beq n 28) 162 (n))), fun n => cond (Nat.beq n 22) 24 (cond (Nat.beq n 0) 0 (cond (Nat.beq n 3) 3 (cond (Nat.beq n 4) 4 (n)))), fun n => n⟩
theorem slices_Insert_int_int.lay : InsF Try.prog slices_Insert_int_int.rho 3 (Ty.size (.int .i64)) 8 (.int .i64 0) := { mixed := mixed, f21 := ⟨"slices.Insert[[]int,int]", #[24, 3], by kernel_rfl, (Try.func125).trans (congrArg some (by kernel_rfl))⟩, ov := fun args w => run_callFunc_extern (P := Try.prog) (f := 161) Try.func161 (by kernel_rfl) (by kernel_rfl) (by kernel_rfl) (e := Extern.SlicesOverlaps.overlaps #[24, 24] #[4]) (by kernel_rfl) args w, t0 := Try.underlying0, a0 := Try.isAgg0, z0 := Try.sizeOf0, v0 := Try.zeroValue0, t3 := Try.underlying3, a3 := Try.isAgg3, z3 := Try.sizeOf3, v3 := Try.zeroValue3, t4 := Try.underlying4, a4 := Try.isAgg4, z4 := Try.sizeOf4, v4 := Try.zeroValue4, t22 := Try.underlying24, a22 := Try.isAgg24, z22 := Try.sizeOf24, v22 := Try.zeroValue24, ie := by kernel_rfl, ze := Try.sizeOf3 }
@[reducible] noncomputable def slices_Insert_int_int.g : Sig := ⟨[.own (.sl (.int .i64)) (.own .z), .fz (.int .i64), .fz (.sl (.int .i64))], [.v (.sl (.int .i64)) (.own .z)], []⟩
@[reducible] noncomputable def slices_Insert_int_int.fk : Nat → denI slices_Insert_int_int.g.pms → Option (denR (outTys slices_Insert_int_int.g.rts slices_Insert_int_int.g.pms)) := fun k x => slices_Insert_int_int.f x.1 x.2.1 x.2.2.1
@[reducible] noncomputable def slices_Insert_int_int.sm (k : Nat) : Sm := ⟨125, slices_Insert_int_int.g.pms, slices_Insert_int_int.g.rts, slices_Insert_int_int.fk k⟩
theorem slices_Insert_int_int.ok (k : Nat) : SmOk Try.prog (slices_Insert_int_int.sm k) :=
  ins_ok (E := ⟨tys, [], [], [], []⟩) ⟨tysOk, rfl⟩ slices_Insert_int_int.lay (by kernel_rfl) (by decide) (by kernel_rfl) (by decide)

noncomputable def b57 : Code := Try.f57.body.getD .skip
theorem e57 : OM.Entry Try.prog 57 := ⟨_, Try.func57, by kernel_rfl, by kernel_rfl⟩
@[reducible] noncomputable def impl_withNode.g : Sig := ⟨[.fz (.sl (.int .i64)), .fz (.int .i64)], [.v (.sl (.int .i64)) (.own .z)], []⟩
@[reducible] noncomputable def impl_withNode.fk : Nat → denI impl_withNode.g.pms → Option (denR (outTys impl_withNode.g.rts impl_withNode.g.pms)) := fun k x => impl_withNode.f k x.1 x.2.1
@[reducible] noncomputable def impl_withNode.sm (k : Nat) : Sm := ⟨57, impl_withNode.g.pms, impl_withNode.g.rts, impl_withNode.fk k⟩
noncomputable def impl_withNode.E (k : Nat) : Env := ⟨tys, [impl_copyInts.sm k, slices_BinarySearch_int_int.sm k, slices_Insert_int_int.sm k], [20], [], []⟩
noncomputable def impl_withNode.pts : List (Pt (denR (outTys impl_withNode.g.rts impl_withNode.g.pms))) := []
theorem impl_withNode.hf (k : Nat) (a0 : (List Int)) (a1 : Int) : (impl_withNode.f k a0 a1 : Option (denR (outTys impl_withNode.g.rts impl_withNode.g.pms))) = evC (impl_withNode.E k) (fun κ s => lhOf k κ s impl_withNode.pts) b57 (OM.start impl_withNode.g.pms 0 (a0, a1, ())) (OM.fin impl_withNode.g Try.f57.results.toList) := by kernel_rfl
theorem impl_withNode.ok (k : Nat) : SmOk Try.prog (impl_withNode.sm k) :=
  sm_ok mixed (E := impl_withNode.E) (pts := impl_withNode.pts) (fun k => ⟨⟨tysOk, by kernel_rfl⟩, forall_cons ⟨impl_copyInts.ok k, e97⟩ (forall_cons ⟨slices_BinarySearch_int_int.ok k, e124⟩ (forall_cons ⟨slices_Insert_int_int.ok k, e125⟩ (forall_nil)))⟩) (fun _ => rfl) (fun _ => rfl)
    ⟨Try.func57, by kernel_rfl, by kernel_rfl, by kernel_rfl, by kernel_rfl, by kernel_rfl, by kernel_rfl⟩ (forall_nil) (fun k x => impl_withNode.hf k x.1 x.2.1) k
noncomputable def b164 : Code := Try.f164.body.getD .skip
theorem e164 : OM.Entry Try.prog 164 := ⟨_, Try.func164, by kernel_rfl, by kernel_rfl⟩
@[reducible] noncomputable def impl_placeIn_1.g : Sig := ⟨[.fz tEntry, .fz (.int .i64)], [.v (.int .i64) .z], []⟩
@[reducible] noncomputable def impl_placeIn_1.fk : Nat → denI impl_placeIn_1.g.pms → Option (denR (outTys impl_placeIn_1.g.rts impl_placeIn_1.g.pms)) := fun k x => impl_placeIn_1.f x.1 x.2.1
@[reducible] noncomputable def impl_placeIn_1.sm (k : Nat) : Sm := ⟨164, impl_placeIn_1.g.pms, impl_placeIn_1.g.rts, impl_placeIn_1.fk k⟩
noncomputable def impl_placeIn_1.E (k : Nat) : Env := ⟨tys, [], [], [], []⟩
noncomputable def impl_placeIn_1.pts : List (Pt (denR (outTys impl_placeIn_1.g.rts impl_placeIn_1.g.pms))) := []
theorem impl_placeIn_1.hf (k : Nat) (a0 : Entry) (a1 : Int) : (impl_placeIn_1.f a0 a1 : Option (denR (outTys impl_placeIn_1.g.rts impl_placeIn_1.g.pms))) = evC (impl_placeIn_1.E k) (fun κ s => lhOf k κ s impl_placeIn_1.pts) b164 (OM.start impl_placeIn_1.g.pms 0 (a0, a1, ())) (OM.fin impl_placeIn_1.g Try.f164.results.toList) := by kernel_rfl
theorem impl_placeIn_1.ok (k : Nat) : SmOk Try.prog (impl_placeIn_1.sm k) :=
  sm_ok mixed (E := impl_placeIn_1.E) (pts := impl_placeIn_1.pts) (fun k => ⟨⟨tysOk, by kernel_rfl⟩, forall_nil⟩) (fun _ => rfl) (fun _ => rfl)
    ⟨Try.func164, by kernel_rfl, by kernel_rfl, by kernel_rfl, by kernel_rfl, by kernel_rfl, by kernel_rfl⟩ (forall_nil) (fun k x => impl_placeIn_1.hf k x.1 x.2.1) k
noncomputable def b163 : Code := Try.f163.body.getD .skip
theorem e163 : OM.Entry Try.prog 163 := ⟨_, Try.func163, by kernel_rfl, by kernel_rfl⟩
@[reducible] noncomputable def slices_BinarySearchFunc_impl_Entry_impl_Entry_int_impl_placeIn_1.g : Sig := ⟨[.fz (.sl tEntry), .fz (.int .i64), .fz (.fn 164 .unit)], [.v (.int .i64) .z, .v .bool .z], []⟩
@[reducible] noncomputable def slices_BinarySearchFunc_impl_Entry_impl_Entry_int_impl_placeIn_1.fk : Nat → denI slices_BinarySearchFunc_impl_Entry_impl_Entry_int_impl_placeIn_1.g.pms → Option (denR (outTys slices_BinarySearchFunc_impl_Entry_impl_Entry_int_impl_placeIn_1.g.rts slices_BinarySearchFunc_impl_Entry_impl_Entry_int_impl_placeIn_1.g.pms)) := fun k x => slices_BinarySearchFunc_impl_Entry_impl_Entry_int_impl_placeIn_1.f k x.1 x.2.1 x.2.2.1
@[reducible] noncomputable def slices_BinarySearchFunc_impl_Entry_impl_Entry_int_impl_placeIn_1.sm (k : Nat) : Sm := ⟨163, slices_BinarySearchFunc_impl_Entry_impl_Entry_int_impl_placeIn_1.g.pms, slices_BinarySearchFunc_impl_Entry_impl_Entry_int_impl_placeIn_1.g.rts, slices_BinarySearchFunc_impl_Entry_impl_Entry_int_impl_placeIn_1.fk k⟩
noncomputable def slices_BinarySearchFunc_impl_Entry_impl_Entry_int_impl_placeIn_1.E (k : Nat) : Env := ⟨tys, [impl_placeIn_1.sm k], [34], [], []⟩
@[reducible] noncomputable def slices_BinarySearchFunc_impl_Entry_impl_Entry_int_impl_placeIn_1.s7 : List Slot := [.v 0 (.sl tEntry) .z [] 0, .v 4 (.int .i64) .z [] 0, .v 8 (.fn 164 .unit) .z [] 0, .v 32 (.int .i64) .z [] 0, .v 36 (.int .i64) .z [] 0, .v 40 (.int .i64) .z [] 0]
noncomputable def slices_BinarySearchFunc_impl_Entry_impl_Entry_int_impl_placeIn_1.pts : List (Pt (denR (outTys slices_BinarySearchFunc_impl_Entry_impl_Entry_int_impl_placeIn_1.g.rts slices_BinarySearchFunc_impl_Entry_impl_Entry_int_impl_placeIn_1.g.pms))) := [⟨7, slices_BinarySearchFunc_impl_Entry_impl_Entry_int_impl_placeIn_1.s7, fun k x => slices_BinarySearchFunc_impl_Entry_impl_Entry_int_impl_placeIn_1.p7 k x.1 x.2.1 x.2.2.1 x.2.2.2.1 x.2.2.2.2.1 x.2.2.2.2.2.1⟩]
theorem slices_BinarySearchFunc_impl_Entry_impl_Entry_int_impl_placeIn_1.h7 (k : Nat) (x0 : (List Entry)) (x1 : Int) (x2 : Unit) (x3 : Int) (x4 : Int) (x5 : Int) : (slices_BinarySearchFunc_impl_Entry_impl_Entry_int_impl_placeIn_1.p7 (k + 1) x0 x1 x2 x3 x4 x5 : Option (denR (outTys slices_BinarySearchFunc_impl_Entry_impl_Entry_int_impl_placeIn_1.g.rts slices_BinarySearchFunc_impl_Entry_impl_Entry_int_impl_placeIn_1.g.pms))) = evAt (slices_BinarySearchFunc_impl_Entry_impl_Entry_int_impl_placeIn_1.E k) (fun κ s => lhOf k κ s slices_BinarySearchFunc_impl_Entry_impl_Entry_int_impl_placeIn_1.pts) 7 b163 (unproj slices_BinarySearchFunc_impl_Entry_impl_Entry_int_impl_placeIn_1.s7 (x0, x1, x2, x3, x4, x5, ())) (OM.fin slices_BinarySearchFunc_impl_Entry_impl_Entry_int_impl_placeIn_1.g Try.f163.results.toList) := by kernel_rfl
theorem slices_BinarySearchFunc_impl_Entry_impl_Entry_int_impl_placeIn_1.hf (k : Nat) (a0 : (List Entry)) (a1 : Int) (a2 : Unit) : (slices_BinarySearchFunc_impl_Entry_impl_Entry_int_impl_placeIn_1.f k a0 a1 a2 : Option (denR (outTys slices_BinarySearchFunc_impl_Entry_impl_Entry_int_impl_placeIn_1.g.rts slices_BinarySearchFunc_impl_Entry_impl_Entry_int_impl_placeIn_1.g.pms))) = evC (slices_BinarySearchFunc_impl_Entry_impl_Entry_int_impl_placeIn_1.E k) (fun κ s => lhOf k κ s slices_BinarySearchFunc_impl_Entry_impl_Entry_int_impl_placeIn_1.pts) b163 (OM.start slices_BinarySearchFunc_impl_Entry_impl_Entry_int_impl_placeIn_1.g.pms 0 (a0, a1, a2, ())) (OM.fin slices_BinarySearchFunc_impl_Entry_impl_Entry_int_impl_placeIn_1.g Try.f163.results.toList) := by kernel_rfl
theorem slices_BinarySearchFunc_impl_Entry_impl_Entry_int_impl_placeIn_1.ok (k : Nat) : SmOk Try.prog (slices_BinarySearchFunc_impl_Entry_impl_Entry_int_impl_placeIn_1.sm k) :=
  sm_ok mixed (E := slices_BinarySearchFunc_impl_Entry_impl_Entry_int_impl_placeIn_1.E) (pts := slices_BinarySearchFunc_impl_Entry_impl_Entry_int_impl_placeIn_1.pts) (fun k => ⟨⟨tysOk, by kernel_rfl⟩, forall_cons ⟨impl_placeIn_1.ok k, e164⟩ (forall_nil)⟩) (fun _ => rfl) (fun _ => rfl)
    ⟨Try.func163, by kernel_rfl, by kernel_rfl, by kernel_rfl, by kernel_rfl, by kernel_rfl, by kernel_rfl⟩ (forall_cons (fun x => ⟨rfl, fun k => slices_BinarySearchFunc_impl_Entry_impl_Entry_int_impl_placeIn_1.h7 k x.1 x.2.1 x.2.2.1 x.2.2.2.1 x.2.2.2.2.1 x.2.2.2.2.2.1⟩) (forall_nil)) (fun k x => slices_BinarySearchFunc_impl_Entry_impl_Entry_int_impl_placeIn_1.hf k x.1 x.2.1 x.2.2.1) k
noncomputable def b126 : Code := Try.f126.body.getD .skip
theorem e126 : OM.Entry Try.prog 126 := ⟨_, Try.func126, by kernel_rfl, by kernel_rfl⟩
@[reducible] noncomputable def impl_placeIn.g : Sig := ⟨[.fz (.sl tEntry), .fz (.int .i64)], [.v (.int .i64) .z, .v .bool .z], []⟩
@[reducible] noncomputable def impl_placeIn.fk : Nat → denI impl_placeIn.g.pms → Option (denR (outTys impl_placeIn.g.rts impl_placeIn.g.pms)) := fun k x => impl_placeIn.f k x.1 x.2.1
@[reducible] noncomputable def impl_placeIn.sm (k : Nat) : Sm := ⟨126, impl_placeIn.g.pms, impl_placeIn.g.rts, impl_placeIn.fk k⟩
noncomputable def impl_placeIn.E (k : Nat) : Env := ⟨tys, [slices_BinarySearchFunc_impl_Entry_impl_Entry_int_impl_placeIn_1.sm k], [], [], []⟩
noncomputable def impl_placeIn.pts : List (Pt (denR (outTys impl_placeIn.g.rts impl_placeIn.g.pms))) := []
theorem impl_placeIn.hf (k : Nat) (a0 : (List Entry)) (a1 : Int) : (impl_placeIn.f k a0 a1 : Option (denR (outTys impl_placeIn.g.rts impl_placeIn.g.pms))) = evC (impl_placeIn.E k) (fun κ s => lhOf k κ s impl_placeIn.pts) b126 (OM.start impl_placeIn.g.pms 0 (a0, a1, ())) (OM.fin impl_placeIn.g Try.f126.results.toList) := by kernel_rfl
theorem impl_placeIn.ok (k : Nat) : SmOk Try.prog (impl_placeIn.sm k) :=
  sm_ok mixed (E := impl_placeIn.E) (pts := impl_placeIn.pts) (fun k => ⟨⟨tysOk, by kernel_rfl⟩, forall_cons ⟨slices_BinarySearchFunc_impl_Entry_impl_Entry_int_impl_placeIn_1.ok k, e163⟩ (forall_nil)⟩) (fun _ => rfl) (fun _ => rfl)
    ⟨Try.func126, by kernel_rfl, by kernel_rfl, by kernel_rfl, by kernel_rfl, by kernel_rfl, by kernel_rfl⟩ (forall_nil) (fun k x => impl_placeIn.hf k x.1 x.2.1) k
noncomputable def b128 : Code := Try.f128.body.getD .skip
theorem e128 : OM.Entry Try.prog 128 := ⟨_, Try.func128, by kernel_rfl, by kernel_rfl⟩
@[reducible] noncomputable def impl_Better.g : Sig := ⟨[.fz tEntry, .fz tEntry], [.v tEntry .z], []⟩
@[reducible] noncomputable def impl_Better.fk : Nat → denI impl_Better.g.pms → Option (denR (outTys impl_Better.g.rts impl_Better.g.pms)) := fun k x => impl_Better.f x.1 x.2.1
@[reducible] noncomputable def impl_Better.sm (k : Nat) : Sm := ⟨128, impl_Better.g.pms, impl_Better.g.rts, impl_Better.fk k⟩
noncomputable def impl_Better.E (k : Nat) : Env := ⟨tys, [], [], [], []⟩
noncomputable def impl_Better.pts : List (Pt (denR (outTys impl_Better.g.rts impl_Better.g.pms))) := []
theorem impl_Better.hf (k : Nat) (a0 : Entry) (a1 : Entry) : (impl_Better.f a0 a1 : Option (denR (outTys impl_Better.g.rts impl_Better.g.pms))) = evC (impl_Better.E k) (fun κ s => lhOf k κ s impl_Better.pts) b128 (OM.start impl_Better.g.pms 0 (a0, a1, ())) (OM.fin impl_Better.g Try.f128.results.toList) := by kernel_rfl
theorem impl_Better.ok (k : Nat) : SmOk Try.prog (impl_Better.sm k) :=
  sm_ok mixed (E := impl_Better.E) (pts := impl_Better.pts) (fun k => ⟨⟨tysOk, by kernel_rfl⟩, forall_nil⟩) (fun _ => rfl) (fun _ => rfl)
    ⟨Try.func128, by kernel_rfl, by kernel_rfl, by kernel_rfl, by kernel_rfl, by kernel_rfl, by kernel_rfl⟩ (forall_nil) (fun k x => impl_Better.hf k x.1 x.2.1) k
noncomputable def b127 : Code := Try.f127.body.getD .skip
theorem e127 : OM.Entry Try.prog 127 := ⟨_, Try.func127, by kernel_rfl, by kernel_rfl⟩
noncomputable def slices_Insert_impl_Entry_impl_Entry.rho : Shelf.Ren := ⟨fun n => cond (Nat.beq n 21) 127 (cond (Nat.beq n 27) 165 (cond (Nat.beq n 28) 166 (n))), fun n => cond (Nat.beq n 22) 27 (cond (Nat.beq n 0) 0 (cond (Nat.beq n 3) 3 (cond (Nat.beq n 4) 4 (n)))), fun n => n⟩
theorem slices_Insert_impl_Entry_impl_Entry.lay : InsF Try.prog slices_Insert_impl_Entry_impl_Entry.rho 36 (Ty.size tEntry) 40 (.agg #[.int .i64 0, .int .i64 0, .bool false, .string ⟨#[]⟩]) := { mixed := mixed, f21 := ⟨"slices.Insert[[]loop.example/g00178/impl.Entry,loop.example/g00178/impl.Entry]", #[27, 36], by kernel_rfl, (Try.func127).trans (congrArg some (by kernel_rfl))⟩, ov := fun args w => run_callFunc_extern (P := Try.prog) (f := 165) Try.func165 (by kernel_rfl) (by kernel_rfl) (by kernel_rfl) (e := Extern.SlicesOverlaps.overlaps #[27, 27] #[4]) (by kernel_rfl) args w, t0 := Try.underlying0, a0 := Try.isAgg0, z0 := Try.sizeOf0, v0 := Try.zeroValue0, t3 := Try.underlying3, a3 := Try.isAgg3, z3 := Try.sizeOf3, v3 := Try.zeroValue3, t4 := Try.underlying4, a4 := Try.isAgg4, z4 := Try.sizeOf4, v4 := Try.zeroValue4, t22 := Try.underlying27, a22 := Try.isAgg27, z22 := Try.sizeOf27, v22 := Try.zeroValue27, ie := by kernel_rfl, ze := Try.sizeOf36 }
@[reducible] noncomputable def slices_Insert_impl_Entry_impl_Entry.g : Sig := ⟨[.own (.sl tEntry) (.own .z), .fz (.int .i64), .fz (.sl tEntry)], [.v (.sl tEntry) (.own .z)], []⟩
@[reducible] noncomputable def slices_Insert_impl_Entry_impl_Entry.fk : Nat → denI slices_Insert_impl_Entry_impl_Entry.g.pms → Option (denR (outTys slices_Insert_impl_Entry_impl_Entry.g.rts slices_Insert_impl_Entry_impl_Entry.g.pms)) := fun k x => slices_Insert_impl_Entry_impl_Entry.f x.1 x.2.1 x.2.2.1
@[reducible] noncomputable def slices_Insert_impl_Entry_impl_Entry.sm (k : Nat) : Sm := ⟨127, slices_Insert_impl_Entry_impl_Entry.g.pms, slices_Insert_impl_Entry_impl_Entry.g.rts, slices_Insert_impl_Entry_impl_Entry.fk k⟩
theorem slices_Insert_impl_Entry_impl_Entry.ok (k : Nat) : SmOk Try.prog (slices_Insert_impl_Entry_impl_Entry.sm k) :=
  ins_ok (E := ⟨tys, [], [], [], []⟩) ⟨tysOk, rfl⟩ slices_Insert_impl_Entry_impl_Entry.lay (by kernel_rfl) (by decide) (by kernel_rfl) (by decide)

noncomputable def b58 : Code := Try.f58.body.getD .skip
theorem e58 : OM.Entry Try.prog 58 := ⟨_, Try.func58, by kernel_rfl, by kernel_rfl⟩
@[reducible] noncomputable def impl_kept.g : Sig := ⟨[.own (.sl tEntry) (.own .z), .fz tEntry], [.v (.sl tEntry) (.own .z)], []⟩
@[reducible] noncomputable def impl_kept.fk : Nat → denI impl_kept.g.pms → Option (denR (outTys impl_kept.g.rts impl_kept.g.pms)) := fun k x => impl_kept.f k x.1 x.2.1
@[reducible] noncomputable def impl_kept.sm (k : Nat) : Sm := ⟨58, impl_kept.g.pms, impl_kept.g.rts, impl_kept.fk k⟩
noncomputable def impl_kept.E (k : Nat) : Env := ⟨tys, [impl_placeIn.sm k, impl_Better.sm k, slices_Insert_impl_Entry_impl_Entry.sm k], [18], [], []⟩
noncomputable def impl_kept.pts : List (Pt (denR (outTys impl_kept.g.rts impl_kept.g.pms))) := []
theorem impl_kept.hf (k : Nat) (a0 : (List Entry)) (a1 : Entry) : (impl_kept.f k a0 a1 : Option (denR (outTys impl_kept.g.rts impl_kept.g.pms))) = evC (impl_kept.E k) (fun κ s => lhOf k κ s impl_kept.pts) b58 (OM.start impl_kept.g.pms 0 (a0, a1, ())) (OM.fin impl_kept.g Try.f58.results.toList) := by kernel_rfl
theorem impl_kept.ok (k : Nat) : SmOk Try.prog (impl_kept.sm k) :=
  sm_ok mixed (E := impl_kept.E) (pts := impl_kept.pts) (fun k => ⟨⟨tysOk, by kernel_rfl⟩, forall_cons ⟨impl_placeIn.ok k, e126⟩ (forall_cons ⟨impl_Better.ok k, e128⟩ (forall_cons ⟨slices_Insert_impl_Entry_impl_Entry.ok k, e127⟩ (forall_nil)))⟩) (fun _ => rfl) (fun _ => rfl)
    ⟨Try.func58, by kernel_rfl, by kernel_rfl, by kernel_rfl, by kernel_rfl, by kernel_rfl, by kernel_rfl⟩ (forall_nil) (fun k x => impl_kept.hf k x.1 x.2.1) k
noncomputable def b10 : Code := Try.f10.body.getD .skip
theorem e10 : OM.Entry Try.prog 10 := ⟨_, Try.func10, by kernel_rfl, by kernel_rfl⟩
@[reducible] noncomputable def impl_MendSeal.g : Sig := ⟨[.fz tConfig, .fz tMend, .fz (.int .i64), .fz (.sl tEntry)], [.v tMend (.two .z (.two .z (.two (.own .z) (.two (.own .z) (.two .z (.two (.own (.own .z)) .z)))))), .v .bool .z], []⟩
@[reducible] noncomputable def impl_MendSeal.fk : Nat → denI impl_MendSeal.g.pms → Option (denR (outTys impl_MendSeal.g.rts impl_MendSeal.g.pms)) := fun k x => impl_MendSeal.f k x.1 x.2.1 x.2.2.1 x.2.2.2.1
@[reducible] noncomputable def impl_MendSeal.sm (k : Nat) : Sm := ⟨10, impl_MendSeal.g.pms, impl_MendSeal.g.rts, impl_MendSeal.fk k⟩
noncomputable def impl_MendSeal.E (k : Nat) : Env := ⟨tys, [impl_EpochOf.sm k, impl_MendOk.sm k, impl_copyMend.sm k, impl_mendAsWas.sm k, impl_withNode.sm k, impl_kept.sm k], [36], [], []⟩
@[reducible] noncomputable def impl_MendSeal.s13 : List Slot := [.r 16 17 [] tConfig, .r 20 21 [] tMend, .r 32 33 [] tMend, .r 40 41 [] tMend, .v 124 (.sl tEntry) .z [] 0, .v 128 (.int .i64) .z [] 0, .v 132 (.int .i64) .z [] 0, .v 17 tConfig .z [] 0, .v 21 tMend .z [] 0, .v 33 tMend (.two .z (.two .z (.two (.own .a) (.two (.own .a) (.two .z (.two (.own .a) .z)))))) [] 0, .v 41 tMend (.two .z (.two .z (.two (.own .z) (.two (.own .z) (.two .z (.two (.own (.own .z)) .z)))))) [] 0]
noncomputable def impl_MendSeal.pts : List (Pt (denR (outTys impl_MendSeal.g.rts impl_MendSeal.g.pms))) := [⟨13, impl_MendSeal.s13, fun k x => impl_MendSeal.p13 k x.1 x.2.1 x.2.2.1 x.2.2.2.1 x.2.2.2.2.1 x.2.2.2.2.2.1 x.2.2.2.2.2.2.1⟩]
theorem impl_MendSeal.h13 (k : Nat) (x0 : (List Entry)) (x1 : Int) (x2 : Int) (x3 : Config) (x4 : Mend) (x5 : Mend) (x6 : Mend) : (impl_MendSeal.p13 (k + 1) x0 x1 x2 x3 x4 x5 x6 : Option (denR (outTys impl_MendSeal.g.rts impl_MendSeal.g.pms))) = evAt (impl_MendSeal.E k) (fun κ s => lhOf k κ s impl_MendSeal.pts) 13 b10 (unproj impl_MendSeal.s13 (x0, x1, x2, x3, x4, x5, x6, ())) (OM.fin impl_MendSeal.g Try.f10.results.toList) := by kernel_rfl
theorem impl_MendSeal.hf (k : Nat) (a0 : Config) (a1 : Mend) (a2 : Int) (a3 : (List Entry)) : (impl_MendSeal.f k a0 a1 a2 a3 : Option (denR (outTys impl_MendSeal.g.rts impl_MendSeal.g.pms))) = evC (impl_MendSeal.E k) (fun κ s => lhOf k κ s impl_MendSeal.pts) b10 (OM.start impl_MendSeal.g.pms 0 (a0, a1, a2, a3, ())) (OM.fin impl_MendSeal.g Try.f10.results.toList) := by kernel_rfl
theorem impl_MendSeal.ok (k : Nat) : SmOk Try.prog (impl_MendSeal.sm k) :=
  sm_ok mixed (E := impl_MendSeal.E) (pts := impl_MendSeal.pts) (fun k => ⟨⟨tysOk, by kernel_rfl⟩, forall_cons ⟨impl_EpochOf.ok k, e12⟩ (forall_cons ⟨impl_MendOk.ok k, e14⟩ (forall_cons ⟨impl_copyMend.ok k, e56⟩ (forall_cons ⟨impl_mendAsWas.ok k, e55⟩ (forall_cons ⟨impl_withNode.ok k, e57⟩ (forall_cons ⟨impl_kept.ok k, e58⟩ (forall_nil))))))⟩) (fun _ => rfl) (fun _ => rfl)
    ⟨Try.func10, by kernel_rfl, by kernel_rfl, by kernel_rfl, by kernel_rfl, by kernel_rfl, by kernel_rfl⟩ (forall_cons (fun x => ⟨rfl, fun k => impl_MendSeal.h13 k x.1 x.2.1 x.2.2.1 x.2.2.2.1 x.2.2.2.2.1 x.2.2.2.2.2.1 x.2.2.2.2.2.2.1⟩) (forall_nil)) (fun k x => impl_MendSeal.hf k x.1 x.2.1 x.2.2.1 x.2.2.2.1) k
noncomputable def b13 : Code := Try.f13.body.getD .skip
theorem e13 : OM.Entry Try.prog 13 := ⟨_, Try.func13, by kernel_rfl, by kernel_rfl⟩
@[reducible] noncomputable def laws_within.g : Sig := ⟨[.fz (.sl (.int .i64)), .fz (.int .i64)], [.v .bool .z], []⟩
@[reducible] noncomputable def laws_within.fk : Nat → denI laws_within.g.pms → Option (denR (outTys laws_within.g.rts laws_within.g.pms)) := fun k x => laws_within.f k x.1 x.2.1
@[reducible] noncomputable def laws_within.sm (k : Nat) : Sm := ⟨13, laws_within.g.pms, laws_within.g.rts, laws_within.fk k⟩
noncomputable def laws_within.E (k : Nat) : Env := ⟨tys, [], [], [], []⟩
@[reducible] noncomputable def laws_within.s5 : List Slot := [.v 0 (.sl (.int .i64)) .z [] 0, .v 4 (.int .i64) .z [] 0, .v 20 (.int .i64) .z [] 0]
noncomputable def laws_within.pts : List (Pt (denR (outTys laws_within.g.rts laws_within.g.pms))) := [⟨5, laws_within.s5, fun k x => laws_within.p5 k x.1 x.2.1 x.2.2.1⟩]
theorem laws_within.h5 (k : Nat) (x0 : (List Int)) (x1 : Int) (x2 : Int) : (laws_within.p5 (k + 1) x0 x1 x2 : Option (denR (outTys laws_within.g.rts laws_within.g.pms))) = evAt (laws_within.E k) (fun κ s => lhOf k κ s laws_within.pts) 5 b13 (unproj laws_within.s5 (x0, x1, x2, ())) (OM.fin laws_within.g Try.f13.results.toList) := by kernel_rfl
theorem laws_within.hf (k : Nat) (a0 : (List Int)) (a1 : Int) : (laws_within.f k a0 a1 : Option (denR (outTys laws_within.g.rts laws_within.g.pms))) = evC (laws_within.E k) (fun κ s => lhOf k κ s laws_within.pts) b13 (OM.start laws_within.g.pms 0 (a0, a1, ())) (OM.fin laws_within.g Try.f13.results.toList) := by kernel_rfl
theorem laws_within.ok (k : Nat) : SmOk Try.prog (laws_within.sm k) :=
  sm_ok mixed (E := laws_within.E) (pts := laws_within.pts) (fun k => ⟨⟨tysOk, by kernel_rfl⟩, forall_nil⟩) (fun _ => rfl) (fun _ => rfl)
    ⟨Try.func13, by kernel_rfl, by kernel_rfl, by kernel_rfl, by kernel_rfl, by kernel_rfl, by kernel_rfl⟩ (forall_cons (fun x => ⟨rfl, fun k => laws_within.h5 k x.1 x.2.1 x.2.2.1⟩) (forall_nil)) (fun k x => laws_within.hf k x.1 x.2.1) k
noncomputable def b3 : Code := Try.f3.body.getD .skip
theorem e3 : OM.Entry Try.prog 3 := ⟨_, Try.func3, by kernel_rfl, by kernel_rfl⟩
@[reducible] noncomputable def laws_FnSealing.g : Sig := ⟨[.fz (.sl (.int .u8))], [.v .bool .z], []⟩
@[reducible] noncomputable def laws_FnSealing.fk : Nat → denI laws_FnSealing.g.pms → Option (denR (outTys laws_FnSealing.g.rts laws_FnSealing.g.pms)) := fun k x => laws_FnSealing.f k x.1
@[reducible] noncomputable def laws_FnSealing.sm (k : Nat) : Sm := ⟨3, laws_FnSealing.g.pms, laws_FnSealing.g.rts, laws_FnSealing.fk k⟩
noncomputable def laws_FnSealing.E (k : Nat) : Env := ⟨tys, [laws_big.sm k, spec_MendSeal.sm k, spec_DrawMendSeal.sm k, impl_EpochOf.sm k, impl_MendOk.sm k, impl_MendSeal.sm k, laws_within.sm k], [76, 84], [17], [4]⟩
@[reducible] noncomputable def laws_FnSealing.s23 : List Slot := [.r 12 13 [] tConfig, .r 16 17 [] tMend, .v 20 (.int .i64) .z [] 0, .v 24 (.sl tEntry) (.own .z) [] 0, .r 28 29 [] tMend, .v 44 (.int .i64) .z [] 0, .v 13 tConfig .z [] 0, .v 17 tMend (.two .z (.two .z (.two (.own .z) (.two (.own .z) (.two .z (.two (.own (.own .z)) .z)))))) [] 0, .v 29 tMend (.two .z (.two .z (.two (.own .z) (.two (.own .z) (.two .z (.two (.own (.own .z)) .z)))))) [] 0]
@[reducible] noncomputable def laws_FnSealing.s34 : List Slot := [.r 12 13 [] tConfig, .r 16 17 [] tMend, .v 20 (.int .i64) .z [] 0, .v 24 (.sl tEntry) (.own .z) [] 0, .r 28 29 [] tMend, .v 44 (.int .i64) .z [] 0, .r 48 49 [] tEntry, .v 13 tConfig .z [] 0, .v 17 tMend (.two .z (.two .z (.two (.own .z) (.two (.own .z) (.two .z (.two (.own (.own .z)) .z)))))) [] 0, .v 29 tMend (.two .z (.two .z (.two (.own .z) (.two (.own .z) (.two .z (.two (.own (.own .z)) .z)))))) [] 0, .v 49 tEntry .z [] 0]
@[reducible] noncomputable def laws_FnSealing.s39 : List Slot := [.r 12 13 [] tConfig, .r 16 17 [] tMend, .v 20 (.int .i64) .z [] 0, .v 24 (.sl tEntry) (.own .z) [] 0, .r 28 29 [] tMend, .v 44 (.int .i64) .z [] 0, .r 48 49 [] tEntry, .v 52 .bool .z [] 0, .v 56 (.int .i64) .z [] 0, .v 13 tConfig .z [] 0, .v 17 tMend (.two .z (.two .z (.two (.own .z) (.two (.own .z) (.two .z (.two (.own (.own .z)) .z)))))) [] 0, .v 29 tMend (.two .z (.two .z (.two (.own .z) (.two (.own .z) (.two .z (.two (.own (.own .z)) .z)))))) [] 0, .v 49 tEntry .z [] 0]
noncomputable def laws_FnSealing.pts : List (Pt (denR (outTys laws_FnSealing.g.rts laws_FnSealing.g.pms))) := [⟨23, laws_FnSealing.s23, fun k x => laws_FnSealing.p23 k x.1 x.2.1 x.2.2.1 x.2.2.2.1 x.2.2.2.2.1 x.2.2.2.2.2.1⟩, ⟨34, laws_FnSealing.s34, fun k x => laws_FnSealing.p34 k x.1 x.2.1 x.2.2.1 x.2.2.2.1 x.2.2.2.2.1 x.2.2.2.2.2.1 x.2.2.2.2.2.2.1⟩, ⟨39, laws_FnSealing.s39, fun k x => laws_FnSealing.p39 k x.1 x.2.1 x.2.2.1 x.2.2.2.1 x.2.2.2.2.1 x.2.2.2.2.2.1 x.2.2.2.2.2.2.1 x.2.2.2.2.2.2.2.1 x.2.2.2.2.2.2.2.2.1⟩]
theorem laws_FnSealing.h23 (k : Nat) (x0 : Int) (x1 : (List Entry)) (x2 : Int) (x3 : Config) (x4 : Mend) (x5 : Mend) : (laws_FnSealing.p23 (k + 1) x0 x1 x2 x3 x4 x5 : Option (denR (outTys laws_FnSealing.g.rts laws_FnSealing.g.pms))) = evAt (laws_FnSealing.E k) (fun κ s => lhOf k κ s laws_FnSealing.pts) 23 b3 (unproj laws_FnSealing.s23 (x0, x1, x2, x3, x4, x5, ())) (OM.fin laws_FnSealing.g Try.f3.results.toList) := by kernel_rfl
theorem laws_FnSealing.h34 (k : Nat) (x0 : Int) (x1 : (List Entry)) (x2 : Int) (x3 : Config) (x4 : Mend) (x5 : Mend) (x6 : Entry) : (laws_FnSealing.p34 (k + 1) x0 x1 x2 x3 x4 x5 x6 : Option (denR (outTys laws_FnSealing.g.rts laws_FnSealing.g.pms))) = evAt (laws_FnSealing.E k) (fun κ s => lhOf k κ s laws_FnSealing.pts) 34 b3 (unproj laws_FnSealing.s34 (x0, x1, x2, x3, x4, x5, x6, ())) (OM.fin laws_FnSealing.g Try.f3.results.toList) := by kernel_rfl
theorem laws_FnSealing.h39 (k : Nat) (x0 : Int) (x1 : (List Entry)) (x2 : Int) (x3 : Bool) (x4 : Int) (x5 : Config) (x6 : Mend) (x7 : Mend) (x8 : Entry) : (laws_FnSealing.p39 (k + 1) x0 x1 x2 x3 x4 x5 x6 x7 x8 : Option (denR (outTys laws_FnSealing.g.rts laws_FnSealing.g.pms))) = evAt (laws_FnSealing.E k) (fun κ s => lhOf k κ s laws_FnSealing.pts) 39 b3 (unproj laws_FnSealing.s39 (x0, x1, x2, x3, x4, x5, x6, x7, x8, ())) (OM.fin laws_FnSealing.g Try.f3.results.toList) := by kernel_rfl
theorem laws_FnSealing.hf (k : Nat) (a0 : (List Int)) : (laws_FnSealing.f k a0 : Option (denR (outTys laws_FnSealing.g.rts laws_FnSealing.g.pms))) = evC (laws_FnSealing.E k) (fun κ s => lhOf k κ s laws_FnSealing.pts) b3 (OM.start laws_FnSealing.g.pms 0 (a0, ())) (OM.fin laws_FnSealing.g Try.f3.results.toList) := by kernel_rfl
theorem laws_FnSealing.ok (k : Nat) : SmOk Try.prog (laws_FnSealing.sm k) :=
  sm_ok mixed (E := laws_FnSealing.E) (pts := laws_FnSealing.pts) (fun k => ⟨⟨tysOk, by kernel_rfl⟩, forall_cons ⟨laws_big.ok k, e8⟩ (forall_cons ⟨spec_MendSeal.ok k, e11⟩ (forall_cons ⟨spec_DrawMendSeal.ok k, e9⟩ (forall_cons ⟨impl_EpochOf.ok k, e12⟩ (forall_cons ⟨impl_MendOk.ok k, e14⟩ (forall_cons ⟨impl_MendSeal.ok k, e10⟩ (forall_cons ⟨laws_within.ok k, e13⟩ (forall_nil)))))))⟩) (fun _ => rfl) (fun _ => rfl)
    ⟨Try.func3, by kernel_rfl, by kernel_rfl, by kernel_rfl, by kernel_rfl, by kernel_rfl, by kernel_rfl⟩ (forall_cons (fun x => ⟨rfl, fun k => laws_FnSealing.h23 k x.1 x.2.1 x.2.2.1 x.2.2.2.1 x.2.2.2.2.1 x.2.2.2.2.2.1⟩) (forall_cons (fun x => ⟨rfl, fun k => laws_FnSealing.h34 k x.1 x.2.1 x.2.2.1 x.2.2.2.1 x.2.2.2.2.1 x.2.2.2.2.2.1 x.2.2.2.2.2.2.1⟩) (forall_cons (fun x => ⟨rfl, fun k => laws_FnSealing.h39 k x.1 x.2.1 x.2.2.1 x.2.2.2.1 x.2.2.2.2.1 x.2.2.2.2.2.1 x.2.2.2.2.2.2.1 x.2.2.2.2.2.2.2.1 x.2.2.2.2.2.2.2.2.1⟩) (forall_nil)))) (fun k x => laws_FnSealing.hf k x.1) k
end Go.Proofs.Ythgnikafeamidab.OmFnSealing
