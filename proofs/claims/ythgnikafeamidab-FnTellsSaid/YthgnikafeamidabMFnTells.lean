import Derived.Test.YthgnikafeamidabFFnTells
import Derived.Test.YthgnikafeamidabChecked
set_option maxRecDepth 1000000
set_option linter.unusedVariables false
namespace Go.Proofs.Ythgnikafeamidab.OmFnTells
open Go Go.OM
noncomputable def tys : List (Option Ty) := [none, none, some (.int .i64), some (.int .i64), some .bool, some (.int .u8), some (.int .u8), some (.pair (.int .i64) (.pair (.int .i64) (.pair .bool (.pair (.int .u8) .unit)))), some (.pair (.int .i64) (.pair (.int .i64) (.pair .bool (.pair (.int .u8) .unit)))), some .str, some .str, some .str, some (.int .u64), some (.pair .str (.pair (.int .u64) .unit)), some (.pair .str (.pair (.int .u64) .unit)), none, none, none, none, none, none, some (.int .i32), some (.sl (.int .u8)), none, some (.sl (.int .i64)), some tConfig, some tConfig, some (.sl tEntry), some (.sl (.sl (.int .i64))), some tMend, some tMend, none, none, none, none, some tEntry, some tEntry, none, none, none, none, none, none, none, none, some (.sl tEra), some tRegister, some tRegister, some (.sl tEvent), some tReader, some tReader, some (.sl tAnswer), none, none, none, none, some tEvent, some tEvent, none, some tAnswer, some tAnswer, none, none, none, none, some tConfig, some (.sl tEra), some tRegister, some tRegister, some (.sl tEvent), some tReader, some tReader, some (.sl tAnswer), none, none, none, none, none, none, none, none, none, none, none, none, none, none, none, none, none, none, none, none, none, none, none, none, none, none, none, none, none, none, none, none, none, none, none, none, none, none, none, none, none, none, none, none, some tEra, some tEra, none, none, none, none, none, none, none, none, none, none, none, none, none, some tEntry, some tAnswer, some tAnswer, none, none, none, none, none, none, none, none, none, none, none, none, none, none, none, none, none, none, none, none, none, some tl1Cur, some tl1Cur, none, none, none, none, none, none, none, some tEra, none, some tEvent, none, none, none, none, none, none, none, some (.int .u64), none, some (.sl .str), none, none, none, none, none, none, none, none, none, none, none, none, some (.sl .bool), none, none, some tStore, some tStore, none, none, none, none, none, none, none, none, none, none, none, none, none, none, none, none, none, none, none, none, none, none, some (.int .u32), some (.int .u8), some (.int .u8), none, none, some (.int .i32), some (.int .i32), none, none, none]
theorem tysOk : okTys Try.prog tys 0 tys = true := by kernel_rfl
theorem mixed : Try.prog.follows .mixedOrders = true := by kernel_rfl
noncomputable def b8 : Code := Try.f8.body.getD .skip
theorem e8 : OM.Entry Try.prog 8 := ⟨_, Try.func8, by kernel_rfl, by kernel_rfl⟩
@[reducible] noncomputable def laws_big.g : Sig := ⟨[.fz (.sl (.int .u8))], [.v .bool .z], []⟩
@[reducible] noncomputable def laws_big.fk : Nat → denI laws_big.g.pms → Option (denR (outTys laws_big.g.rts laws_big.g.pms)) := fun k x => laws_big.f x.1
@[reducible] noncomputable def laws_big.sm (k : Nat) : Sm := ⟨8, laws_big.g.pms, laws_big.g.rts, laws_big.fk k⟩
noncomputable def laws_big.E (k : Nat) : Env := ⟨tys, [], [], [], []⟩
noncomputable def laws_big.pts : List (Pt (denR (outTys laws_big.g.rts laws_big.g.pms))) := []
theorem laws_big.hf (k : Nat) (a0 : (List Int)) : (laws_big.f a0 : Option (denR (outTys laws_big.g.rts laws_big.g.pms))) = evC (laws_big.E k) (fun κ s => lhOf k κ s laws_big.pts) b8 (OM.start laws_big.g.pms 0 (a0, ())) (OM.fin laws_big.g Try.f8.results.toList) := by kernel_rfl
theorem laws_big.ok (k : Nat) : SmOk Try.prog (laws_big.sm k) :=
  sm_ok mixed (E := laws_big.E) (pts := laws_big.pts) (fun k => ⟨⟨tysOk, by kernel_rfl⟩, forall_nil⟩) (fun _ => rfl) (fun _ => rfl)
    ⟨Try.func8, by kernel_rfl, by kernel_rfl, by kernel_rfl, by kernel_rfl, by kernel_rfl, by kernel_rfl⟩ (forall_nil) (fun k x => laws_big.hf k x.1) k
noncomputable def b78 : Code := Try.f78.body.getD .skip
theorem e78 : OM.Entry Try.prog 78 := ⟨_, Try.func78, by kernel_rfl, by kernel_rfl⟩
@[reducible] noncomputable def spec_l1New.g : Sig := ⟨[.fz (.sl (.int .u8))], [.p tl1Cur .z], []⟩
@[reducible] noncomputable def spec_l1New.fk : Nat → denI spec_l1New.g.pms → Option (denR (outTys spec_l1New.g.rts spec_l1New.g.pms)) := fun k x => spec_l1New.f k x.1
@[reducible] noncomputable def spec_l1New.sm (k : Nat) : Sm := ⟨78, spec_l1New.g.pms, spec_l1New.g.rts, spec_l1New.fk k⟩
noncomputable def spec_l1New.E (k : Nat) : Env := ⟨tys, [], [28, 29], [], []⟩
@[reducible] noncomputable def spec_l1New.s7 : List Slot := [.v 0 (.sl (.int .u8)) .z [] 0, .v 12 (.int .i64) .z [] 0, .v 16 (.int .i64) .z [] 0]
noncomputable def spec_l1New.pts : List (Pt (denR (outTys spec_l1New.g.rts spec_l1New.g.pms))) := [⟨7, spec_l1New.s7, fun k x => spec_l1New.p7 k x.1 x.2.1 x.2.2.1⟩]
theorem spec_l1New.h7 (k : Nat) (x0 : (List Int)) (x1 : Int) (x2 : Int) : (spec_l1New.p7 (k + 1) x0 x1 x2 : Option (denR (outTys spec_l1New.g.rts spec_l1New.g.pms))) = evAt (spec_l1New.E k) (fun κ s => lhOf k κ s spec_l1New.pts) 7 b78 (unproj spec_l1New.s7 (x0, x1, x2, ())) (OM.fin spec_l1New.g Try.f78.results.toList) := by kernel_rfl
theorem spec_l1New.hf (k : Nat) (a0 : (List Int)) : (spec_l1New.f k a0 : Option (denR (outTys spec_l1New.g.rts spec_l1New.g.pms))) = evC (spec_l1New.E k) (fun κ s => lhOf k κ s spec_l1New.pts) b78 (OM.start spec_l1New.g.pms 0 (a0, ())) (OM.fin spec_l1New.g Try.f78.results.toList) := by kernel_rfl
theorem spec_l1New.ok (k : Nat) : SmOk Try.prog (spec_l1New.sm k) :=
  sm_ok mixed (E := spec_l1New.E) (pts := spec_l1New.pts) (fun k => ⟨⟨tysOk, by kernel_rfl⟩, forall_nil⟩) (fun _ => rfl) (fun _ => rfl)
    ⟨Try.func78, by kernel_rfl, by kernel_rfl, by kernel_rfl, by kernel_rfl, by kernel_rfl, by kernel_rfl⟩ (forall_cons (fun x => ⟨rfl, fun k => spec_l1New.h7 k x.1 x.2.1 x.2.2.1⟩) (forall_nil)) (fun k x => spec_l1New.hf k x.1) k
noncomputable def b119 : Code := Try.f119.body.getD .skip
theorem e119 : OM.Entry Try.prog 119 := ⟨_, Try.func119, by kernel_rfl, by kernel_rfl⟩
@[reducible] noncomputable def spec_l1Byte.g : Sig := ⟨[.ptr tl1Cur .z .z], [.v (.int .i64) .z], []⟩
@[reducible] noncomputable def spec_l1Byte.fk : Nat → denI spec_l1Byte.g.pms → Option (denR (outTys spec_l1Byte.g.rts spec_l1Byte.g.pms)) := fun k x => spec_l1Byte.f x.1
@[reducible] noncomputable def spec_l1Byte.sm (k : Nat) : Sm := ⟨119, spec_l1Byte.g.pms, spec_l1Byte.g.rts, spec_l1Byte.fk k⟩
noncomputable def spec_l1Byte.E (k : Nat) : Env := ⟨tys, [], [], [], []⟩
noncomputable def spec_l1Byte.pts : List (Pt (denR (outTys spec_l1Byte.g.rts spec_l1Byte.g.pms))) := []
theorem spec_l1Byte.hf (k : Nat) (a0 : l1Cur) : (spec_l1Byte.f a0 : Option (denR (outTys spec_l1Byte.g.rts spec_l1Byte.g.pms))) = evC (spec_l1Byte.E k) (fun κ s => lhOf k κ s spec_l1Byte.pts) b119 (OM.start spec_l1Byte.g.pms 0 (a0, ())) (OM.fin spec_l1Byte.g Try.f119.results.toList) := by kernel_rfl
theorem spec_l1Byte.ok (k : Nat) : SmOk Try.prog (spec_l1Byte.sm k) :=
  sm_ok mixed (E := spec_l1Byte.E) (pts := spec_l1Byte.pts) (fun k => ⟨⟨tysOk, by kernel_rfl⟩, forall_nil⟩) (fun _ => rfl) (fun _ => rfl)
    ⟨Try.func119, by kernel_rfl, by kernel_rfl, by kernel_rfl, by kernel_rfl, by kernel_rfl, by kernel_rfl⟩ (forall_nil) (fun k x => spec_l1Byte.hf k x.1) k
noncomputable def b50 : Code := Try.f50.body.getD .skip
theorem e50 : OM.Entry Try.prog 50 := ⟨_, Try.func50, by kernel_rfl, by kernel_rfl⟩
@[reducible] noncomputable def spec_l1Below.g : Sig := ⟨[.ptr tl1Cur .z .z, .fz (.int .i64)], [.v (.int .i64) .z], []⟩
@[reducible] noncomputable def spec_l1Below.fk : Nat → denI spec_l1Below.g.pms → Option (denR (outTys spec_l1Below.g.rts spec_l1Below.g.pms)) := fun k x => spec_l1Below.f x.1 x.2.1
@[reducible] noncomputable def spec_l1Below.sm (k : Nat) : Sm := ⟨50, spec_l1Below.g.pms, spec_l1Below.g.rts, spec_l1Below.fk k⟩
noncomputable def spec_l1Below.E (k : Nat) : Env := ⟨tys, [spec_l1Byte.sm k], [], [], []⟩
noncomputable def spec_l1Below.pts : List (Pt (denR (outTys spec_l1Below.g.rts spec_l1Below.g.pms))) := []
theorem spec_l1Below.hf (k : Nat) (a0 : l1Cur) (a1 : Int) : (spec_l1Below.f a0 a1 : Option (denR (outTys spec_l1Below.g.rts spec_l1Below.g.pms))) = evC (spec_l1Below.E k) (fun κ s => lhOf k κ s spec_l1Below.pts) b50 (OM.start spec_l1Below.g.pms 0 (a0, a1, ())) (OM.fin spec_l1Below.g Try.f50.results.toList) := by kernel_rfl
theorem spec_l1Below.ok (k : Nat) : SmOk Try.prog (spec_l1Below.sm k) :=
  sm_ok mixed (E := spec_l1Below.E) (pts := spec_l1Below.pts) (fun k => ⟨⟨tysOk, by kernel_rfl⟩, forall_cons ⟨spec_l1Byte.ok k, e119⟩ (forall_nil)⟩) (fun _ => rfl) (fun _ => rfl)
    ⟨Try.func50, by kernel_rfl, by kernel_rfl, by kernel_rfl, by kernel_rfl, by kernel_rfl, by kernel_rfl⟩ (forall_nil) (fun k x => spec_l1Below.hf k x.1 x.2.1) k
noncomputable def b49 : Code := Try.f49.body.getD .skip
theorem e49 : OM.Entry Try.prog 49 := ⟨_, Try.func49, by kernel_rfl, by kernel_rfl⟩
@[reducible] noncomputable def spec_l1Once.g : Sig := ⟨[.ptr tl1Cur .z .z, .fz (.int .i64)], [.v .bool .z], []⟩
@[reducible] noncomputable def spec_l1Once.fk : Nat → denI spec_l1Once.g.pms → Option (denR (outTys spec_l1Once.g.rts spec_l1Once.g.pms)) := fun k x => spec_l1Once.f x.1 x.2.1
@[reducible] noncomputable def spec_l1Once.sm (k : Nat) : Sm := ⟨49, spec_l1Once.g.pms, spec_l1Once.g.rts, spec_l1Once.fk k⟩
noncomputable def spec_l1Once.E (k : Nat) : Env := ⟨tys, [spec_l1Below.sm k], [], [], []⟩
noncomputable def spec_l1Once.pts : List (Pt (denR (outTys spec_l1Once.g.rts spec_l1Once.g.pms))) := []
theorem spec_l1Once.hf (k : Nat) (a0 : l1Cur) (a1 : Int) : (spec_l1Once.f a0 a1 : Option (denR (outTys spec_l1Once.g.rts spec_l1Once.g.pms))) = evC (spec_l1Once.E k) (fun κ s => lhOf k κ s spec_l1Once.pts) b49 (OM.start spec_l1Once.g.pms 0 (a0, a1, ())) (OM.fin spec_l1Once.g Try.f49.results.toList) := by kernel_rfl
theorem spec_l1Once.ok (k : Nat) : SmOk Try.prog (spec_l1Once.sm k) :=
  sm_ok mixed (E := spec_l1Once.E) (pts := spec_l1Once.pts) (fun k => ⟨⟨tysOk, by kernel_rfl⟩, forall_cons ⟨spec_l1Below.ok k, e50⟩ (forall_nil)⟩) (fun _ => rfl) (fun _ => rfl)
    ⟨Try.func49, by kernel_rfl, by kernel_rfl, by kernel_rfl, by kernel_rfl, by kernel_rfl, by kernel_rfl⟩ (forall_nil) (fun k x => spec_l1Once.hf k x.1 x.2.1) k
noncomputable def b79 : Code := Try.f79.body.getD .skip
theorem e79 : OM.Entry Try.prog 79 := ⟨_, Try.func79, by kernel_rfl, by kernel_rfl⟩
@[reducible] noncomputable def spec_l4DrawRight.g : Sig := ⟨[.ptr tl1Cur .z .z], [.v tConfig (.two (.own .z) .z)], []⟩
@[reducible] noncomputable def spec_l4DrawRight.fk : Nat → denI spec_l4DrawRight.g.pms → Option (denR (outTys spec_l4DrawRight.g.rts spec_l4DrawRight.g.pms)) := fun k x => spec_l4DrawRight.f k x.1
@[reducible] noncomputable def spec_l4DrawRight.sm (k : Nat) : Sm := ⟨79, spec_l4DrawRight.g.pms, spec_l4DrawRight.g.rts, spec_l4DrawRight.fk k⟩
noncomputable def spec_l4DrawRight.E (k : Nat) : Env := ⟨tys, [spec_l1Below.sm k, spec_l1Once.sm k], [], [], []⟩
@[reducible] noncomputable def spec_l4DrawRight.s9 : List Slot := [.r 0 36001 [] tl1Cur, .r 8 9 [] tConfig, .r 12 13 [] tConfig, .v 16 (.int .i64) .z [] 0, .v 20 (.int .i64) .z [] 0, .v 9 tConfig (.two (.own .a) .z) [] 0, .v 13 tConfig (.two (.own .z) .z) [] 0, .v 36001 tl1Cur .z [] 0]
noncomputable def spec_l4DrawRight.pts : List (Pt (denR (outTys spec_l4DrawRight.g.rts spec_l4DrawRight.g.pms))) := [⟨9, spec_l4DrawRight.s9, fun k x => spec_l4DrawRight.p9 k x.1 x.2.1 x.2.2.1 x.2.2.2.1 x.2.2.2.2.1⟩]
theorem spec_l4DrawRight.h9 (k : Nat) (x0 : Int) (x1 : Int) (x2 : Config) (x3 : Config) (x4 : l1Cur) : (spec_l4DrawRight.p9 (k + 1) x0 x1 x2 x3 x4 : Option (denR (outTys spec_l4DrawRight.g.rts spec_l4DrawRight.g.pms))) = evAt (spec_l4DrawRight.E k) (fun κ s => lhOf k κ s spec_l4DrawRight.pts) 9 b79 (unproj spec_l4DrawRight.s9 (x0, x1, x2, x3, x4, ())) (OM.fin spec_l4DrawRight.g Try.f79.results.toList) := by kernel_rfl
theorem spec_l4DrawRight.hf (k : Nat) (a0 : l1Cur) : (spec_l4DrawRight.f k a0 : Option (denR (outTys spec_l4DrawRight.g.rts spec_l4DrawRight.g.pms))) = evC (spec_l4DrawRight.E k) (fun κ s => lhOf k κ s spec_l4DrawRight.pts) b79 (OM.start spec_l4DrawRight.g.pms 0 (a0, ())) (OM.fin spec_l4DrawRight.g Try.f79.results.toList) := by kernel_rfl
theorem spec_l4DrawRight.ok (k : Nat) : SmOk Try.prog (spec_l4DrawRight.sm k) :=
  sm_ok mixed (E := spec_l4DrawRight.E) (pts := spec_l4DrawRight.pts) (fun k => ⟨⟨tysOk, by kernel_rfl⟩, forall_cons ⟨spec_l1Below.ok k, e50⟩ (forall_cons ⟨spec_l1Once.ok k, e49⟩ (forall_nil))⟩) (fun _ => rfl) (fun _ => rfl)
    ⟨Try.func79, by kernel_rfl, by kernel_rfl, by kernel_rfl, by kernel_rfl, by kernel_rfl, by kernel_rfl⟩ (forall_cons (fun x => ⟨rfl, fun k => spec_l4DrawRight.h9 k x.1 x.2.1 x.2.2.1 x.2.2.2.1 x.2.2.2.2.1⟩) (forall_nil)) (fun k x => spec_l4DrawRight.hf k x.1) k
noncomputable def b172 : Code := Try.f172.body.getD .skip
theorem e172 : OM.Entry Try.prog 172 := ⟨_, Try.func172, by kernel_rfl, by kernel_rfl⟩
@[reducible] noncomputable def spec_l1Max.g : Sig := ⟨[.fz (.int .i64), .fz (.int .i64)], [.v (.int .i64) .z], []⟩
@[reducible] noncomputable def spec_l1Max.fk : Nat → denI spec_l1Max.g.pms → Option (denR (outTys spec_l1Max.g.rts spec_l1Max.g.pms)) := fun k x => spec_l1Max.f x.1 x.2.1
@[reducible] noncomputable def spec_l1Max.sm (k : Nat) : Sm := ⟨172, spec_l1Max.g.pms, spec_l1Max.g.rts, spec_l1Max.fk k⟩
noncomputable def spec_l1Max.E (k : Nat) : Env := ⟨tys, [], [], [], []⟩
noncomputable def spec_l1Max.pts : List (Pt (denR (outTys spec_l1Max.g.rts spec_l1Max.g.pms))) := []
theorem spec_l1Max.hf (k : Nat) (a0 : Int) (a1 : Int) : (spec_l1Max.f a0 a1 : Option (denR (outTys spec_l1Max.g.rts spec_l1Max.g.pms))) = evC (spec_l1Max.E k) (fun κ s => lhOf k κ s spec_l1Max.pts) b172 (OM.start spec_l1Max.g.pms 0 (a0, a1, ())) (OM.fin spec_l1Max.g Try.f172.results.toList) := by kernel_rfl
theorem spec_l1Max.ok (k : Nat) : SmOk Try.prog (spec_l1Max.sm k) :=
  sm_ok mixed (E := spec_l1Max.E) (pts := spec_l1Max.pts) (fun k => ⟨⟨tysOk, by kernel_rfl⟩, forall_nil⟩) (fun _ => rfl) (fun _ => rfl)
    ⟨Try.func172, by kernel_rfl, by kernel_rfl, by kernel_rfl, by kernel_rfl, by kernel_rfl, by kernel_rfl⟩ (forall_nil) (fun k x => spec_l1Max.hf k x.1 x.2.1) k
noncomputable def b129 : Code := Try.f129.body.getD .skip
theorem e129 : OM.Entry Try.prog 129 := ⟨_, Try.func129, by kernel_rfl, by kernel_rfl⟩
@[reducible] noncomputable def spec_l4Has.g : Sig := ⟨[.fz (.sl (.int .i64)), .fz (.int .i64)], [.v .bool .z], []⟩
@[reducible] noncomputable def spec_l4Has.fk : Nat → denI spec_l4Has.g.pms → Option (denR (outTys spec_l4Has.g.rts spec_l4Has.g.pms)) := fun k x => spec_l4Has.f k x.1 x.2.1
@[reducible] noncomputable def spec_l4Has.sm (k : Nat) : Sm := ⟨129, spec_l4Has.g.pms, spec_l4Has.g.rts, spec_l4Has.fk k⟩
noncomputable def spec_l4Has.E (k : Nat) : Env := ⟨tys, [], [], [], []⟩
@[reducible] noncomputable def spec_l4Has.s5 : List Slot := [.v 0 (.sl (.int .i64)) .z [] 0, .v 4 (.int .i64) .z [] 0, .v 20 (.int .i64) .z [] 0]
noncomputable def spec_l4Has.pts : List (Pt (denR (outTys spec_l4Has.g.rts spec_l4Has.g.pms))) := [⟨5, spec_l4Has.s5, fun k x => spec_l4Has.p5 k x.1 x.2.1 x.2.2.1⟩]
theorem spec_l4Has.h5 (k : Nat) (x0 : (List Int)) (x1 : Int) (x2 : Int) : (spec_l4Has.p5 (k + 1) x0 x1 x2 : Option (denR (outTys spec_l4Has.g.rts spec_l4Has.g.pms))) = evAt (spec_l4Has.E k) (fun κ s => lhOf k κ s spec_l4Has.pts) 5 b129 (unproj spec_l4Has.s5 (x0, x1, x2, ())) (OM.fin spec_l4Has.g Try.f129.results.toList) := by kernel_rfl
theorem spec_l4Has.hf (k : Nat) (a0 : (List Int)) (a1 : Int) : (spec_l4Has.f k a0 a1 : Option (denR (outTys spec_l4Has.g.rts spec_l4Has.g.pms))) = evC (spec_l4Has.E k) (fun κ s => lhOf k κ s spec_l4Has.pts) b129 (OM.start spec_l4Has.g.pms 0 (a0, a1, ())) (OM.fin spec_l4Has.g Try.f129.results.toList) := by kernel_rfl
theorem spec_l4Has.ok (k : Nat) : SmOk Try.prog (spec_l4Has.sm k) :=
  sm_ok mixed (E := spec_l4Has.E) (pts := spec_l4Has.pts) (fun k => ⟨⟨tysOk, by kernel_rfl⟩, forall_nil⟩) (fun _ => rfl) (fun _ => rfl)
    ⟨Try.func129, by kernel_rfl, by kernel_rfl, by kernel_rfl, by kernel_rfl, by kernel_rfl, by kernel_rfl⟩ (forall_cons (fun x => ⟨rfl, fun k => spec_l4Has.h5 k x.1 x.2.1 x.2.2.1⟩) (forall_nil)) (fun k x => spec_l4Has.hf k x.1 x.2.1) k
noncomputable def b60 : Code := Try.f60.body.getD .skip
theorem e60 : OM.Entry Try.prog 60 := ⟨_, Try.func60, by kernel_rfl, by kernel_rfl⟩
@[reducible] noncomputable def spec_l4Put.g : Sig := ⟨[.fz (.sl (.int .i64)), .fz (.int .i64)], [.v (.sl (.int .i64)) (.own .z)], []⟩
@[reducible] noncomputable def spec_l4Put.fk : Nat → denI spec_l4Put.g.pms → Option (denR (outTys spec_l4Put.g.rts spec_l4Put.g.pms)) := fun k x => spec_l4Put.f k x.1 x.2.1
@[reducible] noncomputable def spec_l4Put.sm (k : Nat) : Sm := ⟨60, spec_l4Put.g.pms, spec_l4Put.g.rts, spec_l4Put.fk k⟩
noncomputable def spec_l4Put.E (k : Nat) : Env := ⟨tys, [spec_l4Has.sm k], [36, 42], [], []⟩
@[reducible] noncomputable def spec_l4Put.s9 : List Slot := [.v 0 (.sl (.int .i64)) .z [] 0, .v 4 (.int .i64) .z [] 0, .v 20 (.sl (.int .i64)) (.own .z) [] 0, .v 24 .bool .z [] 0, .v 28 (.int .i64) .z [] 0]
noncomputable def spec_l4Put.pts : List (Pt (denR (outTys spec_l4Put.g.rts spec_l4Put.g.pms))) := [⟨9, spec_l4Put.s9, fun k x => spec_l4Put.p9 k x.1 x.2.1 x.2.2.1 x.2.2.2.1 x.2.2.2.2.1⟩]
theorem spec_l4Put.h9 (k : Nat) (x0 : (List Int)) (x1 : Int) (x2 : (List Int)) (x3 : Bool) (x4 : Int) : (spec_l4Put.p9 (k + 1) x0 x1 x2 x3 x4 : Option (denR (outTys spec_l4Put.g.rts spec_l4Put.g.pms))) = evAt (spec_l4Put.E k) (fun κ s => lhOf k κ s spec_l4Put.pts) 9 b60 (unproj spec_l4Put.s9 (x0, x1, x2, x3, x4, ())) (OM.fin spec_l4Put.g Try.f60.results.toList) := by kernel_rfl
theorem spec_l4Put.hf (k : Nat) (a0 : (List Int)) (a1 : Int) : (spec_l4Put.f k a0 a1 : Option (denR (outTys spec_l4Put.g.rts spec_l4Put.g.pms))) = evC (spec_l4Put.E k) (fun κ s => lhOf k κ s spec_l4Put.pts) b60 (OM.start spec_l4Put.g.pms 0 (a0, a1, ())) (OM.fin spec_l4Put.g Try.f60.results.toList) := by kernel_rfl
theorem spec_l4Put.ok (k : Nat) : SmOk Try.prog (spec_l4Put.sm k) :=
  sm_ok mixed (E := spec_l4Put.E) (pts := spec_l4Put.pts) (fun k => ⟨⟨tysOk, by kernel_rfl⟩, forall_cons ⟨spec_l4Has.ok k, e129⟩ (forall_nil)⟩) (fun _ => rfl) (fun _ => rfl)
    ⟨Try.func60, by kernel_rfl, by kernel_rfl, by kernel_rfl, by kernel_rfl, by kernel_rfl, by kernel_rfl⟩ (forall_cons (fun x => ⟨rfl, fun k => spec_l4Put.h9 k x.1 x.2.1 x.2.2.1 x.2.2.2.1 x.2.2.2.2.1⟩) (forall_nil)) (fun k x => spec_l4Put.hf k x.1 x.2.1) k
noncomputable def b122 : Code := Try.f122.body.getD .skip
theorem e122 : OM.Entry Try.prog 122 := ⟨_, Try.func122, by kernel_rfl, by kernel_rfl⟩
@[reducible] noncomputable def spec_l1PickInt.g : Sig := ⟨[.ptr tl1Cur .z .z, .fz (.sl (.int .i64))], [.v (.int .i64) .z], []⟩
@[reducible] noncomputable def spec_l1PickInt.fk : Nat → denI spec_l1PickInt.g.pms → Option (denR (outTys spec_l1PickInt.g.rts spec_l1PickInt.g.pms)) := fun k x => spec_l1PickInt.f x.1 x.2.1
@[reducible] noncomputable def spec_l1PickInt.sm (k : Nat) : Sm := ⟨122, spec_l1PickInt.g.pms, spec_l1PickInt.g.rts, spec_l1PickInt.fk k⟩
noncomputable def spec_l1PickInt.E (k : Nat) : Env := ⟨tys, [spec_l1Below.sm k], [], [], []⟩
noncomputable def spec_l1PickInt.pts : List (Pt (denR (outTys spec_l1PickInt.g.rts spec_l1PickInt.g.pms))) := []
theorem spec_l1PickInt.hf (k : Nat) (a0 : l1Cur) (a1 : (List Int)) : (spec_l1PickInt.f a0 a1 : Option (denR (outTys spec_l1PickInt.g.rts spec_l1PickInt.g.pms))) = evC (spec_l1PickInt.E k) (fun κ s => lhOf k κ s spec_l1PickInt.pts) b122 (OM.start spec_l1PickInt.g.pms 0 (a0, a1, ())) (OM.fin spec_l1PickInt.g Try.f122.results.toList) := by kernel_rfl
theorem spec_l1PickInt.ok (k : Nat) : SmOk Try.prog (spec_l1PickInt.sm k) :=
  sm_ok mixed (E := spec_l1PickInt.E) (pts := spec_l1PickInt.pts) (fun k => ⟨⟨tysOk, by kernel_rfl⟩, forall_cons ⟨spec_l1Below.ok k, e50⟩ (forall_nil)⟩) (fun _ => rfl) (fun _ => rfl)
    ⟨Try.func122, by kernel_rfl, by kernel_rfl, by kernel_rfl, by kernel_rfl, by kernel_rfl, by kernel_rfl⟩ (forall_nil) (fun k x => spec_l1PickInt.hf k x.1 x.2.1) k
noncomputable def b139 : Code := Try.f139.body.getD .skip
theorem e139 : OM.Entry Try.prog 139 := ⟨_, Try.func139, by kernel_rfl, by kernel_rfl⟩
@[reducible] noncomputable def spec_l4DrawNodes.g : Sig := ⟨[.ptr tl1Cur .z .z, .fz tConfig], [.v (.sl (.int .i64)) (.own .z)], []⟩
@[reducible] noncomputable def spec_l4DrawNodes.fk : Nat → denI spec_l4DrawNodes.g.pms → Option (denR (outTys spec_l4DrawNodes.g.rts spec_l4DrawNodes.g.pms)) := fun k x => spec_l4DrawNodes.f k x.1 x.2.1
@[reducible] noncomputable def spec_l4DrawNodes.sm (k : Nat) : Sm := ⟨139, spec_l4DrawNodes.g.pms, spec_l4DrawNodes.g.rts, spec_l4DrawNodes.fk k⟩
noncomputable def spec_l4DrawNodes.E (k : Nat) : Env := ⟨tys, [spec_l1Below.sm k, spec_l1Once.sm k, spec_l1Max.sm k, spec_l4Put.sm k, spec_l1PickInt.sm k], [], [], []⟩
@[reducible] noncomputable def spec_l4DrawNodes.s9 : List Slot := [.r 0 36001 [] tl1Cur, .r 12 13 [] tConfig, .v 20 (.sl (.int .i64)) (.own .z) [] 0, .v 24 (.int .i64) .z [] 0, .v 28 (.int .i64) .z [] 0, .v 13 tConfig .z [] 0, .v 36001 tl1Cur .z [] 0]
noncomputable def spec_l4DrawNodes.pts : List (Pt (denR (outTys spec_l4DrawNodes.g.rts spec_l4DrawNodes.g.pms))) := [⟨9, spec_l4DrawNodes.s9, fun k x => spec_l4DrawNodes.p9 k x.1 x.2.1 x.2.2.1 x.2.2.2.1 x.2.2.2.2.1⟩]
theorem spec_l4DrawNodes.h9 (k : Nat) (x0 : (List Int)) (x1 : Int) (x2 : Int) (x3 : Config) (x4 : l1Cur) : (spec_l4DrawNodes.p9 (k + 1) x0 x1 x2 x3 x4 : Option (denR (outTys spec_l4DrawNodes.g.rts spec_l4DrawNodes.g.pms))) = evAt (spec_l4DrawNodes.E k) (fun κ s => lhOf k κ s spec_l4DrawNodes.pts) 9 b139 (unproj spec_l4DrawNodes.s9 (x0, x1, x2, x3, x4, ())) (OM.fin spec_l4DrawNodes.g Try.f139.results.toList) := by kernel_rfl
theorem spec_l4DrawNodes.hf (k : Nat) (a0 : l1Cur) (a1 : Config) : (spec_l4DrawNodes.f k a0 a1 : Option (denR (outTys spec_l4DrawNodes.g.rts spec_l4DrawNodes.g.pms))) = evC (spec_l4DrawNodes.E k) (fun κ s => lhOf k κ s spec_l4DrawNodes.pts) b139 (OM.start spec_l4DrawNodes.g.pms 0 (a0, a1, ())) (OM.fin spec_l4DrawNodes.g Try.f139.results.toList) := by kernel_rfl
theorem spec_l4DrawNodes.ok (k : Nat) : SmOk Try.prog (spec_l4DrawNodes.sm k) :=
  sm_ok mixed (E := spec_l4DrawNodes.E) (pts := spec_l4DrawNodes.pts) (fun k => ⟨⟨tysOk, by kernel_rfl⟩, forall_cons ⟨spec_l1Below.ok k, e50⟩ (forall_cons ⟨spec_l1Once.ok k, e49⟩ (forall_cons ⟨spec_l1Max.ok k, e172⟩ (forall_cons ⟨spec_l4Put.ok k, e60⟩ (forall_cons ⟨spec_l1PickInt.ok k, e122⟩ (forall_nil)))))⟩) (fun _ => rfl) (fun _ => rfl)
    ⟨Try.func139, by kernel_rfl, by kernel_rfl, by kernel_rfl, by kernel_rfl, by kernel_rfl, by kernel_rfl⟩ (forall_cons (fun x => ⟨rfl, fun k => spec_l4DrawNodes.h9 k x.1 x.2.1 x.2.2.1 x.2.2.2.1 x.2.2.2.2.1⟩) (forall_nil)) (fun k x => spec_l4DrawNodes.hf k x.1 x.2.1) k
noncomputable def b71 : Code := Try.f71.body.getD .skip
theorem e71 : OM.Entry Try.prog 71 := ⟨_, Try.func71, by kernel_rfl, by kernel_rfl⟩
@[reducible] noncomputable def spec_l1In.g : Sig := ⟨[.fz (.int .i64), .fz (.int .i64), .fz (.int .i64)], [.v .bool .z], []⟩
@[reducible] noncomputable def spec_l1In.fk : Nat → denI spec_l1In.g.pms → Option (denR (outTys spec_l1In.g.rts spec_l1In.g.pms)) := fun k x => spec_l1In.f x.1 x.2.1 x.2.2.1
@[reducible] noncomputable def spec_l1In.sm (k : Nat) : Sm := ⟨71, spec_l1In.g.pms, spec_l1In.g.rts, spec_l1In.fk k⟩
noncomputable def spec_l1In.E (k : Nat) : Env := ⟨tys, [], [], [], []⟩
noncomputable def spec_l1In.pts : List (Pt (denR (outTys spec_l1In.g.rts spec_l1In.g.pms))) := []
theorem spec_l1In.hf (k : Nat) (a0 : Int) (a1 : Int) (a2 : Int) : (spec_l1In.f a0 a1 a2 : Option (denR (outTys spec_l1In.g.rts spec_l1In.g.pms))) = evC (spec_l1In.E k) (fun κ s => lhOf k κ s spec_l1In.pts) b71 (OM.start spec_l1In.g.pms 0 (a0, a1, a2, ())) (OM.fin spec_l1In.g Try.f71.results.toList) := by kernel_rfl
theorem spec_l1In.ok (k : Nat) : SmOk Try.prog (spec_l1In.sm k) :=
  sm_ok mixed (E := spec_l1In.E) (pts := spec_l1In.pts) (fun k => ⟨⟨tysOk, by kernel_rfl⟩, forall_nil⟩) (fun _ => rfl) (fun _ => rfl)
    ⟨Try.func71, by kernel_rfl, by kernel_rfl, by kernel_rfl, by kernel_rfl, by kernel_rfl, by kernel_rfl⟩ (forall_nil) (fun k x => spec_l1In.hf k x.1 x.2.1 x.2.2.1) k
noncomputable def b70 : Code := Try.f70.body.getD .skip
theorem e70 : OM.Entry Try.prog 70 := ⟨_, Try.func70, by kernel_rfl, by kernel_rfl⟩
@[reducible] noncomputable def spec_ConfigOk.g : Sig := ⟨[.fz tConfig], [.v .bool .z], []⟩
@[reducible] noncomputable def spec_ConfigOk.fk : Nat → denI spec_ConfigOk.g.pms → Option (denR (outTys spec_ConfigOk.g.rts spec_ConfigOk.g.pms)) := fun k x => spec_ConfigOk.f k x.1
@[reducible] noncomputable def spec_ConfigOk.sm (k : Nat) : Sm := ⟨70, spec_ConfigOk.g.pms, spec_ConfigOk.g.rts, spec_ConfigOk.fk k⟩
noncomputable def spec_ConfigOk.E (k : Nat) : Env := ⟨tys, [spec_l1In.sm k], [], [], []⟩
@[reducible] noncomputable def spec_ConfigOk.s9 : List Slot := [.r 4 5 [] tConfig, .v 12 (.int .i64) .z [] 0, .v 5 tConfig .z [] 0]
noncomputable def spec_ConfigOk.pts : List (Pt (denR (outTys spec_ConfigOk.g.rts spec_ConfigOk.g.pms))) := [⟨9, spec_ConfigOk.s9, fun k x => spec_ConfigOk.p9 k x.1 x.2.1⟩]
theorem spec_ConfigOk.h9 (k : Nat) (x0 : Int) (x1 : Config) : (spec_ConfigOk.p9 (k + 1) x0 x1 : Option (denR (outTys spec_ConfigOk.g.rts spec_ConfigOk.g.pms))) = evAt (spec_ConfigOk.E k) (fun κ s => lhOf k κ s spec_ConfigOk.pts) 9 b70 (unproj spec_ConfigOk.s9 (x0, x1, ())) (OM.fin spec_ConfigOk.g Try.f70.results.toList) := by kernel_rfl
theorem spec_ConfigOk.hf (k : Nat) (a0 : Config) : (spec_ConfigOk.f k a0 : Option (denR (outTys spec_ConfigOk.g.rts spec_ConfigOk.g.pms))) = evC (spec_ConfigOk.E k) (fun κ s => lhOf k κ s spec_ConfigOk.pts) b70 (OM.start spec_ConfigOk.g.pms 0 (a0, ())) (OM.fin spec_ConfigOk.g Try.f70.results.toList) := by kernel_rfl
theorem spec_ConfigOk.ok (k : Nat) : SmOk Try.prog (spec_ConfigOk.sm k) :=
  sm_ok mixed (E := spec_ConfigOk.E) (pts := spec_ConfigOk.pts) (fun k => ⟨⟨tysOk, by kernel_rfl⟩, forall_cons ⟨spec_l1In.ok k, e71⟩ (forall_nil)⟩) (fun _ => rfl) (fun _ => rfl)
    ⟨Try.func70, by kernel_rfl, by kernel_rfl, by kernel_rfl, by kernel_rfl, by kernel_rfl, by kernel_rfl⟩ (forall_cons (fun x => ⟨rfl, fun k => spec_ConfigOk.h9 k x.1 x.2.1⟩) (forall_nil)) (fun k x => spec_ConfigOk.hf k x.1) k
noncomputable def b134 : Code := Try.f134.body.getD .skip
theorem e134 : OM.Entry Try.prog 134 := ⟨_, Try.func134, by kernel_rfl, by kernel_rfl⟩
@[reducible] noncomputable def spec_l4Asc.g : Sig := ⟨[.fz (.sl (.int .i64)), .fz (.int .i64), .fz (.int .i64)], [.v .bool .z], []⟩
@[reducible] noncomputable def spec_l4Asc.fk : Nat → denI spec_l4Asc.g.pms → Option (denR (outTys spec_l4Asc.g.rts spec_l4Asc.g.pms)) := fun k x => spec_l4Asc.f k x.1 x.2.1 x.2.2.1
@[reducible] noncomputable def spec_l4Asc.sm (k : Nat) : Sm := ⟨134, spec_l4Asc.g.pms, spec_l4Asc.g.rts, spec_l4Asc.fk k⟩
noncomputable def spec_l4Asc.E (k : Nat) : Env := ⟨tys, [spec_l1In.sm k], [], [], []⟩
@[reducible] noncomputable def spec_l4Asc.s5 : List Slot := [.v 0 (.sl (.int .i64)) .z [] 0, .v 4 (.int .i64) .z [] 0, .v 8 (.int .i64) .z [] 0, .v 28 (.int .i64) .z [] 0]
noncomputable def spec_l4Asc.pts : List (Pt (denR (outTys spec_l4Asc.g.rts spec_l4Asc.g.pms))) := [⟨5, spec_l4Asc.s5, fun k x => spec_l4Asc.p5 k x.1 x.2.1 x.2.2.1 x.2.2.2.1⟩]
theorem spec_l4Asc.h5 (k : Nat) (x0 : (List Int)) (x1 : Int) (x2 : Int) (x3 : Int) : (spec_l4Asc.p5 (k + 1) x0 x1 x2 x3 : Option (denR (outTys spec_l4Asc.g.rts spec_l4Asc.g.pms))) = evAt (spec_l4Asc.E k) (fun κ s => lhOf k κ s spec_l4Asc.pts) 5 b134 (unproj spec_l4Asc.s5 (x0, x1, x2, x3, ())) (OM.fin spec_l4Asc.g Try.f134.results.toList) := by kernel_rfl
theorem spec_l4Asc.hf (k : Nat) (a0 : (List Int)) (a1 : Int) (a2 : Int) : (spec_l4Asc.f k a0 a1 a2 : Option (denR (outTys spec_l4Asc.g.rts spec_l4Asc.g.pms))) = evC (spec_l4Asc.E k) (fun κ s => lhOf k κ s spec_l4Asc.pts) b134 (OM.start spec_l4Asc.g.pms 0 (a0, a1, a2, ())) (OM.fin spec_l4Asc.g Try.f134.results.toList) := by kernel_rfl
theorem spec_l4Asc.ok (k : Nat) : SmOk Try.prog (spec_l4Asc.sm k) :=
  sm_ok mixed (E := spec_l4Asc.E) (pts := spec_l4Asc.pts) (fun k => ⟨⟨tysOk, by kernel_rfl⟩, forall_cons ⟨spec_l1In.ok k, e71⟩ (forall_nil)⟩) (fun _ => rfl) (fun _ => rfl)
    ⟨Try.func134, by kernel_rfl, by kernel_rfl, by kernel_rfl, by kernel_rfl, by kernel_rfl, by kernel_rfl⟩ (forall_cons (fun x => ⟨rfl, fun k => spec_l4Asc.h5 k x.1 x.2.1 x.2.2.1 x.2.2.2.1⟩) (forall_nil)) (fun k x => spec_l4Asc.hf k x.1 x.2.1 x.2.2.1) k
noncomputable def b72 : Code := Try.f72.body.getD .skip
theorem e72 : OM.Entry Try.prog 72 := ⟨_, Try.func72, by kernel_rfl, by kernel_rfl⟩
@[reducible] noncomputable def spec_NodesOk.g : Sig := ⟨[.fz tConfig, .fz (.sl (.int .i64))], [.v .bool .z], []⟩
@[reducible] noncomputable def spec_NodesOk.fk : Nat → denI spec_NodesOk.g.pms → Option (denR (outTys spec_NodesOk.g.rts spec_NodesOk.g.pms)) := fun k x => spec_NodesOk.f k x.1 x.2.1
@[reducible] noncomputable def spec_NodesOk.sm (k : Nat) : Sm := ⟨72, spec_NodesOk.g.pms, spec_NodesOk.g.rts, spec_NodesOk.fk k⟩
noncomputable def spec_NodesOk.E (k : Nat) : Env := ⟨tys, [spec_ConfigOk.sm k, spec_l4Asc.sm k], [], [], []⟩
noncomputable def spec_NodesOk.pts : List (Pt (denR (outTys spec_NodesOk.g.rts spec_NodesOk.g.pms))) := []
theorem spec_NodesOk.hf (k : Nat) (a0 : Config) (a1 : (List Int)) : (spec_NodesOk.f k a0 a1 : Option (denR (outTys spec_NodesOk.g.rts spec_NodesOk.g.pms))) = evC (spec_NodesOk.E k) (fun κ s => lhOf k κ s spec_NodesOk.pts) b72 (OM.start spec_NodesOk.g.pms 0 (a0, a1, ())) (OM.fin spec_NodesOk.g Try.f72.results.toList) := by kernel_rfl
theorem spec_NodesOk.ok (k : Nat) : SmOk Try.prog (spec_NodesOk.sm k) :=
  sm_ok mixed (E := spec_NodesOk.E) (pts := spec_NodesOk.pts) (fun k => ⟨⟨tysOk, by kernel_rfl⟩, forall_cons ⟨spec_ConfigOk.ok k, e70⟩ (forall_cons ⟨spec_l4Asc.ok k, e134⟩ (forall_nil))⟩) (fun _ => rfl) (fun _ => rfl)
    ⟨Try.func72, by kernel_rfl, by kernel_rfl, by kernel_rfl, by kernel_rfl, by kernel_rfl, by kernel_rfl⟩ (forall_nil) (fun k x => spec_NodesOk.hf k x.1 x.2.1) k
noncomputable def b147 : Code := Try.f147.body.getD .skip
theorem e147 : OM.Entry Try.prog 147 := ⟨_, Try.func147, by kernel_rfl, by kernel_rfl⟩
@[reducible] noncomputable def spec_l4Span.g : Sig := ⟨[.fz tConfig, .fz (.sl (.int .i64))], [.v (.int .i64) .z], []⟩
@[reducible] noncomputable def spec_l4Span.fk : Nat → denI spec_l4Span.g.pms → Option (denR (outTys spec_l4Span.g.rts spec_l4Span.g.pms)) := fun k x => spec_l4Span.f k x.1 x.2.1
@[reducible] noncomputable def spec_l4Span.sm (k : Nat) : Sm := ⟨147, spec_l4Span.g.pms, spec_l4Span.g.rts, spec_l4Span.fk k⟩
noncomputable def spec_l4Span.E (k : Nat) : Env := ⟨tys, [], [23], [], []⟩
@[reducible] noncomputable def spec_l4Span.s9 : List Slot := [.v 4 (.sl (.int .i64)) .z [] 0, .r 8 9 [] tConfig, .v 20 (.sl .bool) (.own .z) [] 0, .v 24 (.int .i64) .z [] 0, .v 28 (.int .i64) .z [] 0, .v 9 tConfig .z [] 0]
noncomputable def spec_l4Span.pts : List (Pt (denR (outTys spec_l4Span.g.rts spec_l4Span.g.pms))) := [⟨9, spec_l4Span.s9, fun k x => spec_l4Span.p9 k x.1 x.2.1 x.2.2.1 x.2.2.2.1 x.2.2.2.2.1⟩]
theorem spec_l4Span.h9 (k : Nat) (x0 : (List Int)) (x1 : (List Bool)) (x2 : Int) (x3 : Int) (x4 : Config) : (spec_l4Span.p9 (k + 1) x0 x1 x2 x3 x4 : Option (denR (outTys spec_l4Span.g.rts spec_l4Span.g.pms))) = evAt (spec_l4Span.E k) (fun κ s => lhOf k κ s spec_l4Span.pts) 9 b147 (unproj spec_l4Span.s9 (x0, x1, x2, x3, x4, ())) (OM.fin spec_l4Span.g Try.f147.results.toList) := by kernel_rfl
theorem spec_l4Span.hf (k : Nat) (a0 : Config) (a1 : (List Int)) : (spec_l4Span.f k a0 a1 : Option (denR (outTys spec_l4Span.g.rts spec_l4Span.g.pms))) = evC (spec_l4Span.E k) (fun κ s => lhOf k κ s spec_l4Span.pts) b147 (OM.start spec_l4Span.g.pms 0 (a0, a1, ())) (OM.fin spec_l4Span.g Try.f147.results.toList) := by kernel_rfl
theorem spec_l4Span.ok (k : Nat) : SmOk Try.prog (spec_l4Span.sm k) :=
  sm_ok mixed (E := spec_l4Span.E) (pts := spec_l4Span.pts) (fun k => ⟨⟨tysOk, by kernel_rfl⟩, forall_nil⟩) (fun _ => rfl) (fun _ => rfl)
    ⟨Try.func147, by kernel_rfl, by kernel_rfl, by kernel_rfl, by kernel_rfl, by kernel_rfl, by kernel_rfl⟩ (forall_cons (fun x => ⟨rfl, fun k => spec_l4Span.h9 k x.1 x.2.1 x.2.2.1 x.2.2.2.1 x.2.2.2.2.1⟩) (forall_nil)) (fun k x => spec_l4Span.hf k x.1 x.2.1) k
noncomputable def b145 : Code := Try.f145.body.getD .skip
theorem e145 : OM.Entry Try.prog 145 := ⟨_, Try.func145, by kernel_rfl, by kernel_rfl⟩
@[reducible] noncomputable def spec_Holds.g : Sig := ⟨[.fz tConfig, .fz (.sl (.int .i64))], [.v .bool .z], []⟩
@[reducible] noncomputable def spec_Holds.fk : Nat → denI spec_Holds.g.pms → Option (denR (outTys spec_Holds.g.rts spec_Holds.g.pms)) := fun k x => spec_Holds.f k x.1 x.2.1
@[reducible] noncomputable def spec_Holds.sm (k : Nat) : Sm := ⟨145, spec_Holds.g.pms, spec_Holds.g.rts, spec_Holds.fk k⟩
noncomputable def spec_Holds.E (k : Nat) : Env := ⟨tys, [spec_NodesOk.sm k, spec_l4Span.sm k], [], [], []⟩
noncomputable def spec_Holds.pts : List (Pt (denR (outTys spec_Holds.g.rts spec_Holds.g.pms))) := []
theorem spec_Holds.hf (k : Nat) (a0 : Config) (a1 : (List Int)) : (spec_Holds.f k a0 a1 : Option (denR (outTys spec_Holds.g.rts spec_Holds.g.pms))) = evC (spec_Holds.E k) (fun κ s => lhOf k κ s spec_Holds.pts) b145 (OM.start spec_Holds.g.pms 0 (a0, a1, ())) (OM.fin spec_Holds.g Try.f145.results.toList) := by kernel_rfl
theorem spec_Holds.ok (k : Nat) : SmOk Try.prog (spec_Holds.sm k) :=
  sm_ok mixed (E := spec_Holds.E) (pts := spec_Holds.pts) (fun k => ⟨⟨tysOk, by kernel_rfl⟩, forall_cons ⟨spec_NodesOk.ok k, e72⟩ (forall_cons ⟨spec_l4Span.ok k, e147⟩ (forall_nil))⟩) (fun _ => rfl) (fun _ => rfl)
    ⟨Try.func145, by kernel_rfl, by kernel_rfl, by kernel_rfl, by kernel_rfl, by kernel_rfl, by kernel_rfl⟩ (forall_nil) (fun k x => spec_Holds.hf k x.1 x.2.1) k
noncomputable def b140 : Code := Try.f140.body.getD .skip
theorem e140 : OM.Entry Try.prog 140 := ⟨_, Try.func140, by kernel_rfl, by kernel_rfl⟩
@[reducible] noncomputable def spec_l7DrawSet.g : Sig := ⟨[.ptr tl1Cur .z .z, .fz tConfig], [.v (.sl (.int .i64)) (.own .z)], []⟩
@[reducible] noncomputable def spec_l7DrawSet.fk : Nat → denI spec_l7DrawSet.g.pms → Option (denR (outTys spec_l7DrawSet.g.rts spec_l7DrawSet.g.pms)) := fun k x => spec_l7DrawSet.f k x.1 x.2.1
@[reducible] noncomputable def spec_l7DrawSet.sm (k : Nat) : Sm := ⟨140, spec_l7DrawSet.g.pms, spec_l7DrawSet.g.rts, spec_l7DrawSet.fk k⟩
noncomputable def spec_l7DrawSet.E (k : Nat) : Env := ⟨tys, [spec_l4Put.sm k, spec_l4DrawNodes.sm k, spec_Holds.sm k], [], [], []⟩
@[reducible] noncomputable def spec_l7DrawSet.s7 : List Slot := [.r 0 36001 [] tl1Cur, .r 12 13 [] tConfig, .v 20 (.sl (.int .i64)) (.own .z) [] 0, .v 24 (.int .i64) .z [] 0, .v 13 tConfig .z [] 0, .v 36001 tl1Cur .z [] 0]
noncomputable def spec_l7DrawSet.pts : List (Pt (denR (outTys spec_l7DrawSet.g.rts spec_l7DrawSet.g.pms))) := [⟨7, spec_l7DrawSet.s7, fun k x => spec_l7DrawSet.p7 k x.1 x.2.1 x.2.2.1 x.2.2.2.1⟩]
theorem spec_l7DrawSet.h7 (k : Nat) (x0 : (List Int)) (x1 : Int) (x2 : Config) (x3 : l1Cur) : (spec_l7DrawSet.p7 (k + 1) x0 x1 x2 x3 : Option (denR (outTys spec_l7DrawSet.g.rts spec_l7DrawSet.g.pms))) = evAt (spec_l7DrawSet.E k) (fun κ s => lhOf k κ s spec_l7DrawSet.pts) 7 b140 (unproj spec_l7DrawSet.s7 (x0, x1, x2, x3, ())) (OM.fin spec_l7DrawSet.g Try.f140.results.toList) := by kernel_rfl
theorem spec_l7DrawSet.hf (k : Nat) (a0 : l1Cur) (a1 : Config) : (spec_l7DrawSet.f k a0 a1 : Option (denR (outTys spec_l7DrawSet.g.rts spec_l7DrawSet.g.pms))) = evC (spec_l7DrawSet.E k) (fun κ s => lhOf k κ s spec_l7DrawSet.pts) b140 (OM.start spec_l7DrawSet.g.pms 0 (a0, a1, ())) (OM.fin spec_l7DrawSet.g Try.f140.results.toList) := by kernel_rfl
theorem spec_l7DrawSet.ok (k : Nat) : SmOk Try.prog (spec_l7DrawSet.sm k) :=
  sm_ok mixed (E := spec_l7DrawSet.E) (pts := spec_l7DrawSet.pts) (fun k => ⟨⟨tysOk, by kernel_rfl⟩, forall_cons ⟨spec_l4Put.ok k, e60⟩ (forall_cons ⟨spec_l4DrawNodes.ok k, e139⟩ (forall_cons ⟨spec_Holds.ok k, e145⟩ (forall_nil)))⟩) (fun _ => rfl) (fun _ => rfl)
    ⟨Try.func140, by kernel_rfl, by kernel_rfl, by kernel_rfl, by kernel_rfl, by kernel_rfl, by kernel_rfl⟩ (forall_cons (fun x => ⟨rfl, fun k => spec_l7DrawSet.h7 k x.1 x.2.1 x.2.2.1 x.2.2.2.1⟩) (forall_nil)) (fun k x => spec_l7DrawSet.hf k x.1 x.2.1) k
noncomputable def b52 : Code := Try.f52.body.getD .skip
theorem e52 : OM.Entry Try.prog 52 := ⟨_, Try.func52, by kernel_rfl, by kernel_rfl⟩
@[reducible] noncomputable def spec_PlaceOk.g : Sig := ⟨[.fz (.int .i64)], [.v .bool .z], []⟩
@[reducible] noncomputable def spec_PlaceOk.fk : Nat → denI spec_PlaceOk.g.pms → Option (denR (outTys spec_PlaceOk.g.rts spec_PlaceOk.g.pms)) := fun k x => spec_PlaceOk.f x.1
@[reducible] noncomputable def spec_PlaceOk.sm (k : Nat) : Sm := ⟨52, spec_PlaceOk.g.pms, spec_PlaceOk.g.rts, spec_PlaceOk.fk k⟩
noncomputable def spec_PlaceOk.E (k : Nat) : Env := ⟨tys, [spec_l1In.sm k], [], [], []⟩
noncomputable def spec_PlaceOk.pts : List (Pt (denR (outTys spec_PlaceOk.g.rts spec_PlaceOk.g.pms))) := []
theorem spec_PlaceOk.hf (k : Nat) (a0 : Int) : (spec_PlaceOk.f a0 : Option (denR (outTys spec_PlaceOk.g.rts spec_PlaceOk.g.pms))) = evC (spec_PlaceOk.E k) (fun κ s => lhOf k κ s spec_PlaceOk.pts) b52 (OM.start spec_PlaceOk.g.pms 0 (a0, ())) (OM.fin spec_PlaceOk.g Try.f52.results.toList) := by kernel_rfl
theorem spec_PlaceOk.ok (k : Nat) : SmOk Try.prog (spec_PlaceOk.sm k) :=
  sm_ok mixed (E := spec_PlaceOk.E) (pts := spec_PlaceOk.pts) (fun k => ⟨⟨tysOk, by kernel_rfl⟩, forall_cons ⟨spec_l1In.ok k, e71⟩ (forall_nil)⟩) (fun _ => rfl) (fun _ => rfl)
    ⟨Try.func52, by kernel_rfl, by kernel_rfl, by kernel_rfl, by kernel_rfl, by kernel_rfl, by kernel_rfl⟩ (forall_nil) (fun k x => spec_PlaceOk.hf k x.1) k
noncomputable def b61 : Code := Try.f61.body.getD .skip
theorem e61 : OM.Entry Try.prog 61 := ⟨_, Try.func61, by kernel_rfl, by kernel_rfl⟩
@[reducible] noncomputable def spec_EpochOf.g : Sig := ⟨[.fz (.int .i64)], [.v (.int .i64) .z], []⟩
@[reducible] noncomputable def spec_EpochOf.fk : Nat → denI spec_EpochOf.g.pms → Option (denR (outTys spec_EpochOf.g.rts spec_EpochOf.g.pms)) := fun k x => spec_EpochOf.f x.1
@[reducible] noncomputable def spec_EpochOf.sm (k : Nat) : Sm := ⟨61, spec_EpochOf.g.pms, spec_EpochOf.g.rts, spec_EpochOf.fk k⟩
noncomputable def spec_EpochOf.E (k : Nat) : Env := ⟨tys, [spec_PlaceOk.sm k], [], [], []⟩
noncomputable def spec_EpochOf.pts : List (Pt (denR (outTys spec_EpochOf.g.rts spec_EpochOf.g.pms))) := []
theorem spec_EpochOf.hf (k : Nat) (a0 : Int) : (spec_EpochOf.f a0 : Option (denR (outTys spec_EpochOf.g.rts spec_EpochOf.g.pms))) = evC (spec_EpochOf.E k) (fun κ s => lhOf k κ s spec_EpochOf.pts) b61 (OM.start spec_EpochOf.g.pms 0 (a0, ())) (OM.fin spec_EpochOf.g Try.f61.results.toList) := by kernel_rfl
theorem spec_EpochOf.ok (k : Nat) : SmOk Try.prog (spec_EpochOf.sm k) :=
  sm_ok mixed (E := spec_EpochOf.E) (pts := spec_EpochOf.pts) (fun k => ⟨⟨tysOk, by kernel_rfl⟩, forall_cons ⟨spec_PlaceOk.ok k, e52⟩ (forall_nil)⟩) (fun _ => rfl) (fun _ => rfl)
    ⟨Try.func61, by kernel_rfl, by kernel_rfl, by kernel_rfl, by kernel_rfl, by kernel_rfl, by kernel_rfl⟩ (forall_nil) (fun k x => spec_EpochOf.hf k x.1) k
noncomputable def b90 : Code := Try.f90.body.getD .skip
theorem e90 : OM.Entry Try.prog 90 := ⟨_, Try.func90, by kernel_rfl, by kernel_rfl⟩
@[reducible] noncomputable def spec_RegOk.g : Sig := ⟨[.fz tConfig, .fz tRegister], [.v .bool .z], []⟩
@[reducible] noncomputable def spec_RegOk.fk : Nat → denI spec_RegOk.g.pms → Option (denR (outTys spec_RegOk.g.rts spec_RegOk.g.pms)) := fun k x => spec_RegOk.f k x.1 x.2.1
@[reducible] noncomputable def spec_RegOk.sm (k : Nat) : Sm := ⟨90, spec_RegOk.g.pms, spec_RegOk.g.rts, spec_RegOk.fk k⟩
noncomputable def spec_RegOk.E (k : Nat) : Env := ⟨tys, [spec_l1In.sm k, spec_ConfigOk.sm k, spec_Holds.sm k, spec_PlaceOk.sm k, spec_EpochOf.sm k], [45], [4, 10], []⟩
@[reducible] noncomputable def spec_RegOk.s8 : List Slot := [.r 8 9 [] tConfig, .r 12 13 [] tRegister, .v 20 (.int .i64) .z [] 0, .v 9 tConfig .z [] 0, .v 13 tRegister .z [] 0]
@[reducible] noncomputable def spec_RegOk.s11 : List Slot := [.r 8 9 [] tConfig, .r 12 13 [] tRegister, .v 20 (.int .i64) .z [] 0, .v 24 (.int .i64) .z [] 0, .v 9 tConfig .z [] 0, .v 13 tRegister .z [] 0]
@[reducible] noncomputable def spec_RegOk.s20 : List Slot := [.r 8 9 [] tConfig, .r 12 13 [] tRegister, .v 20 (.int .i64) .z [] 0, .v 24 (.int .i64) .z [] 0, .r 28 29 [] tEra, .r 208 29 [.snd, .snd, .fst] (.int .i64), .v 212 (.int .i64) .z [] 0, .v 216 .bool .z [] 0, .v 220 .bool .z [] 0, .r 232 29 [.snd, .fst] .bool, .v 236 .bool .z [] 0, .v 240 .bool .z [] 0, .v 244 .bool .z [] 0, .v 260 .bool .z [] 0, .v 9 tConfig .z [] 0, .v 13 tRegister .z [] 0, .v 29 tEra .z [] 0]
noncomputable def spec_RegOk.pts : List (Pt (denR (outTys spec_RegOk.g.rts spec_RegOk.g.pms))) := [⟨8, spec_RegOk.s8, fun k x => spec_RegOk.p8 k x.1 x.2.1 x.2.2.1⟩, ⟨11, spec_RegOk.s11, fun k x => spec_RegOk.p11 k x.1 x.2.1 x.2.2.1 x.2.2.2.1⟩, ⟨20, spec_RegOk.s20, fun k x => spec_RegOk.p20 k x.1 x.2.1 x.2.2.1 x.2.2.2.1 x.2.2.2.2.1 x.2.2.2.2.2.1 x.2.2.2.2.2.2.1 x.2.2.2.2.2.2.2.1 x.2.2.2.2.2.2.2.2.1 x.2.2.2.2.2.2.2.2.2.1 x.2.2.2.2.2.2.2.2.2.2.1 x.2.2.2.2.2.2.2.2.2.2.2.1⟩]
theorem spec_RegOk.h8 (k : Nat) (x0 : Int) (x1 : Config) (x2 : Register) : (spec_RegOk.p8 (k + 1) x0 x1 x2 : Option (denR (outTys spec_RegOk.g.rts spec_RegOk.g.pms))) = evAt (spec_RegOk.E k) (fun κ s => lhOf k κ s spec_RegOk.pts) 8 b90 (unproj spec_RegOk.s8 (x0, x1, x2, ())) (OM.fin spec_RegOk.g Try.f90.results.toList) := by kernel_rfl
theorem spec_RegOk.h11 (k : Nat) (x0 : Int) (x1 : Int) (x2 : Config) (x3 : Register) : (spec_RegOk.p11 (k + 1) x0 x1 x2 x3 : Option (denR (outTys spec_RegOk.g.rts spec_RegOk.g.pms))) = evAt (spec_RegOk.E k) (fun κ s => lhOf k κ s spec_RegOk.pts) 11 b90 (unproj spec_RegOk.s11 (x0, x1, x2, x3, ())) (OM.fin spec_RegOk.g Try.f90.results.toList) := by kernel_rfl
theorem spec_RegOk.h20 (k : Nat) (x0 : Int) (x1 : Int) (x2 : Int) (x3 : Bool) (x4 : Bool) (x5 : Bool) (x6 : Bool) (x7 : Bool) (x8 : Bool) (x9 : Config) (x10 : Register) (x11 : Era) : (spec_RegOk.p20 (k + 1) x0 x1 x2 x3 x4 x5 x6 x7 x8 x9 x10 x11 : Option (denR (outTys spec_RegOk.g.rts spec_RegOk.g.pms))) = evAt (spec_RegOk.E k) (fun κ s => lhOf k κ s spec_RegOk.pts) 20 b90 (unproj spec_RegOk.s20 (x0, x1, x2, x3, x4, x5, x6, x7, x8, x9, x10, x11, ())) (OM.fin spec_RegOk.g Try.f90.results.toList) := by kernel_rfl
theorem spec_RegOk.hf (k : Nat) (a0 : Config) (a1 : Register) : (spec_RegOk.f k a0 a1 : Option (denR (outTys spec_RegOk.g.rts spec_RegOk.g.pms))) = evC (spec_RegOk.E k) (fun κ s => lhOf k κ s spec_RegOk.pts) b90 (OM.start spec_RegOk.g.pms 0 (a0, a1, ())) (OM.fin spec_RegOk.g Try.f90.results.toList) := by kernel_rfl
theorem spec_RegOk.ok (k : Nat) : SmOk Try.prog (spec_RegOk.sm k) :=
  sm_ok mixed (E := spec_RegOk.E) (pts := spec_RegOk.pts) (fun k => ⟨⟨tysOk, by kernel_rfl⟩, forall_cons ⟨spec_l1In.ok k, e71⟩ (forall_cons ⟨spec_ConfigOk.ok k, e70⟩ (forall_cons ⟨spec_Holds.ok k, e145⟩ (forall_cons ⟨spec_PlaceOk.ok k, e52⟩ (forall_cons ⟨spec_EpochOf.ok k, e61⟩ (forall_nil)))))⟩) (fun _ => rfl) (fun _ => rfl)
    ⟨Try.func90, by kernel_rfl, by kernel_rfl, by kernel_rfl, by kernel_rfl, by kernel_rfl, by kernel_rfl⟩ (forall_cons (fun x => ⟨rfl, fun k => spec_RegOk.h8 k x.1 x.2.1 x.2.2.1⟩) (forall_cons (fun x => ⟨rfl, fun k => spec_RegOk.h11 k x.1 x.2.1 x.2.2.1 x.2.2.2.1⟩) (forall_cons (fun x => ⟨rfl, fun k => spec_RegOk.h20 k x.1 x.2.1 x.2.2.1 x.2.2.2.1 x.2.2.2.2.1 x.2.2.2.2.2.1 x.2.2.2.2.2.2.1 x.2.2.2.2.2.2.2.1 x.2.2.2.2.2.2.2.2.1 x.2.2.2.2.2.2.2.2.2.1 x.2.2.2.2.2.2.2.2.2.2.1 x.2.2.2.2.2.2.2.2.2.2.2.1⟩) (forall_nil)))) (fun k x => spec_RegOk.hf k x.1 x.2.1) k
noncomputable def b181 : Code := Try.f181.body.getD .skip
theorem e181 : OM.Entry Try.prog 181 := ⟨_, Try.func181, by kernel_rfl, by kernel_rfl⟩
@[reducible] noncomputable def spec_l7Copy.g : Sig := ⟨[.fz tRegister], [.v tRegister (.two (.own (.two (.own .z) .z)) .z)], []⟩
@[reducible] noncomputable def spec_l7Copy.fk : Nat → denI spec_l7Copy.g.pms → Option (denR (outTys spec_l7Copy.g.rts spec_l7Copy.g.pms)) := fun k x => spec_l7Copy.f k x.1
@[reducible] noncomputable def spec_l7Copy.sm (k : Nat) : Sm := ⟨181, spec_l7Copy.g.pms, spec_l7Copy.g.rts, spec_l7Copy.fk k⟩
noncomputable def spec_l7Copy.E (k : Nat) : Env := ⟨tys, [], [20, 28], [], []⟩
@[reducible] noncomputable def spec_l7Copy.s7 : List Slot := [.r 4 5 [] tRegister, .r 8 9 [] tRegister, .r 12 13 [] tRegister, .v 16 (.int .i64) .z [] 0, .v 5 tRegister .z [] 0, .v 9 tRegister (.two (.own .a) .z) [] 0, .v 13 tRegister (.two (.own (.two (.own .z) .z)) .z) [] 0]
noncomputable def spec_l7Copy.pts : List (Pt (denR (outTys spec_l7Copy.g.rts spec_l7Copy.g.pms))) := [⟨7, spec_l7Copy.s7, fun k x => spec_l7Copy.p7 k x.1 x.2.1 x.2.2.1 x.2.2.2.1⟩]
theorem spec_l7Copy.h7 (k : Nat) (x0 : Int) (x1 : Register) (x2 : Register) (x3 : Register) : (spec_l7Copy.p7 (k + 1) x0 x1 x2 x3 : Option (denR (outTys spec_l7Copy.g.rts spec_l7Copy.g.pms))) = evAt (spec_l7Copy.E k) (fun κ s => lhOf k κ s spec_l7Copy.pts) 7 b181 (unproj spec_l7Copy.s7 (x0, x1, x2, x3, ())) (OM.fin spec_l7Copy.g Try.f181.results.toList) := by kernel_rfl
theorem spec_l7Copy.hf (k : Nat) (a0 : Register) : (spec_l7Copy.f k a0 : Option (denR (outTys spec_l7Copy.g.rts spec_l7Copy.g.pms))) = evC (spec_l7Copy.E k) (fun κ s => lhOf k κ s spec_l7Copy.pts) b181 (OM.start spec_l7Copy.g.pms 0 (a0, ())) (OM.fin spec_l7Copy.g Try.f181.results.toList) := by kernel_rfl
theorem spec_l7Copy.ok (k : Nat) : SmOk Try.prog (spec_l7Copy.sm k) :=
  sm_ok mixed (E := spec_l7Copy.E) (pts := spec_l7Copy.pts) (fun k => ⟨⟨tysOk, by kernel_rfl⟩, forall_nil⟩) (fun _ => rfl) (fun _ => rfl)
    ⟨Try.func181, by kernel_rfl, by kernel_rfl, by kernel_rfl, by kernel_rfl, by kernel_rfl, by kernel_rfl⟩ (forall_cons (fun x => ⟨rfl, fun k => spec_l7Copy.h7 k x.1 x.2.1 x.2.2.1 x.2.2.2.1⟩) (forall_nil)) (fun k x => spec_l7Copy.hf k x.1) k
noncomputable def b169 : Code := Try.f169.body.getD .skip
theorem e169 : OM.Entry Try.prog 169 := ⟨_, Try.func169, by kernel_rfl, by kernel_rfl⟩
@[reducible] noncomputable def spec_RegOpen.g : Sig := ⟨[.fz tConfig, .fz tRegister, .fz (.sl (.int .i64))], [.v tRegister (.two (.own (.two (.own .z) .z)) .z), .v (.int .i64) .z, .v .bool .z], []⟩
@[reducible] noncomputable def spec_RegOpen.fk : Nat → denI spec_RegOpen.g.pms → Option (denR (outTys spec_RegOpen.g.rts spec_RegOpen.g.pms)) := fun k x => spec_RegOpen.f k x.1 x.2.1 x.2.2.1
@[reducible] noncomputable def spec_RegOpen.sm (k : Nat) : Sm := ⟨169, spec_RegOpen.g.pms, spec_RegOpen.g.rts, spec_RegOpen.fk k⟩
noncomputable def spec_RegOpen.E (k : Nat) : Env := ⟨tys, [spec_Holds.sm k, spec_RegOk.sm k, spec_l7Copy.sm k], [31], [], []⟩
noncomputable def spec_RegOpen.pts : List (Pt (denR (outTys spec_RegOpen.g.rts spec_RegOpen.g.pms))) := []
theorem spec_RegOpen.hf (k : Nat) (a0 : Config) (a1 : Register) (a2 : (List Int)) : (spec_RegOpen.f k a0 a1 a2 : Option (denR (outTys spec_RegOpen.g.rts spec_RegOpen.g.pms))) = evC (spec_RegOpen.E k) (fun κ s => lhOf k κ s spec_RegOpen.pts) b169 (OM.start spec_RegOpen.g.pms 0 (a0, a1, a2, ())) (OM.fin spec_RegOpen.g Try.f169.results.toList) := by kernel_rfl
theorem spec_RegOpen.ok (k : Nat) : SmOk Try.prog (spec_RegOpen.sm k) :=
  sm_ok mixed (E := spec_RegOpen.E) (pts := spec_RegOpen.pts) (fun k => ⟨⟨tysOk, by kernel_rfl⟩, forall_cons ⟨spec_Holds.ok k, e145⟩ (forall_cons ⟨spec_RegOk.ok k, e90⟩ (forall_cons ⟨spec_l7Copy.ok k, e181⟩ (forall_nil)))⟩) (fun _ => rfl) (fun _ => rfl)
    ⟨Try.func169, by kernel_rfl, by kernel_rfl, by kernel_rfl, by kernel_rfl, by kernel_rfl, by kernel_rfl⟩ (forall_nil) (fun k x => spec_RegOpen.hf k x.1 x.2.1 x.2.2.1) k
noncomputable def b182 : Code := Try.f182.body.getD .skip
theorem e182 : OM.Entry Try.prog 182 := ⟨_, Try.func182, by kernel_rfl, by kernel_rfl⟩
@[reducible] noncomputable def spec_FirstOpen.g : Sig := ⟨[.fz tRegister], [.v (.int .i64) .z], []⟩
@[reducible] noncomputable def spec_FirstOpen.fk : Nat → denI spec_FirstOpen.g.pms → Option (denR (outTys spec_FirstOpen.g.rts spec_FirstOpen.g.pms)) := fun k x => spec_FirstOpen.f k x.1
@[reducible] noncomputable def spec_FirstOpen.sm (k : Nat) : Sm := ⟨182, spec_FirstOpen.g.pms, spec_FirstOpen.g.rts, spec_FirstOpen.fk k⟩
noncomputable def spec_FirstOpen.E (k : Nat) : Env := ⟨tys, [], [], [], []⟩
@[reducible] noncomputable def spec_FirstOpen.s5 : List Slot := [.r 4 5 [] tRegister, .v 12 (.int .i64) .z [] 0, .v 5 tRegister .z [] 0]
noncomputable def spec_FirstOpen.pts : List (Pt (denR (outTys spec_FirstOpen.g.rts spec_FirstOpen.g.pms))) := [⟨5, spec_FirstOpen.s5, fun k x => spec_FirstOpen.p5 k x.1 x.2.1⟩]
theorem spec_FirstOpen.h5 (k : Nat) (x0 : Int) (x1 : Register) : (spec_FirstOpen.p5 (k + 1) x0 x1 : Option (denR (outTys spec_FirstOpen.g.rts spec_FirstOpen.g.pms))) = evAt (spec_FirstOpen.E k) (fun κ s => lhOf k κ s spec_FirstOpen.pts) 5 b182 (unproj spec_FirstOpen.s5 (x0, x1, ())) (OM.fin spec_FirstOpen.g Try.f182.results.toList) := by kernel_rfl
theorem spec_FirstOpen.hf (k : Nat) (a0 : Register) : (spec_FirstOpen.f k a0 : Option (denR (outTys spec_FirstOpen.g.rts spec_FirstOpen.g.pms))) = evC (spec_FirstOpen.E k) (fun κ s => lhOf k κ s spec_FirstOpen.pts) b182 (OM.start spec_FirstOpen.g.pms 0 (a0, ())) (OM.fin spec_FirstOpen.g Try.f182.results.toList) := by kernel_rfl
theorem spec_FirstOpen.ok (k : Nat) : SmOk Try.prog (spec_FirstOpen.sm k) :=
  sm_ok mixed (E := spec_FirstOpen.E) (pts := spec_FirstOpen.pts) (fun k => ⟨⟨tysOk, by kernel_rfl⟩, forall_nil⟩) (fun _ => rfl) (fun _ => rfl)
    ⟨Try.func182, by kernel_rfl, by kernel_rfl, by kernel_rfl, by kernel_rfl, by kernel_rfl, by kernel_rfl⟩ (forall_cons (fun x => ⟨rfl, fun k => spec_FirstOpen.h5 k x.1 x.2.1⟩) (forall_nil)) (fun k x => spec_FirstOpen.hf k x.1) k
noncomputable def b170 : Code := Try.f170.body.getD .skip
theorem e170 : OM.Entry Try.prog 170 := ⟨_, Try.func170, by kernel_rfl, by kernel_rfl⟩
@[reducible] noncomputable def spec_RegClose.g : Sig := ⟨[.fz tConfig, .fz tRegister, .fz (.int .i64), .fz (.int .i64)], [.v tRegister (.two (.own (.two (.own .z) .z)) .z), .v .bool .z], []⟩
@[reducible] noncomputable def spec_RegClose.fk : Nat → denI spec_RegClose.g.pms → Option (denR (outTys spec_RegClose.g.rts spec_RegClose.g.pms)) := fun k x => spec_RegClose.f k x.1 x.2.1 x.2.2.1 x.2.2.2.1
@[reducible] noncomputable def spec_RegClose.sm (k : Nat) : Sm := ⟨170, spec_RegClose.g.pms, spec_RegClose.g.rts, spec_RegClose.fk k⟩
noncomputable def spec_RegClose.E (k : Nat) : Env := ⟨tys, [spec_l1In.sm k, spec_RegOk.sm k, spec_l7Copy.sm k, spec_FirstOpen.sm k], [51], [], []⟩
noncomputable def spec_RegClose.pts : List (Pt (denR (outTys spec_RegClose.g.rts spec_RegClose.g.pms))) := []
theorem spec_RegClose.hf (k : Nat) (a0 : Config) (a1 : Register) (a2 : Int) (a3 : Int) : (spec_RegClose.f k a0 a1 a2 a3 : Option (denR (outTys spec_RegClose.g.rts spec_RegClose.g.pms))) = evC (spec_RegClose.E k) (fun κ s => lhOf k κ s spec_RegClose.pts) b170 (OM.start spec_RegClose.g.pms 0 (a0, a1, a2, a3, ())) (OM.fin spec_RegClose.g Try.f170.results.toList) := by kernel_rfl
theorem spec_RegClose.ok (k : Nat) : SmOk Try.prog (spec_RegClose.sm k) :=
  sm_ok mixed (E := spec_RegClose.E) (pts := spec_RegClose.pts) (fun k => ⟨⟨tysOk, by kernel_rfl⟩, forall_cons ⟨spec_l1In.ok k, e71⟩ (forall_cons ⟨spec_RegOk.ok k, e90⟩ (forall_cons ⟨spec_l7Copy.ok k, e181⟩ (forall_cons ⟨spec_FirstOpen.ok k, e182⟩ (forall_nil))))⟩) (fun _ => rfl) (fun _ => rfl)
    ⟨Try.func170, by kernel_rfl, by kernel_rfl, by kernel_rfl, by kernel_rfl, by kernel_rfl, by kernel_rfl⟩ (forall_nil) (fun k x => spec_RegClose.hf k x.1 x.2.1 x.2.2.1 x.2.2.2.1) k
noncomputable def b53 : Code := Try.f53.body.getD .skip
theorem e53 : OM.Entry Try.prog 53 := ⟨_, Try.func53, by kernel_rfl, by kernel_rfl⟩
@[reducible] noncomputable def spec_l1Place.g : Sig := ⟨[.fz (.int .i64), .fz (.int .i64)], [.v (.int .i64) .z], []⟩
@[reducible] noncomputable def spec_l1Place.fk : Nat → denI spec_l1Place.g.pms → Option (denR (outTys spec_l1Place.g.rts spec_l1Place.g.pms)) := fun k x => spec_l1Place.f x.1 x.2.1
@[reducible] noncomputable def spec_l1Place.sm (k : Nat) : Sm := ⟨53, spec_l1Place.g.pms, spec_l1Place.g.rts, spec_l1Place.fk k⟩
noncomputable def spec_l1Place.E (k : Nat) : Env := ⟨tys, [], [], [], []⟩
noncomputable def spec_l1Place.pts : List (Pt (denR (outTys spec_l1Place.g.rts spec_l1Place.g.pms))) := []
theorem spec_l1Place.hf (k : Nat) (a0 : Int) (a1 : Int) : (spec_l1Place.f a0 a1 : Option (denR (outTys spec_l1Place.g.rts spec_l1Place.g.pms))) = evC (spec_l1Place.E k) (fun κ s => lhOf k κ s spec_l1Place.pts) b53 (OM.start spec_l1Place.g.pms 0 (a0, a1, ())) (OM.fin spec_l1Place.g Try.f53.results.toList) := by kernel_rfl
theorem spec_l1Place.ok (k : Nat) : SmOk Try.prog (spec_l1Place.sm k) :=
  sm_ok mixed (E := spec_l1Place.E) (pts := spec_l1Place.pts) (fun k => ⟨⟨tysOk, by kernel_rfl⟩, forall_nil⟩) (fun _ => rfl) (fun _ => rfl)
    ⟨Try.func53, by kernel_rfl, by kernel_rfl, by kernel_rfl, by kernel_rfl, by kernel_rfl, by kernel_rfl⟩ (forall_nil) (fun k x => spec_l1Place.hf k x.1 x.2.1) k
noncomputable def b171 : Code := Try.f171.body.getD .skip
theorem e171 : OM.Entry Try.prog 171 := ⟨_, Try.func171, by kernel_rfl, by kernel_rfl⟩
@[reducible] noncomputable def spec_RegTrim.g : Sig := ⟨[.fz tConfig, .fz tRegister, .fz (.int .i64)], [.v tRegister (.two (.own (.two (.own .z) .z)) .z), .v .bool .z], []⟩
@[reducible] noncomputable def spec_RegTrim.fk : Nat → denI spec_RegTrim.g.pms → Option (denR (outTys spec_RegTrim.g.rts spec_RegTrim.g.pms)) := fun k x => spec_RegTrim.f k x.1 x.2.1 x.2.2.1
@[reducible] noncomputable def spec_RegTrim.sm (k : Nat) : Sm := ⟨171, spec_RegTrim.g.pms, spec_RegTrim.g.rts, spec_RegTrim.fk k⟩
noncomputable def spec_RegTrim.E (k : Nat) : Env := ⟨tys, [spec_l1Max.sm k, spec_PlaceOk.sm k, spec_EpochOf.sm k, spec_RegOk.sm k, spec_l7Copy.sm k], [], [], []⟩
noncomputable def spec_RegTrim.pts : List (Pt (denR (outTys spec_RegTrim.g.rts spec_RegTrim.g.pms))) := []
theorem spec_RegTrim.hf (k : Nat) (a0 : Config) (a1 : Register) (a2 : Int) : (spec_RegTrim.f k a0 a1 a2 : Option (denR (outTys spec_RegTrim.g.rts spec_RegTrim.g.pms))) = evC (spec_RegTrim.E k) (fun κ s => lhOf k κ s spec_RegTrim.pts) b171 (OM.start spec_RegTrim.g.pms 0 (a0, a1, a2, ())) (OM.fin spec_RegTrim.g Try.f171.results.toList) := by kernel_rfl
theorem spec_RegTrim.ok (k : Nat) : SmOk Try.prog (spec_RegTrim.sm k) :=
  sm_ok mixed (E := spec_RegTrim.E) (pts := spec_RegTrim.pts) (fun k => ⟨⟨tysOk, by kernel_rfl⟩, forall_cons ⟨spec_l1Max.ok k, e172⟩ (forall_cons ⟨spec_PlaceOk.ok k, e52⟩ (forall_cons ⟨spec_EpochOf.ok k, e61⟩ (forall_cons ⟨spec_RegOk.ok k, e90⟩ (forall_cons ⟨spec_l7Copy.ok k, e181⟩ (forall_nil)))))⟩) (fun _ => rfl) (fun _ => rfl)
    ⟨Try.func171, by kernel_rfl, by kernel_rfl, by kernel_rfl, by kernel_rfl, by kernel_rfl, by kernel_rfl⟩ (forall_nil) (fun k x => spec_RegTrim.hf k x.1 x.2.1 x.2.2.1) k
noncomputable def b138 : Code := Try.f138.body.getD .skip
theorem e138 : OM.Entry Try.prog 138 := ⟨_, Try.func138, by kernel_rfl, by kernel_rfl⟩
@[reducible] noncomputable def spec_l7DrawRight.g : Sig := ⟨[.ptr tl1Cur .z .z, .fz tConfig], [.v tRegister (.two (.own (.two (.own .z) .z)) .z)], []⟩
@[reducible] noncomputable def spec_l7DrawRight.fk : Nat → denI spec_l7DrawRight.g.pms → Option (denR (outTys spec_l7DrawRight.g.rts spec_l7DrawRight.g.pms)) := fun k x => spec_l7DrawRight.f k x.1 x.2.1
@[reducible] noncomputable def spec_l7DrawRight.sm (k : Nat) : Sm := ⟨138, spec_l7DrawRight.g.pms, spec_l7DrawRight.g.rts, spec_l7DrawRight.fk k⟩
noncomputable def spec_l7DrawRight.E (k : Nat) : Env := ⟨tys, [spec_l1Below.sm k, spec_l7DrawSet.sm k, spec_RegOpen.sm k, spec_RegClose.sm k, spec_l1Place.sm k, spec_RegTrim.sm k], [58], [], []⟩
@[reducible] noncomputable def spec_l7DrawRight.s7 : List Slot := [.r 0 36001 [] tl1Cur, .r 12 13 [] tConfig, .r 16 17 [] tRegister, .r 20 21 [] tRegister, .v 24 (.int .i64) .z [] 0, .v 13 tConfig .z [] 0, .v 17 tRegister (.two (.own .a) .z) [] 0, .v 21 tRegister (.two (.own (.two (.own .z) .z)) .z) [] 0, .v 36001 tl1Cur .z [] 0]
noncomputable def spec_l7DrawRight.pts : List (Pt (denR (outTys spec_l7DrawRight.g.rts spec_l7DrawRight.g.pms))) := [⟨7, spec_l7DrawRight.s7, fun k x => spec_l7DrawRight.p7 k x.1 x.2.1 x.2.2.1 x.2.2.2.1 x.2.2.2.2.1⟩]
theorem spec_l7DrawRight.h7 (k : Nat) (x0 : Int) (x1 : Config) (x2 : Register) (x3 : Register) (x4 : l1Cur) : (spec_l7DrawRight.p7 (k + 1) x0 x1 x2 x3 x4 : Option (denR (outTys spec_l7DrawRight.g.rts spec_l7DrawRight.g.pms))) = evAt (spec_l7DrawRight.E k) (fun κ s => lhOf k κ s spec_l7DrawRight.pts) 7 b138 (unproj spec_l7DrawRight.s7 (x0, x1, x2, x3, x4, ())) (OM.fin spec_l7DrawRight.g Try.f138.results.toList) := by kernel_rfl
theorem spec_l7DrawRight.hf (k : Nat) (a0 : l1Cur) (a1 : Config) : (spec_l7DrawRight.f k a0 a1 : Option (denR (outTys spec_l7DrawRight.g.rts spec_l7DrawRight.g.pms))) = evC (spec_l7DrawRight.E k) (fun κ s => lhOf k κ s spec_l7DrawRight.pts) b138 (OM.start spec_l7DrawRight.g.pms 0 (a0, a1, ())) (OM.fin spec_l7DrawRight.g Try.f138.results.toList) := by kernel_rfl
theorem spec_l7DrawRight.ok (k : Nat) : SmOk Try.prog (spec_l7DrawRight.sm k) :=
  sm_ok mixed (E := spec_l7DrawRight.E) (pts := spec_l7DrawRight.pts) (fun k => ⟨⟨tysOk, by kernel_rfl⟩, forall_cons ⟨spec_l1Below.ok k, e50⟩ (forall_cons ⟨spec_l7DrawSet.ok k, e140⟩ (forall_cons ⟨spec_RegOpen.ok k, e169⟩ (forall_cons ⟨spec_RegClose.ok k, e170⟩ (forall_cons ⟨spec_l1Place.ok k, e53⟩ (forall_cons ⟨spec_RegTrim.ok k, e171⟩ (forall_nil))))))⟩) (fun _ => rfl) (fun _ => rfl)
    ⟨Try.func138, by kernel_rfl, by kernel_rfl, by kernel_rfl, by kernel_rfl, by kernel_rfl, by kernel_rfl⟩ (forall_cons (fun x => ⟨rfl, fun k => spec_l7DrawRight.h7 k x.1 x.2.1 x.2.2.1 x.2.2.2.1 x.2.2.2.2.1⟩) (forall_nil)) (fun k x => spec_l7DrawRight.hf k x.1 x.2.1) k
noncomputable def b121 : Code := Try.f121.body.getD .skip
theorem e121 : OM.Entry Try.prog 121 := ⟨_, Try.func121, by kernel_rfl, by kernel_rfl⟩
@[reducible] noncomputable def spec_l1DrawPlace.g : Sig := ⟨[.ptr tl1Cur .z .z], [.v (.int .i64) .z], []⟩
@[reducible] noncomputable def spec_l1DrawPlace.fk : Nat → denI spec_l1DrawPlace.g.pms → Option (denR (outTys spec_l1DrawPlace.g.rts spec_l1DrawPlace.g.pms)) := fun k x => spec_l1DrawPlace.f x.1
@[reducible] noncomputable def spec_l1DrawPlace.sm (k : Nat) : Sm := ⟨121, spec_l1DrawPlace.g.pms, spec_l1DrawPlace.g.rts, spec_l1DrawPlace.fk k⟩
noncomputable def spec_l1DrawPlace.E (k : Nat) : Env := ⟨tys, [spec_l1Below.sm k, spec_l1PickInt.sm k, spec_l1Place.sm k], [], [], []⟩
noncomputable def spec_l1DrawPlace.pts : List (Pt (denR (outTys spec_l1DrawPlace.g.rts spec_l1DrawPlace.g.pms))) := []
theorem spec_l1DrawPlace.hf (k : Nat) (a0 : l1Cur) : (spec_l1DrawPlace.f a0 : Option (denR (outTys spec_l1DrawPlace.g.rts spec_l1DrawPlace.g.pms))) = evC (spec_l1DrawPlace.E k) (fun κ s => lhOf k κ s spec_l1DrawPlace.pts) b121 (OM.start spec_l1DrawPlace.g.pms 0 (a0, ())) (OM.fin spec_l1DrawPlace.g Try.f121.results.toList) := by kernel_rfl
theorem spec_l1DrawPlace.ok (k : Nat) : SmOk Try.prog (spec_l1DrawPlace.sm k) :=
  sm_ok mixed (E := spec_l1DrawPlace.E) (pts := spec_l1DrawPlace.pts) (fun k => ⟨⟨tysOk, by kernel_rfl⟩, forall_cons ⟨spec_l1Below.ok k, e50⟩ (forall_cons ⟨spec_l1PickInt.ok k, e122⟩ (forall_cons ⟨spec_l1Place.ok k, e53⟩ (forall_nil)))⟩) (fun _ => rfl) (fun _ => rfl)
    ⟨Try.func121, by kernel_rfl, by kernel_rfl, by kernel_rfl, by kernel_rfl, by kernel_rfl, by kernel_rfl⟩ (forall_nil) (fun k x => spec_l1DrawPlace.hf k x.1) k
noncomputable def b80 : Code := Try.f80.body.getD .skip
theorem e80 : OM.Entry Try.prog 80 := ⟨_, Try.func80, by kernel_rfl, by kernel_rfl⟩
@[reducible] noncomputable def spec_l7Draw.g : Sig := ⟨[.ptr tl1Cur .z .z, .fz tConfig], [.v tRegister (.two (.own .z) .z)], []⟩
@[reducible] noncomputable def spec_l7Draw.fk : Nat → denI spec_l7Draw.g.pms → Option (denR (outTys spec_l7Draw.g.rts spec_l7Draw.g.pms)) := fun k x => spec_l7Draw.f k x.1 x.2.1
@[reducible] noncomputable def spec_l7Draw.sm (k : Nat) : Sm := ⟨80, spec_l7Draw.g.pms, spec_l7Draw.g.rts, spec_l7Draw.fk k⟩
noncomputable def spec_l7Draw.E (k : Nat) : Env := ⟨tys, [spec_l1Below.sm k, spec_l1PickInt.sm k, spec_l4DrawNodes.sm k, spec_l7DrawSet.sm k, spec_l7DrawRight.sm k, spec_l1DrawPlace.sm k], [], [], []⟩
@[reducible] noncomputable def spec_l7Draw.s35 : List Slot := [.r 0 36001 [] tl1Cur, .r 16 17 [] tRegister, .r 20 21 [] tRegister, .v 28 (.sl (.int .i64)) (.own .z) [] 0, .v 17 tRegister (.two (.own .a) .z) [] 0, .v 21 tRegister (.two (.own .z) .z) [28] 0, .v 36001 tl1Cur .z [] 0]
noncomputable def spec_l7Draw.pts : List (Pt (denR (outTys spec_l7Draw.g.rts spec_l7Draw.g.pms))) := [⟨35, spec_l7Draw.s35, fun k x => spec_l7Draw.p35 k x.1 x.2.1 x.2.2.1 x.2.2.2.1⟩]
theorem spec_l7Draw.h35 (k : Nat) (x0 : (List Int)) (x1 : Register) (x2 : Register) (x3 : l1Cur) : (spec_l7Draw.p35 (k + 1) x0 x1 x2 x3 : Option (denR (outTys spec_l7Draw.g.rts spec_l7Draw.g.pms))) = evAt (spec_l7Draw.E k) (fun κ s => lhOf k κ s spec_l7Draw.pts) 35 b80 (unproj spec_l7Draw.s35 (x0, x1, x2, x3, ())) (OM.fin spec_l7Draw.g Try.f80.results.toList) := by kernel_rfl
theorem spec_l7Draw.hf (k : Nat) (a0 : l1Cur) (a1 : Config) : (spec_l7Draw.f k a0 a1 : Option (denR (outTys spec_l7Draw.g.rts spec_l7Draw.g.pms))) = evC (spec_l7Draw.E k) (fun κ s => lhOf k κ s spec_l7Draw.pts) b80 (OM.start spec_l7Draw.g.pms 0 (a0, a1, ())) (OM.fin spec_l7Draw.g Try.f80.results.toList) := by kernel_rfl
theorem spec_l7Draw.ok (k : Nat) : SmOk Try.prog (spec_l7Draw.sm k) :=
  sm_ok mixed (E := spec_l7Draw.E) (pts := spec_l7Draw.pts) (fun k => ⟨⟨tysOk, by kernel_rfl⟩, forall_cons ⟨spec_l1Below.ok k, e50⟩ (forall_cons ⟨spec_l1PickInt.ok k, e122⟩ (forall_cons ⟨spec_l4DrawNodes.ok k, e139⟩ (forall_cons ⟨spec_l7DrawSet.ok k, e140⟩ (forall_cons ⟨spec_l7DrawRight.ok k, e138⟩ (forall_cons ⟨spec_l1DrawPlace.ok k, e121⟩ (forall_nil))))))⟩) (fun _ => rfl) (fun _ => rfl)
    ⟨Try.func80, by kernel_rfl, by kernel_rfl, by kernel_rfl, by kernel_rfl, by kernel_rfl, by kernel_rfl⟩ (forall_cons (fun x => ⟨rfl, fun k => spec_l7Draw.h35 k x.1 x.2.1 x.2.2.1 x.2.2.2.1⟩) (forall_nil)) (fun k x => spec_l7Draw.hf k x.1 x.2.1) k
noncomputable def b81 : Code := Try.f81.body.getD .skip
theorem e81 : OM.Entry Try.prog 81 := ⟨_, Try.func81, by kernel_rfl, by kernel_rfl⟩
@[reducible] noncomputable def spec_l10DrawReader.g : Sig := ⟨[.ptr tl1Cur .z .z], [.v tReader (.two .z (.two .z (.two (.own .z) .z)))], []⟩
@[reducible] noncomputable def spec_l10DrawReader.fk : Nat → denI spec_l10DrawReader.g.pms → Option (denR (outTys spec_l10DrawReader.g.rts spec_l10DrawReader.g.pms)) := fun k x => spec_l10DrawReader.f k x.1
@[reducible] noncomputable def spec_l10DrawReader.sm (k : Nat) : Sm := ⟨81, spec_l10DrawReader.g.pms, spec_l10DrawReader.g.rts, spec_l10DrawReader.fk k⟩
noncomputable def spec_l10DrawReader.E (k : Nat) : Env := ⟨tys, [spec_l1Below.sm k, spec_l1PickInt.sm k, spec_l1DrawPlace.sm k], [], [], []⟩
@[reducible] noncomputable def spec_l10DrawReader.s7 : List Slot := [.r 0 36001 [] tl1Cur, .r 8 9 [] tReader, .r 12 13 [] tReader, .v 16 (.int .i64) .z [] 0, .v 9 tReader (.two .z (.two .z (.two (.own .a) .z))) [] 0, .v 13 tReader (.two .z (.two .z (.two (.own .z) .z))) [] 0, .v 36001 tl1Cur .z [] 0]
noncomputable def spec_l10DrawReader.pts : List (Pt (denR (outTys spec_l10DrawReader.g.rts spec_l10DrawReader.g.pms))) := [⟨7, spec_l10DrawReader.s7, fun k x => spec_l10DrawReader.p7 k x.1 x.2.1 x.2.2.1 x.2.2.2.1⟩]
theorem spec_l10DrawReader.h7 (k : Nat) (x0 : Int) (x1 : Reader) (x2 : Reader) (x3 : l1Cur) : (spec_l10DrawReader.p7 (k + 1) x0 x1 x2 x3 : Option (denR (outTys spec_l10DrawReader.g.rts spec_l10DrawReader.g.pms))) = evAt (spec_l10DrawReader.E k) (fun κ s => lhOf k κ s spec_l10DrawReader.pts) 7 b81 (unproj spec_l10DrawReader.s7 (x0, x1, x2, x3, ())) (OM.fin spec_l10DrawReader.g Try.f81.results.toList) := by kernel_rfl
theorem spec_l10DrawReader.hf (k : Nat) (a0 : l1Cur) : (spec_l10DrawReader.f k a0 : Option (denR (outTys spec_l10DrawReader.g.rts spec_l10DrawReader.g.pms))) = evC (spec_l10DrawReader.E k) (fun κ s => lhOf k κ s spec_l10DrawReader.pts) b81 (OM.start spec_l10DrawReader.g.pms 0 (a0, ())) (OM.fin spec_l10DrawReader.g Try.f81.results.toList) := by kernel_rfl
theorem spec_l10DrawReader.ok (k : Nat) : SmOk Try.prog (spec_l10DrawReader.sm k) :=
  sm_ok mixed (E := spec_l10DrawReader.E) (pts := spec_l10DrawReader.pts) (fun k => ⟨⟨tysOk, by kernel_rfl⟩, forall_cons ⟨spec_l1Below.ok k, e50⟩ (forall_cons ⟨spec_l1PickInt.ok k, e122⟩ (forall_cons ⟨spec_l1DrawPlace.ok k, e121⟩ (forall_nil)))⟩) (fun _ => rfl) (fun _ => rfl)
    ⟨Try.func81, by kernel_rfl, by kernel_rfl, by kernel_rfl, by kernel_rfl, by kernel_rfl, by kernel_rfl⟩ (forall_cons (fun x => ⟨rfl, fun k => spec_l10DrawReader.h7 k x.1 x.2.1 x.2.2.1 x.2.2.2.1⟩) (forall_nil)) (fun k x => spec_l10DrawReader.hf k x.1) k
noncomputable def b158 : Code := Try.f158.body.getD .skip
theorem e158 : OM.Entry Try.prog 158 := ⟨_, Try.func158, by kernel_rfl, by kernel_rfl⟩
@[reducible] noncomputable def spec_l1Pick.g : Sig := ⟨[.ptr tl1Cur .z .z, .fz (.sl .str)], [.v .str .z], []⟩
@[reducible] noncomputable def spec_l1Pick.fk : Nat → denI spec_l1Pick.g.pms → Option (denR (outTys spec_l1Pick.g.rts spec_l1Pick.g.pms)) := fun k x => spec_l1Pick.f x.1 x.2.1
@[reducible] noncomputable def spec_l1Pick.sm (k : Nat) : Sm := ⟨158, spec_l1Pick.g.pms, spec_l1Pick.g.rts, spec_l1Pick.fk k⟩
noncomputable def spec_l1Pick.E (k : Nat) : Env := ⟨tys, [spec_l1Below.sm k], [], [], []⟩
noncomputable def spec_l1Pick.pts : List (Pt (denR (outTys spec_l1Pick.g.rts spec_l1Pick.g.pms))) := []
theorem spec_l1Pick.hf (k : Nat) (a0 : l1Cur) (a1 : (List ByteArray)) : (spec_l1Pick.f a0 a1 : Option (denR (outTys spec_l1Pick.g.rts spec_l1Pick.g.pms))) = evC (spec_l1Pick.E k) (fun κ s => lhOf k κ s spec_l1Pick.pts) b158 (OM.start spec_l1Pick.g.pms 0 (a0, a1, ())) (OM.fin spec_l1Pick.g Try.f158.results.toList) := by kernel_rfl
theorem spec_l1Pick.ok (k : Nat) : SmOk Try.prog (spec_l1Pick.sm k) :=
  sm_ok mixed (E := spec_l1Pick.E) (pts := spec_l1Pick.pts) (fun k => ⟨⟨tysOk, by kernel_rfl⟩, forall_cons ⟨spec_l1Below.ok k, e50⟩ (forall_nil)⟩) (fun _ => rfl) (fun _ => rfl)
    ⟨Try.func158, by kernel_rfl, by kernel_rfl, by kernel_rfl, by kernel_rfl, by kernel_rfl, by kernel_rfl⟩ (forall_nil) (fun k x => spec_l1Pick.hf k x.1 x.2.1) k
noncomputable def b120 : Code := Try.f120.body.getD .skip
theorem e120 : OM.Entry Try.prog 120 := ⟨_, Try.func120, by kernel_rfl, by kernel_rfl⟩
@[reducible] noncomputable def spec_l3DrawRight.g : Sig := ⟨[.ptr tl1Cur .z .z], [.v tEntry .z], []⟩
@[reducible] noncomputable def spec_l3DrawRight.fk : Nat → denI spec_l3DrawRight.g.pms → Option (denR (outTys spec_l3DrawRight.g.rts spec_l3DrawRight.g.pms)) := fun k x => spec_l3DrawRight.f x.1
@[reducible] noncomputable def spec_l3DrawRight.sm (k : Nat) : Sm := ⟨120, spec_l3DrawRight.g.pms, spec_l3DrawRight.g.rts, spec_l3DrawRight.fk k⟩
noncomputable def spec_l3DrawRight.E (k : Nat) : Env := ⟨tys, [spec_l1Below.sm k, spec_l1Once.sm k, spec_EpochOf.sm k, spec_l1Place.sm k, spec_l1Pick.sm k], [], [], []⟩
noncomputable def spec_l3DrawRight.pts : List (Pt (denR (outTys spec_l3DrawRight.g.rts spec_l3DrawRight.g.pms))) := []
theorem spec_l3DrawRight.hf (k : Nat) (a0 : l1Cur) : (spec_l3DrawRight.f a0 : Option (denR (outTys spec_l3DrawRight.g.rts spec_l3DrawRight.g.pms))) = evC (spec_l3DrawRight.E k) (fun κ s => lhOf k κ s spec_l3DrawRight.pts) b120 (OM.start spec_l3DrawRight.g.pms 0 (a0, ())) (OM.fin spec_l3DrawRight.g Try.f120.results.toList) := by kernel_rfl
theorem spec_l3DrawRight.ok (k : Nat) : SmOk Try.prog (spec_l3DrawRight.sm k) :=
  sm_ok mixed (E := spec_l3DrawRight.E) (pts := spec_l3DrawRight.pts) (fun k => ⟨⟨tysOk, by kernel_rfl⟩, forall_cons ⟨spec_l1Below.ok k, e50⟩ (forall_cons ⟨spec_l1Once.ok k, e49⟩ (forall_cons ⟨spec_EpochOf.ok k, e61⟩ (forall_cons ⟨spec_l1Place.ok k, e53⟩ (forall_cons ⟨spec_l1Pick.ok k, e158⟩ (forall_nil)))))⟩) (fun _ => rfl) (fun _ => rfl)
    ⟨Try.func120, by kernel_rfl, by kernel_rfl, by kernel_rfl, by kernel_rfl, by kernel_rfl, by kernel_rfl⟩ (forall_nil) (fun k x => spec_l3DrawRight.hf k x.1) k
noncomputable def b51 : Code := Try.f51.body.getD .skip
theorem e51 : OM.Entry Try.prog 51 := ⟨_, Try.func51, by kernel_rfl, by kernel_rfl⟩
@[reducible] noncomputable def spec_l3Draw.g : Sig := ⟨[.ptr tl1Cur .z .z], [.v tEntry .z], []⟩
@[reducible] noncomputable def spec_l3Draw.fk : Nat → denI spec_l3Draw.g.pms → Option (denR (outTys spec_l3Draw.g.rts spec_l3Draw.g.pms)) := fun k x => spec_l3Draw.f x.1
@[reducible] noncomputable def spec_l3Draw.sm (k : Nat) : Sm := ⟨51, spec_l3Draw.g.pms, spec_l3Draw.g.rts, spec_l3Draw.fk k⟩
noncomputable def spec_l3Draw.E (k : Nat) : Env := ⟨tys, [spec_l1Below.sm k, spec_l1PickInt.sm k, spec_l1DrawPlace.sm k, spec_l3DrawRight.sm k], [], [], []⟩
noncomputable def spec_l3Draw.pts : List (Pt (denR (outTys spec_l3Draw.g.rts spec_l3Draw.g.pms))) := []
theorem spec_l3Draw.hf (k : Nat) (a0 : l1Cur) : (spec_l3Draw.f a0 : Option (denR (outTys spec_l3Draw.g.rts spec_l3Draw.g.pms))) = evC (spec_l3Draw.E k) (fun κ s => lhOf k κ s spec_l3Draw.pts) b51 (OM.start spec_l3Draw.g.pms 0 (a0, ())) (OM.fin spec_l3Draw.g Try.f51.results.toList) := by kernel_rfl
theorem spec_l3Draw.ok (k : Nat) : SmOk Try.prog (spec_l3Draw.sm k) :=
  sm_ok mixed (E := spec_l3Draw.E) (pts := spec_l3Draw.pts) (fun k => ⟨⟨tysOk, by kernel_rfl⟩, forall_cons ⟨spec_l1Below.ok k, e50⟩ (forall_cons ⟨spec_l1PickInt.ok k, e122⟩ (forall_cons ⟨spec_l1DrawPlace.ok k, e121⟩ (forall_cons ⟨spec_l3DrawRight.ok k, e120⟩ (forall_nil))))⟩) (fun _ => rfl) (fun _ => rfl)
    ⟨Try.func51, by kernel_rfl, by kernel_rfl, by kernel_rfl, by kernel_rfl, by kernel_rfl, by kernel_rfl⟩ (forall_nil) (fun k x => spec_l3Draw.hf k x.1) k
noncomputable def b22 : Code := Try.f22.body.getD .skip
theorem e22 : OM.Entry Try.prog 22 := ⟨_, Try.func22, by kernel_rfl, by kernel_rfl⟩
@[reducible] noncomputable def spec_DrawReaderNext.g : Sig := ⟨[.fz (.sl (.int .u8))], [.v tConfig .z, .v tRegister (.two (.own .z) .z), .v (.int .i64) .z, .v tReader (.two .z (.two .z (.two (.own .z) .z))), .v (.sl tAnswer) (.own .z)], []⟩
@[reducible] noncomputable def spec_DrawReaderNext.fk : Nat → denI spec_DrawReaderNext.g.pms → Option (denR (outTys spec_DrawReaderNext.g.rts spec_DrawReaderNext.g.pms)) := fun k x => spec_DrawReaderNext.f k x.1
@[reducible] noncomputable def spec_DrawReaderNext.sm (k : Nat) : Sm := ⟨22, spec_DrawReaderNext.g.pms, spec_DrawReaderNext.g.rts, spec_DrawReaderNext.fk k⟩
noncomputable def spec_DrawReaderNext.E (k : Nat) : Env := ⟨tys, [spec_l1New.sm k, spec_l1Below.sm k, spec_l1Once.sm k, spec_l4DrawRight.sm k, spec_PlaceOk.sm k, spec_l1Place.sm k, spec_l7Draw.sm k, spec_l10DrawReader.sm k, spec_l3Draw.sm k], [72], [7, 18], []⟩
@[reducible] noncomputable def spec_DrawReaderNext.s14 : List Slot := [.r 8 9 [] tConfig, .r 12 13 [] tRegister, .r 20 21 [] tReader, .r 28 61 [] tl1Cur, .r 32 33 [] tConfig, .r 36 37 [] tRegister, .r 40 41 [] tReader, .v 9 tConfig (.two (.own .a) .z) [] 0, .v 13 tRegister (.two (.own .a) .z) [] 0, .v 21 tReader (.two .z (.two .z (.two (.own .a) .z))) [] 0, .v 33 tConfig (.two (.own .z) .z) [] 0, .v 37 tRegister (.two (.own .z) .z) [33] 0, .v 41 tReader (.two .z (.two .z (.two (.own .z) .z))) [] 0, .v 61 tl1Cur .z [33] 0]
@[reducible] noncomputable def spec_DrawReaderNext.s19 : List Slot := [.r 8 9 [] tConfig, .r 12 13 [] tRegister, .r 20 21 [] tReader, .r 28 61 [] tl1Cur, .r 32 33 [] tConfig, .r 36 37 [] tRegister, .r 40 41 [] tReader, .v 44 (.sl tAnswer) (.own .z) [] 0, .v 48 (.int .i64) .z [] 0, .v 9 tConfig (.two (.own .a) .z) [] 0, .v 13 tRegister (.two (.own .a) .z) [] 0, .v 21 tReader (.two .z (.two .z (.two (.own .a) .z))) [] 0, .v 33 tConfig (.two (.own .z) .z) [] 0, .v 37 tRegister (.two (.own .z) .z) [33] 0, .v 41 tReader (.two .z (.two .z (.two (.own .z) .z))) [] 0, .v 61 tl1Cur .z [33] 0]
@[reducible] noncomputable def spec_DrawReaderNext.s36 : List Slot := [.r 8 9 [] tConfig, .r 12 13 [] tRegister, .r 20 21 [] tReader, .r 28 61 [] tl1Cur, .r 32 33 [] tConfig, .r 36 37 [] tRegister, .r 40 41 [] tReader, .v 44 (.sl tAnswer) (.own .z) [] 0, .v 9 tConfig (.two (.own .a) .z) [] 0, .v 13 tRegister (.two (.own .a) .z) [] 0, .v 21 tReader (.two .z (.two .z (.two (.own .a) .z))) [] 0, .v 33 tConfig (.two (.own .z) .z) [] 0, .v 37 tRegister (.two (.own .z) .z) [33] 0, .v 41 tReader (.two .z (.two .z (.two (.own .z) .z))) [] 0, .v 61 tl1Cur .z [33] 0]
noncomputable def spec_DrawReaderNext.pts : List (Pt (denR (outTys spec_DrawReaderNext.g.rts spec_DrawReaderNext.g.pms))) := [⟨14, spec_DrawReaderNext.s14, fun k x => spec_DrawReaderNext.p14 k x.1 x.2.1 x.2.2.1 x.2.2.2.1 x.2.2.2.2.1 x.2.2.2.2.2.1 x.2.2.2.2.2.2.1⟩, ⟨19, spec_DrawReaderNext.s19, fun k x => spec_DrawReaderNext.p19 k x.1 x.2.1 x.2.2.1 x.2.2.2.1 x.2.2.2.2.1 x.2.2.2.2.2.1 x.2.2.2.2.2.2.1 x.2.2.2.2.2.2.2.1 x.2.2.2.2.2.2.2.2.1⟩, ⟨36, spec_DrawReaderNext.s36, fun k x => spec_DrawReaderNext.p36 k x.1 x.2.1 x.2.2.1 x.2.2.2.1 x.2.2.2.2.1 x.2.2.2.2.2.1 x.2.2.2.2.2.2.1 x.2.2.2.2.2.2.2.1⟩]
theorem spec_DrawReaderNext.h14 (k : Nat) (x0 : Config) (x1 : Register) (x2 : Reader) (x3 : Config) (x4 : Register) (x5 : Reader) (x6 : l1Cur) : (spec_DrawReaderNext.p14 (k + 1) x0 x1 x2 x3 x4 x5 x6 : Option (denR (outTys spec_DrawReaderNext.g.rts spec_DrawReaderNext.g.pms))) = evAt (spec_DrawReaderNext.E k) (fun κ s => lhOf k κ s spec_DrawReaderNext.pts) 14 b22 (unproj spec_DrawReaderNext.s14 (x0, x1, x2, x3, x4, x5, x6, ())) (OM.fin spec_DrawReaderNext.g Try.f22.results.toList) := by kernel_rfl
theorem spec_DrawReaderNext.h19 (k : Nat) (x0 : (List Answer)) (x1 : Int) (x2 : Config) (x3 : Register) (x4 : Reader) (x5 : Config) (x6 : Register) (x7 : Reader) (x8 : l1Cur) : (spec_DrawReaderNext.p19 (k + 1) x0 x1 x2 x3 x4 x5 x6 x7 x8 : Option (denR (outTys spec_DrawReaderNext.g.rts spec_DrawReaderNext.g.pms))) = evAt (spec_DrawReaderNext.E k) (fun κ s => lhOf k κ s spec_DrawReaderNext.pts) 19 b22 (unproj spec_DrawReaderNext.s19 (x0, x1, x2, x3, x4, x5, x6, x7, x8, ())) (OM.fin spec_DrawReaderNext.g Try.f22.results.toList) := by kernel_rfl
theorem spec_DrawReaderNext.h36 (k : Nat) (x0 : (List Answer)) (x1 : Config) (x2 : Register) (x3 : Reader) (x4 : Config) (x5 : Register) (x6 : Reader) (x7 : l1Cur) : (spec_DrawReaderNext.p36 (k + 1) x0 x1 x2 x3 x4 x5 x6 x7 : Option (denR (outTys spec_DrawReaderNext.g.rts spec_DrawReaderNext.g.pms))) = evAt (spec_DrawReaderNext.E k) (fun κ s => lhOf k κ s spec_DrawReaderNext.pts) 36 b22 (unproj spec_DrawReaderNext.s36 (x0, x1, x2, x3, x4, x5, x6, x7, ())) (OM.fin spec_DrawReaderNext.g Try.f22.results.toList) := by kernel_rfl
theorem spec_DrawReaderNext.hf (k : Nat) (a0 : (List Int)) : (spec_DrawReaderNext.f k a0 : Option (denR (outTys spec_DrawReaderNext.g.rts spec_DrawReaderNext.g.pms))) = evC (spec_DrawReaderNext.E k) (fun κ s => lhOf k κ s spec_DrawReaderNext.pts) b22 (OM.start spec_DrawReaderNext.g.pms 0 (a0, ())) (OM.fin spec_DrawReaderNext.g Try.f22.results.toList) := by kernel_rfl
theorem spec_DrawReaderNext.ok (k : Nat) : SmOk Try.prog (spec_DrawReaderNext.sm k) :=
  sm_ok mixed (E := spec_DrawReaderNext.E) (pts := spec_DrawReaderNext.pts) (fun k => ⟨⟨tysOk, by kernel_rfl⟩, forall_cons ⟨spec_l1New.ok k, e78⟩ (forall_cons ⟨spec_l1Below.ok k, e50⟩ (forall_cons ⟨spec_l1Once.ok k, e49⟩ (forall_cons ⟨spec_l4DrawRight.ok k, e79⟩ (forall_cons ⟨spec_PlaceOk.ok k, e52⟩ (forall_cons ⟨spec_l1Place.ok k, e53⟩ (forall_cons ⟨spec_l7Draw.ok k, e80⟩ (forall_cons ⟨spec_l10DrawReader.ok k, e81⟩ (forall_cons ⟨spec_l3Draw.ok k, e51⟩ (forall_nil)))))))))⟩) (fun _ => rfl) (fun _ => rfl)
    ⟨Try.func22, by kernel_rfl, by kernel_rfl, by kernel_rfl, by kernel_rfl, by kernel_rfl, by kernel_rfl⟩ (forall_cons (fun x => ⟨rfl, fun k => spec_DrawReaderNext.h14 k x.1 x.2.1 x.2.2.1 x.2.2.2.1 x.2.2.2.2.1 x.2.2.2.2.2.1 x.2.2.2.2.2.2.1⟩) (forall_cons (fun x => ⟨rfl, fun k => spec_DrawReaderNext.h19 k x.1 x.2.1 x.2.2.1 x.2.2.2.1 x.2.2.2.2.1 x.2.2.2.2.2.1 x.2.2.2.2.2.2.1 x.2.2.2.2.2.2.2.1 x.2.2.2.2.2.2.2.2.1⟩) (forall_cons (fun x => ⟨rfl, fun k => spec_DrawReaderNext.h36 k x.1 x.2.1 x.2.2.1 x.2.2.2.1 x.2.2.2.2.1 x.2.2.2.2.2.1 x.2.2.2.2.2.2.1 x.2.2.2.2.2.2.2.1⟩) (forall_nil)))) (fun k x => spec_DrawReaderNext.hf k x.1) k
noncomputable def b67 : Code := Try.f67.body.getD .skip
theorem e67 : OM.Entry Try.prog 67 := ⟨_, Try.func67, by kernel_rfl, by kernel_rfl⟩
@[reducible] noncomputable def impl_within.g : Sig := ⟨[.fz (.int .i64), .fz (.int .i64), .fz (.int .i64)], [.v .bool .z], []⟩
@[reducible] noncomputable def impl_within.fk : Nat → denI impl_within.g.pms → Option (denR (outTys impl_within.g.rts impl_within.g.pms)) := fun k x => impl_within.f x.1 x.2.1 x.2.2.1
@[reducible] noncomputable def impl_within.sm (k : Nat) : Sm := ⟨67, impl_within.g.pms, impl_within.g.rts, impl_within.fk k⟩
noncomputable def impl_within.E (k : Nat) : Env := ⟨tys, [], [], [], []⟩
noncomputable def impl_within.pts : List (Pt (denR (outTys impl_within.g.rts impl_within.g.pms))) := []
theorem impl_within.hf (k : Nat) (a0 : Int) (a1 : Int) (a2 : Int) : (impl_within.f a0 a1 a2 : Option (denR (outTys impl_within.g.rts impl_within.g.pms))) = evC (impl_within.E k) (fun κ s => lhOf k κ s impl_within.pts) b67 (OM.start impl_within.g.pms 0 (a0, a1, a2, ())) (OM.fin impl_within.g Try.f67.results.toList) := by kernel_rfl
theorem impl_within.ok (k : Nat) : SmOk Try.prog (impl_within.sm k) :=
  sm_ok mixed (E := impl_within.E) (pts := impl_within.pts) (fun k => ⟨⟨tysOk, by kernel_rfl⟩, forall_nil⟩) (fun _ => rfl) (fun _ => rfl)
    ⟨Try.func67, by kernel_rfl, by kernel_rfl, by kernel_rfl, by kernel_rfl, by kernel_rfl, by kernel_rfl⟩ (forall_nil) (fun k x => impl_within.hf k x.1 x.2.1 x.2.2.1) k
noncomputable def b68 : Code := Try.f68.body.getD .skip
theorem e68 : OM.Entry Try.prog 68 := ⟨_, Try.func68, by kernel_rfl, by kernel_rfl⟩
@[reducible] noncomputable def impl_ConfigOk.g : Sig := ⟨[.fz tConfig], [.v .bool .z], []⟩
@[reducible] noncomputable def impl_ConfigOk.fk : Nat → denI impl_ConfigOk.g.pms → Option (denR (outTys impl_ConfigOk.g.rts impl_ConfigOk.g.pms)) := fun k x => impl_ConfigOk.f k x.1
@[reducible] noncomputable def impl_ConfigOk.sm (k : Nat) : Sm := ⟨68, impl_ConfigOk.g.pms, impl_ConfigOk.g.rts, impl_ConfigOk.fk k⟩
noncomputable def impl_ConfigOk.E (k : Nat) : Env := ⟨tys, [impl_within.sm k], [11], [], []⟩
@[reducible] noncomputable def impl_ConfigOk.s5 : List Slot := [.r 4 5 [] tConfig, .v 24 (.sl (.int .i64)) .z [] 0, .v 28 (.int .i64) .z [] 0, .v 32 (.int .i64) .z [] 0, .v 5 tConfig .z [] 0]
noncomputable def impl_ConfigOk.pts : List (Pt (denR (outTys impl_ConfigOk.g.rts impl_ConfigOk.g.pms))) := [⟨5, impl_ConfigOk.s5, fun k x => impl_ConfigOk.p5 k x.1 x.2.1 x.2.2.1 x.2.2.2.1⟩]
theorem impl_ConfigOk.h5 (k : Nat) (x0 : (List Int)) (x1 : Int) (x2 : Int) (x3 : Config) : (impl_ConfigOk.p5 (k + 1) x0 x1 x2 x3 : Option (denR (outTys impl_ConfigOk.g.rts impl_ConfigOk.g.pms))) = evAt (impl_ConfigOk.E k) (fun κ s => lhOf k κ s impl_ConfigOk.pts) 5 b68 (unproj impl_ConfigOk.s5 (x0, x1, x2, x3, ())) (OM.fin impl_ConfigOk.g Try.f68.results.toList) := by kernel_rfl
theorem impl_ConfigOk.hf (k : Nat) (a0 : Config) : (impl_ConfigOk.f k a0 : Option (denR (outTys impl_ConfigOk.g.rts impl_ConfigOk.g.pms))) = evC (impl_ConfigOk.E k) (fun κ s => lhOf k κ s impl_ConfigOk.pts) b68 (OM.start impl_ConfigOk.g.pms 0 (a0, ())) (OM.fin impl_ConfigOk.g Try.f68.results.toList) := by kernel_rfl
theorem impl_ConfigOk.ok (k : Nat) : SmOk Try.prog (impl_ConfigOk.sm k) :=
  sm_ok mixed (E := impl_ConfigOk.E) (pts := impl_ConfigOk.pts) (fun k => ⟨⟨tysOk, by kernel_rfl⟩, forall_cons ⟨impl_within.ok k, e67⟩ (forall_nil)⟩) (fun _ => rfl) (fun _ => rfl)
    ⟨Try.func68, by kernel_rfl, by kernel_rfl, by kernel_rfl, by kernel_rfl, by kernel_rfl, by kernel_rfl⟩ (forall_cons (fun x => ⟨rfl, fun k => impl_ConfigOk.h5 k x.1 x.2.1 x.2.2.1 x.2.2.2.1⟩) (forall_nil)) (fun k x => impl_ConfigOk.hf k x.1) k
noncomputable def b132 : Code := Try.f132.body.getD .skip
theorem e132 : OM.Entry Try.prog 132 := ⟨_, Try.func132, by kernel_rfl, by kernel_rfl⟩
@[reducible] noncomputable def impl_ascends.g : Sig := ⟨[.fz (.sl (.int .i64)), .fz (.int .i64)], [.v .bool .z], []⟩
@[reducible] noncomputable def impl_ascends.fk : Nat → denI impl_ascends.g.pms → Option (denR (outTys impl_ascends.g.rts impl_ascends.g.pms)) := fun k x => impl_ascends.f k x.1 x.2.1
@[reducible] noncomputable def impl_ascends.sm (k : Nat) : Sm := ⟨132, impl_ascends.g.pms, impl_ascends.g.rts, impl_ascends.fk k⟩
noncomputable def impl_ascends.E (k : Nat) : Env := ⟨tys, [impl_within.sm k], [13], [], []⟩
@[reducible] noncomputable def impl_ascends.s5 : List Slot := [.v 0 (.sl (.int .i64)) .z [] 0, .v 4 (.int .i64) .z [] 0, .v 28 (.sl (.int .i64)) .z [] 0, .v 32 (.int .i64) .z [] 0, .v 36 (.int .i64) .z [] 0]
noncomputable def impl_ascends.pts : List (Pt (denR (outTys impl_ascends.g.rts impl_ascends.g.pms))) := [⟨5, impl_ascends.s5, fun k x => impl_ascends.p5 k x.1 x.2.1 x.2.2.1 x.2.2.2.1 x.2.2.2.2.1⟩]
theorem impl_ascends.h5 (k : Nat) (x0 : (List Int)) (x1 : Int) (x2 : (List Int)) (x3 : Int) (x4 : Int) : (impl_ascends.p5 (k + 1) x0 x1 x2 x3 x4 : Option (denR (outTys impl_ascends.g.rts impl_ascends.g.pms))) = evAt (impl_ascends.E k) (fun κ s => lhOf k κ s impl_ascends.pts) 5 b132 (unproj impl_ascends.s5 (x0, x1, x2, x3, x4, ())) (OM.fin impl_ascends.g Try.f132.results.toList) := by kernel_rfl
theorem impl_ascends.hf (k : Nat) (a0 : (List Int)) (a1 : Int) : (impl_ascends.f k a0 a1 : Option (denR (outTys impl_ascends.g.rts impl_ascends.g.pms))) = evC (impl_ascends.E k) (fun κ s => lhOf k κ s impl_ascends.pts) b132 (OM.start impl_ascends.g.pms 0 (a0, a1, ())) (OM.fin impl_ascends.g Try.f132.results.toList) := by kernel_rfl
theorem impl_ascends.ok (k : Nat) : SmOk Try.prog (impl_ascends.sm k) :=
  sm_ok mixed (E := impl_ascends.E) (pts := impl_ascends.pts) (fun k => ⟨⟨tysOk, by kernel_rfl⟩, forall_cons ⟨impl_within.ok k, e67⟩ (forall_nil)⟩) (fun _ => rfl) (fun _ => rfl)
    ⟨Try.func132, by kernel_rfl, by kernel_rfl, by kernel_rfl, by kernel_rfl, by kernel_rfl, by kernel_rfl⟩ (forall_cons (fun x => ⟨rfl, fun k => impl_ascends.h5 k x.1 x.2.1 x.2.2.1 x.2.2.2.1 x.2.2.2.2.1⟩) (forall_nil)) (fun k x => impl_ascends.hf k x.1 x.2.1) k
noncomputable def b64 : Code := Try.f64.body.getD .skip
theorem e64 : OM.Entry Try.prog 64 := ⟨_, Try.func64, by kernel_rfl, by kernel_rfl⟩
@[reducible] noncomputable def impl_NodesOk.g : Sig := ⟨[.fz tConfig, .fz (.sl (.int .i64))], [.v .bool .z], []⟩
@[reducible] noncomputable def impl_NodesOk.fk : Nat → denI impl_NodesOk.g.pms → Option (denR (outTys impl_NodesOk.g.rts impl_NodesOk.g.pms)) := fun k x => impl_NodesOk.f k x.1 x.2.1
@[reducible] noncomputable def impl_NodesOk.sm (k : Nat) : Sm := ⟨64, impl_NodesOk.g.pms, impl_NodesOk.g.rts, impl_NodesOk.fk k⟩
noncomputable def impl_NodesOk.E (k : Nat) : Env := ⟨tys, [impl_ConfigOk.sm k, impl_ascends.sm k], [], [], []⟩
noncomputable def impl_NodesOk.pts : List (Pt (denR (outTys impl_NodesOk.g.rts impl_NodesOk.g.pms))) := []
theorem impl_NodesOk.hf (k : Nat) (a0 : Config) (a1 : (List Int)) : (impl_NodesOk.f k a0 a1 : Option (denR (outTys impl_NodesOk.g.rts impl_NodesOk.g.pms))) = evC (impl_NodesOk.E k) (fun κ s => lhOf k κ s impl_NodesOk.pts) b64 (OM.start impl_NodesOk.g.pms 0 (a0, a1, ())) (OM.fin impl_NodesOk.g Try.f64.results.toList) := by kernel_rfl
theorem impl_NodesOk.ok (k : Nat) : SmOk Try.prog (impl_NodesOk.sm k) :=
  sm_ok mixed (E := impl_NodesOk.E) (pts := impl_NodesOk.pts) (fun k => ⟨⟨tysOk, by kernel_rfl⟩, forall_cons ⟨impl_ConfigOk.ok k, e68⟩ (forall_cons ⟨impl_ascends.ok k, e132⟩ (forall_nil))⟩) (fun _ => rfl) (fun _ => rfl)
    ⟨Try.func64, by kernel_rfl, by kernel_rfl, by kernel_rfl, by kernel_rfl, by kernel_rfl, by kernel_rfl⟩ (forall_nil) (fun k x => impl_NodesOk.hf k x.1 x.2.1) k
noncomputable def b168 : Code := Try.f168.body.getD .skip
theorem e168 : OM.Entry Try.prog 168 := ⟨_, Try.func168, by kernel_rfl, by kernel_rfl⟩
@[reducible] noncomputable def slices_Index_int_int.g : Sig := ⟨[.fz (.sl (.int .i64)), .fz (.int .i64)], [.v (.int .i64) .z], []⟩
@[reducible] noncomputable def slices_Index_int_int.fk : Nat → denI slices_Index_int_int.g.pms → Option (denR (outTys slices_Index_int_int.g.rts slices_Index_int_int.g.pms)) := fun k x => slices_Index_int_int.f k x.1 x.2.1
@[reducible] noncomputable def slices_Index_int_int.sm (k : Nat) : Sm := ⟨168, slices_Index_int_int.g.pms, slices_Index_int_int.g.rts, slices_Index_int_int.fk k⟩
noncomputable def slices_Index_int_int.E (k : Nat) : Env := ⟨tys, [], [], [], []⟩
@[reducible] noncomputable def slices_Index_int_int.s5 : List Slot := [.v 0 (.sl (.int .i64)) .z [] 0, .v 4 (.int .i64) .z [] 0, .v 28 (.int .i64) .z [] 0, .v 32 (.int .i64) .z [] 0]
noncomputable def slices_Index_int_int.pts : List (Pt (denR (outTys slices_Index_int_int.g.rts slices_Index_int_int.g.pms))) := [⟨5, slices_Index_int_int.s5, fun k x => slices_Index_int_int.p5 k x.1 x.2.1 x.2.2.1 x.2.2.2.1⟩]
theorem slices_Index_int_int.h5 (k : Nat) (x0 : (List Int)) (x1 : Int) (x2 : Int) (x3 : Int) : (slices_Index_int_int.p5 (k + 1) x0 x1 x2 x3 : Option (denR (outTys slices_Index_int_int.g.rts slices_Index_int_int.g.pms))) = evAt (slices_Index_int_int.E k) (fun κ s => lhOf k κ s slices_Index_int_int.pts) 5 b168 (unproj slices_Index_int_int.s5 (x0, x1, x2, x3, ())) (OM.fin slices_Index_int_int.g Try.f168.results.toList) := by kernel_rfl
theorem slices_Index_int_int.hf (k : Nat) (a0 : (List Int)) (a1 : Int) : (slices_Index_int_int.f k a0 a1 : Option (denR (outTys slices_Index_int_int.g.rts slices_Index_int_int.g.pms))) = evC (slices_Index_int_int.E k) (fun κ s => lhOf k κ s slices_Index_int_int.pts) b168 (OM.start slices_Index_int_int.g.pms 0 (a0, a1, ())) (OM.fin slices_Index_int_int.g Try.f168.results.toList) := by kernel_rfl
theorem slices_Index_int_int.ok (k : Nat) : SmOk Try.prog (slices_Index_int_int.sm k) :=
  sm_ok mixed (E := slices_Index_int_int.E) (pts := slices_Index_int_int.pts) (fun k => ⟨⟨tysOk, by kernel_rfl⟩, forall_nil⟩) (fun _ => rfl) (fun _ => rfl)
    ⟨Try.func168, by kernel_rfl, by kernel_rfl, by kernel_rfl, by kernel_rfl, by kernel_rfl, by kernel_rfl⟩ (forall_cons (fun x => ⟨rfl, fun k => slices_Index_int_int.h5 k x.1 x.2.1 x.2.2.1 x.2.2.2.1⟩) (forall_nil)) (fun k x => slices_Index_int_int.hf k x.1 x.2.1) k
noncomputable def b137 : Code := Try.f137.body.getD .skip
theorem e137 : OM.Entry Try.prog 137 := ⟨_, Try.func137, by kernel_rfl, by kernel_rfl⟩
@[reducible] noncomputable def slices_Contains_int_int.g : Sig := ⟨[.fz (.sl (.int .i64)), .fz (.int .i64)], [.v .bool .z], []⟩
@[reducible] noncomputable def slices_Contains_int_int.fk : Nat → denI slices_Contains_int_int.g.pms → Option (denR (outTys slices_Contains_int_int.g.rts slices_Contains_int_int.g.pms)) := fun k x => slices_Contains_int_int.f k x.1 x.2.1
@[reducible] noncomputable def slices_Contains_int_int.sm (k : Nat) : Sm := ⟨137, slices_Contains_int_int.g.pms, slices_Contains_int_int.g.rts, slices_Contains_int_int.fk k⟩
noncomputable def slices_Contains_int_int.E (k : Nat) : Env := ⟨tys, [slices_Index_int_int.sm k], [], [], []⟩
noncomputable def slices_Contains_int_int.pts : List (Pt (denR (outTys slices_Contains_int_int.g.rts slices_Contains_int_int.g.pms))) := []
theorem slices_Contains_int_int.hf (k : Nat) (a0 : (List Int)) (a1 : Int) : (slices_Contains_int_int.f k a0 a1 : Option (denR (outTys slices_Contains_int_int.g.rts slices_Contains_int_int.g.pms))) = evC (slices_Contains_int_int.E k) (fun κ s => lhOf k κ s slices_Contains_int_int.pts) b137 (OM.start slices_Contains_int_int.g.pms 0 (a0, a1, ())) (OM.fin slices_Contains_int_int.g Try.f137.results.toList) := by kernel_rfl
theorem slices_Contains_int_int.ok (k : Nat) : SmOk Try.prog (slices_Contains_int_int.sm k) :=
  sm_ok mixed (E := slices_Contains_int_int.E) (pts := slices_Contains_int_int.pts) (fun k => ⟨⟨tysOk, by kernel_rfl⟩, forall_cons ⟨slices_Index_int_int.ok k, e168⟩ (forall_nil)⟩) (fun _ => rfl) (fun _ => rfl)
    ⟨Try.func137, by kernel_rfl, by kernel_rfl, by kernel_rfl, by kernel_rfl, by kernel_rfl, by kernel_rfl⟩ (forall_nil) (fun k x => slices_Contains_int_int.hf k x.1 x.2.1) k
noncomputable def b77 : Code := Try.f77.body.getD .skip
theorem e77 : OM.Entry Try.prog 77 := ⟨_, Try.func77, by kernel_rfl, by kernel_rfl⟩
@[reducible] noncomputable def impl_SpanOf.g : Sig := ⟨[.fz tConfig, .fz (.sl (.int .i64))], [.v (.int .i64) .z], []⟩
@[reducible] noncomputable def impl_SpanOf.fk : Nat → denI impl_SpanOf.g.pms → Option (denR (outTys impl_SpanOf.g.rts impl_SpanOf.g.pms)) := fun k x => impl_SpanOf.f k x.1 x.2.1
@[reducible] noncomputable def impl_SpanOf.sm (k : Nat) : Sm := ⟨77, impl_SpanOf.g.pms, impl_SpanOf.g.rts, impl_SpanOf.fk k⟩
noncomputable def impl_SpanOf.E (k : Nat) : Env := ⟨tys, [impl_NodesOk.sm k, slices_Contains_int_int.sm k], [18, 32], [], []⟩
@[reducible] noncomputable def impl_SpanOf.s11 : List Slot := [.r 8 9 [] tConfig, .v 20 (.sl (.int .i64)) (.own .z) [] 0, .v 52 (.sl (.int .i64)) .z [] 0, .v 56 (.int .i64) .z [] 0, .v 60 (.int .i64) .z [] 0, .v 9 tConfig .z [] 0]
noncomputable def impl_SpanOf.pts : List (Pt (denR (outTys impl_SpanOf.g.rts impl_SpanOf.g.pms))) := [⟨11, impl_SpanOf.s11, fun k x => impl_SpanOf.p11 k x.1 x.2.1 x.2.2.1 x.2.2.2.1 x.2.2.2.2.1⟩]
theorem impl_SpanOf.h11 (k : Nat) (x0 : (List Int)) (x1 : (List Int)) (x2 : Int) (x3 : Int) (x4 : Config) : (impl_SpanOf.p11 (k + 1) x0 x1 x2 x3 x4 : Option (denR (outTys impl_SpanOf.g.rts impl_SpanOf.g.pms))) = evAt (impl_SpanOf.E k) (fun κ s => lhOf k κ s impl_SpanOf.pts) 11 b77 (unproj impl_SpanOf.s11 (x0, x1, x2, x3, x4, ())) (OM.fin impl_SpanOf.g Try.f77.results.toList) := by kernel_rfl
theorem impl_SpanOf.hf (k : Nat) (a0 : Config) (a1 : (List Int)) : (impl_SpanOf.f k a0 a1 : Option (denR (outTys impl_SpanOf.g.rts impl_SpanOf.g.pms))) = evC (impl_SpanOf.E k) (fun κ s => lhOf k κ s impl_SpanOf.pts) b77 (OM.start impl_SpanOf.g.pms 0 (a0, a1, ())) (OM.fin impl_SpanOf.g Try.f77.results.toList) := by kernel_rfl
theorem impl_SpanOf.ok (k : Nat) : SmOk Try.prog (impl_SpanOf.sm k) :=
  sm_ok mixed (E := impl_SpanOf.E) (pts := impl_SpanOf.pts) (fun k => ⟨⟨tysOk, by kernel_rfl⟩, forall_cons ⟨impl_NodesOk.ok k, e64⟩ (forall_cons ⟨slices_Contains_int_int.ok k, e137⟩ (forall_nil))⟩) (fun _ => rfl) (fun _ => rfl)
    ⟨Try.func77, by kernel_rfl, by kernel_rfl, by kernel_rfl, by kernel_rfl, by kernel_rfl, by kernel_rfl⟩ (forall_cons (fun x => ⟨rfl, fun k => impl_SpanOf.h11 k x.1 x.2.1 x.2.2.1 x.2.2.2.1 x.2.2.2.2.1⟩) (forall_nil)) (fun k x => impl_SpanOf.hf k x.1 x.2.1) k
noncomputable def b20 : Code := Try.f20.body.getD .skip
theorem e20 : OM.Entry Try.prog 20 := ⟨_, Try.func20, by kernel_rfl, by kernel_rfl⟩
@[reducible] noncomputable def impl_Holds.g : Sig := ⟨[.fz tConfig, .fz (.sl (.int .i64))], [.v .bool .z], []⟩
@[reducible] noncomputable def impl_Holds.fk : Nat → denI impl_Holds.g.pms → Option (denR (outTys impl_Holds.g.rts impl_Holds.g.pms)) := fun k x => impl_Holds.f k x.1 x.2.1
@[reducible] noncomputable def impl_Holds.sm (k : Nat) : Sm := ⟨20, impl_Holds.g.pms, impl_Holds.g.rts, impl_Holds.fk k⟩
noncomputable def impl_Holds.E (k : Nat) : Env := ⟨tys, [impl_NodesOk.sm k, impl_SpanOf.sm k], [], [], []⟩
noncomputable def impl_Holds.pts : List (Pt (denR (outTys impl_Holds.g.rts impl_Holds.g.pms))) := []
theorem impl_Holds.hf (k : Nat) (a0 : Config) (a1 : (List Int)) : (impl_Holds.f k a0 a1 : Option (denR (outTys impl_Holds.g.rts impl_Holds.g.pms))) = evC (impl_Holds.E k) (fun κ s => lhOf k κ s impl_Holds.pts) b20 (OM.start impl_Holds.g.pms 0 (a0, a1, ())) (OM.fin impl_Holds.g Try.f20.results.toList) := by kernel_rfl
theorem impl_Holds.ok (k : Nat) : SmOk Try.prog (impl_Holds.sm k) :=
  sm_ok mixed (E := impl_Holds.E) (pts := impl_Holds.pts) (fun k => ⟨⟨tysOk, by kernel_rfl⟩, forall_cons ⟨impl_NodesOk.ok k, e64⟩ (forall_cons ⟨impl_SpanOf.ok k, e77⟩ (forall_nil))⟩) (fun _ => rfl) (fun _ => rfl)
    ⟨Try.func20, by kernel_rfl, by kernel_rfl, by kernel_rfl, by kernel_rfl, by kernel_rfl, by kernel_rfl⟩ (forall_nil) (fun k x => impl_Holds.hf k x.1 x.2.1) k
noncomputable def b141 : Code := Try.f141.body.getD .skip
theorem e141 : OM.Entry Try.prog 141 := ⟨_, Try.func141, by kernel_rfl, by kernel_rfl⟩
@[reducible] noncomputable def impl_eraOk.g : Sig := ⟨[.fz tConfig, .fz tEra], [.v .bool .z], []⟩
@[reducible] noncomputable def impl_eraOk.fk : Nat → denI impl_eraOk.g.pms → Option (denR (outTys impl_eraOk.g.rts impl_eraOk.g.pms)) := fun k x => impl_eraOk.f k x.1 x.2.1
@[reducible] noncomputable def impl_eraOk.sm (k : Nat) : Sm := ⟨141, impl_eraOk.g.pms, impl_eraOk.g.rts, impl_eraOk.fk k⟩
noncomputable def impl_eraOk.E (k : Nat) : Env := ⟨tys, [impl_within.sm k, impl_Holds.sm k], [], [], []⟩
noncomputable def impl_eraOk.pts : List (Pt (denR (outTys impl_eraOk.g.rts impl_eraOk.g.pms))) := []
theorem impl_eraOk.hf (k : Nat) (a0 : Config) (a1 : Era) : (impl_eraOk.f k a0 a1 : Option (denR (outTys impl_eraOk.g.rts impl_eraOk.g.pms))) = evC (impl_eraOk.E k) (fun κ s => lhOf k κ s impl_eraOk.pts) b141 (OM.start impl_eraOk.g.pms 0 (a0, a1, ())) (OM.fin impl_eraOk.g Try.f141.results.toList) := by kernel_rfl
theorem impl_eraOk.ok (k : Nat) : SmOk Try.prog (impl_eraOk.sm k) :=
  sm_ok mixed (E := impl_eraOk.E) (pts := impl_eraOk.pts) (fun k => ⟨⟨tysOk, by kernel_rfl⟩, forall_cons ⟨impl_within.ok k, e67⟩ (forall_cons ⟨impl_Holds.ok k, e20⟩ (forall_nil))⟩) (fun _ => rfl) (fun _ => rfl)
    ⟨Try.func141, by kernel_rfl, by kernel_rfl, by kernel_rfl, by kernel_rfl, by kernel_rfl, by kernel_rfl⟩ (forall_nil) (fun k x => impl_eraOk.hf k x.1 x.2.1) k
noncomputable def b66 : Code := Try.f66.body.getD .skip
theorem e66 : OM.Entry Try.prog 66 := ⟨_, Try.func66, by kernel_rfl, by kernel_rfl⟩
@[reducible] noncomputable def impl_isEpoch.g : Sig := ⟨[.fz (.int .i64)], [.v .bool .z], []⟩
@[reducible] noncomputable def impl_isEpoch.fk : Nat → denI impl_isEpoch.g.pms → Option (denR (outTys impl_isEpoch.g.rts impl_isEpoch.g.pms)) := fun k x => impl_isEpoch.f x.1
@[reducible] noncomputable def impl_isEpoch.sm (k : Nat) : Sm := ⟨66, impl_isEpoch.g.pms, impl_isEpoch.g.rts, impl_isEpoch.fk k⟩
noncomputable def impl_isEpoch.E (k : Nat) : Env := ⟨tys, [impl_within.sm k], [], [], []⟩
noncomputable def impl_isEpoch.pts : List (Pt (denR (outTys impl_isEpoch.g.rts impl_isEpoch.g.pms))) := []
theorem impl_isEpoch.hf (k : Nat) (a0 : Int) : (impl_isEpoch.f a0 : Option (denR (outTys impl_isEpoch.g.rts impl_isEpoch.g.pms))) = evC (impl_isEpoch.E k) (fun κ s => lhOf k κ s impl_isEpoch.pts) b66 (OM.start impl_isEpoch.g.pms 0 (a0, ())) (OM.fin impl_isEpoch.g Try.f66.results.toList) := by kernel_rfl
theorem impl_isEpoch.ok (k : Nat) : SmOk Try.prog (impl_isEpoch.sm k) :=
  sm_ok mixed (E := impl_isEpoch.E) (pts := impl_isEpoch.pts) (fun k => ⟨⟨tysOk, by kernel_rfl⟩, forall_cons ⟨impl_within.ok k, e67⟩ (forall_nil)⟩) (fun _ => rfl) (fun _ => rfl)
    ⟨Try.func66, by kernel_rfl, by kernel_rfl, by kernel_rfl, by kernel_rfl, by kernel_rfl, by kernel_rfl⟩ (forall_nil) (fun k x => impl_isEpoch.hf k x.1) k
noncomputable def b131 : Code := Try.f131.body.getD .skip
theorem e131 : OM.Entry Try.prog 131 := ⟨_, Try.func131, by kernel_rfl, by kernel_rfl⟩
@[reducible] noncomputable def impl_isOff.g : Sig := ⟨[.fz (.int .i64)], [.v .bool .z], []⟩
@[reducible] noncomputable def impl_isOff.fk : Nat → denI impl_isOff.g.pms → Option (denR (outTys impl_isOff.g.rts impl_isOff.g.pms)) := fun k x => impl_isOff.f x.1
@[reducible] noncomputable def impl_isOff.sm (k : Nat) : Sm := ⟨131, impl_isOff.g.pms, impl_isOff.g.rts, impl_isOff.fk k⟩
noncomputable def impl_isOff.E (k : Nat) : Env := ⟨tys, [impl_within.sm k], [], [], []⟩
noncomputable def impl_isOff.pts : List (Pt (denR (outTys impl_isOff.g.rts impl_isOff.g.pms))) := []
theorem impl_isOff.hf (k : Nat) (a0 : Int) : (impl_isOff.f a0 : Option (denR (outTys impl_isOff.g.rts impl_isOff.g.pms))) = evC (impl_isOff.E k) (fun κ s => lhOf k κ s impl_isOff.pts) b131 (OM.start impl_isOff.g.pms 0 (a0, ())) (OM.fin impl_isOff.g Try.f131.results.toList) := by kernel_rfl
theorem impl_isOff.ok (k : Nat) : SmOk Try.prog (impl_isOff.sm k) :=
  sm_ok mixed (E := impl_isOff.E) (pts := impl_isOff.pts) (fun k => ⟨⟨tysOk, by kernel_rfl⟩, forall_cons ⟨impl_within.ok k, e67⟩ (forall_nil)⟩) (fun _ => rfl) (fun _ => rfl)
    ⟨Try.func131, by kernel_rfl, by kernel_rfl, by kernel_rfl, by kernel_rfl, by kernel_rfl, by kernel_rfl⟩ (forall_nil) (fun k x => impl_isOff.hf k x.1) k
noncomputable def b63 : Code := Try.f63.body.getD .skip
theorem e63 : OM.Entry Try.prog 63 := ⟨_, Try.func63, by kernel_rfl, by kernel_rfl⟩
@[reducible] noncomputable def impl_PlaceOk.g : Sig := ⟨[.fz (.int .i64)], [.v .bool .z], []⟩
@[reducible] noncomputable def impl_PlaceOk.fk : Nat → denI impl_PlaceOk.g.pms → Option (denR (outTys impl_PlaceOk.g.rts impl_PlaceOk.g.pms)) := fun k x => impl_PlaceOk.f x.1
@[reducible] noncomputable def impl_PlaceOk.sm (k : Nat) : Sm := ⟨63, impl_PlaceOk.g.pms, impl_PlaceOk.g.rts, impl_PlaceOk.fk k⟩
noncomputable def impl_PlaceOk.E (k : Nat) : Env := ⟨tys, [impl_isEpoch.sm k, impl_isOff.sm k], [], [], []⟩
noncomputable def impl_PlaceOk.pts : List (Pt (denR (outTys impl_PlaceOk.g.rts impl_PlaceOk.g.pms))) := []
theorem impl_PlaceOk.hf (k : Nat) (a0 : Int) : (impl_PlaceOk.f a0 : Option (denR (outTys impl_PlaceOk.g.rts impl_PlaceOk.g.pms))) = evC (impl_PlaceOk.E k) (fun κ s => lhOf k κ s impl_PlaceOk.pts) b63 (OM.start impl_PlaceOk.g.pms 0 (a0, ())) (OM.fin impl_PlaceOk.g Try.f63.results.toList) := by kernel_rfl
theorem impl_PlaceOk.ok (k : Nat) : SmOk Try.prog (impl_PlaceOk.sm k) :=
  sm_ok mixed (E := impl_PlaceOk.E) (pts := impl_PlaceOk.pts) (fun k => ⟨⟨tysOk, by kernel_rfl⟩, forall_cons ⟨impl_isEpoch.ok k, e66⟩ (forall_cons ⟨impl_isOff.ok k, e131⟩ (forall_nil))⟩) (fun _ => rfl) (fun _ => rfl)
    ⟨Try.func63, by kernel_rfl, by kernel_rfl, by kernel_rfl, by kernel_rfl, by kernel_rfl, by kernel_rfl⟩ (forall_nil) (fun k x => impl_PlaceOk.hf k x.1) k
noncomputable def b12 : Code := Try.f12.body.getD .skip
theorem e12 : OM.Entry Try.prog 12 := ⟨_, Try.func12, by kernel_rfl, by kernel_rfl⟩
@[reducible] noncomputable def impl_EpochOf.g : Sig := ⟨[.fz (.int .i64)], [.v (.int .i64) .z], []⟩
@[reducible] noncomputable def impl_EpochOf.fk : Nat → denI impl_EpochOf.g.pms → Option (denR (outTys impl_EpochOf.g.rts impl_EpochOf.g.pms)) := fun k x => impl_EpochOf.f x.1
@[reducible] noncomputable def impl_EpochOf.sm (k : Nat) : Sm := ⟨12, impl_EpochOf.g.pms, impl_EpochOf.g.rts, impl_EpochOf.fk k⟩
noncomputable def impl_EpochOf.E (k : Nat) : Env := ⟨tys, [impl_PlaceOk.sm k], [], [], []⟩
noncomputable def impl_EpochOf.pts : List (Pt (denR (outTys impl_EpochOf.g.rts impl_EpochOf.g.pms))) := []
theorem impl_EpochOf.hf (k : Nat) (a0 : Int) : (impl_EpochOf.f a0 : Option (denR (outTys impl_EpochOf.g.rts impl_EpochOf.g.pms))) = evC (impl_EpochOf.E k) (fun κ s => lhOf k κ s impl_EpochOf.pts) b12 (OM.start impl_EpochOf.g.pms 0 (a0, ())) (OM.fin impl_EpochOf.g Try.f12.results.toList) := by kernel_rfl
theorem impl_EpochOf.ok (k : Nat) : SmOk Try.prog (impl_EpochOf.sm k) :=
  sm_ok mixed (E := impl_EpochOf.E) (pts := impl_EpochOf.pts) (fun k => ⟨⟨tysOk, by kernel_rfl⟩, forall_cons ⟨impl_PlaceOk.ok k, e63⟩ (forall_nil)⟩) (fun _ => rfl) (fun _ => rfl)
    ⟨Try.func12, by kernel_rfl, by kernel_rfl, by kernel_rfl, by kernel_rfl, by kernel_rfl, by kernel_rfl⟩ (forall_nil) (fun k x => impl_EpochOf.hf k x.1) k
noncomputable def b82 : Code := Try.f82.body.getD .skip
theorem e82 : OM.Entry Try.prog 82 := ⟨_, Try.func82, by kernel_rfl, by kernel_rfl⟩
@[reducible] noncomputable def impl_RegOk.g : Sig := ⟨[.fz tConfig, .fz tRegister], [.v .bool .z], []⟩
@[reducible] noncomputable def impl_RegOk.fk : Nat → denI impl_RegOk.g.pms → Option (denR (outTys impl_RegOk.g.rts impl_RegOk.g.pms)) := fun k x => impl_RegOk.f k x.1 x.2.1
@[reducible] noncomputable def impl_RegOk.sm (k : Nat) : Sm := ⟨82, impl_RegOk.g.pms, impl_RegOk.g.rts, impl_RegOk.fk k⟩
noncomputable def impl_RegOk.E (k : Nat) : Env := ⟨tys, [impl_within.sm k, impl_ConfigOk.sm k, impl_eraOk.sm k, impl_EpochOf.sm k], [15], [8], []⟩
@[reducible] noncomputable def impl_RegOk.s5 : List Slot := [.r 8 9 [] tConfig, .r 12 13 [] tRegister, .v 36 (.sl tEra) .z [] 0, .v 40 (.int .i64) .z [] 0, .v 44 (.int .i64) .z [] 0, .v 9 tConfig .z [] 0, .v 13 tRegister .z [] 0]
@[reducible] noncomputable def impl_RegOk.s16 : List Slot := [.r 8 9 [] tConfig, .r 12 13 [] tRegister, .v 28 .bool .z [] 0, .v 9 tConfig .z [] 0, .v 13 tRegister .z [] 0]
noncomputable def impl_RegOk.pts : List (Pt (denR (outTys impl_RegOk.g.rts impl_RegOk.g.pms))) := [⟨5, impl_RegOk.s5, fun k x => impl_RegOk.p5 k x.1 x.2.1 x.2.2.1 x.2.2.2.1 x.2.2.2.2.1⟩, ⟨16, impl_RegOk.s16, fun k x => impl_RegOk.p16 k x.1 x.2.1 x.2.2.1⟩]
theorem impl_RegOk.h5 (k : Nat) (x0 : (List Era)) (x1 : Int) (x2 : Int) (x3 : Config) (x4 : Register) : (impl_RegOk.p5 (k + 1) x0 x1 x2 x3 x4 : Option (denR (outTys impl_RegOk.g.rts impl_RegOk.g.pms))) = evAt (impl_RegOk.E k) (fun κ s => lhOf k κ s impl_RegOk.pts) 5 b82 (unproj impl_RegOk.s5 (x0, x1, x2, x3, x4, ())) (OM.fin impl_RegOk.g Try.f82.results.toList) := by kernel_rfl
theorem impl_RegOk.h16 (k : Nat) (x0 : Bool) (x1 : Config) (x2 : Register) : (impl_RegOk.p16 (k + 1) x0 x1 x2 : Option (denR (outTys impl_RegOk.g.rts impl_RegOk.g.pms))) = evAt (impl_RegOk.E k) (fun κ s => lhOf k κ s impl_RegOk.pts) 16 b82 (unproj impl_RegOk.s16 (x0, x1, x2, ())) (OM.fin impl_RegOk.g Try.f82.results.toList) := by kernel_rfl
theorem impl_RegOk.hf (k : Nat) (a0 : Config) (a1 : Register) : (impl_RegOk.f k a0 a1 : Option (denR (outTys impl_RegOk.g.rts impl_RegOk.g.pms))) = evC (impl_RegOk.E k) (fun κ s => lhOf k κ s impl_RegOk.pts) b82 (OM.start impl_RegOk.g.pms 0 (a0, a1, ())) (OM.fin impl_RegOk.g Try.f82.results.toList) := by kernel_rfl
theorem impl_RegOk.ok (k : Nat) : SmOk Try.prog (impl_RegOk.sm k) :=
  sm_ok mixed (E := impl_RegOk.E) (pts := impl_RegOk.pts) (fun k => ⟨⟨tysOk, by kernel_rfl⟩, forall_cons ⟨impl_within.ok k, e67⟩ (forall_cons ⟨impl_ConfigOk.ok k, e68⟩ (forall_cons ⟨impl_eraOk.ok k, e141⟩ (forall_cons ⟨impl_EpochOf.ok k, e12⟩ (forall_nil))))⟩) (fun _ => rfl) (fun _ => rfl)
    ⟨Try.func82, by kernel_rfl, by kernel_rfl, by kernel_rfl, by kernel_rfl, by kernel_rfl, by kernel_rfl⟩ (forall_cons (fun x => ⟨rfl, fun k => impl_RegOk.h5 k x.1 x.2.1 x.2.2.1 x.2.2.2.1 x.2.2.2.2.1⟩) (forall_cons (fun x => ⟨rfl, fun k => impl_RegOk.h16 k x.1 x.2.1 x.2.2.1⟩) (forall_nil))) (fun k x => impl_RegOk.hf k x.1 x.2.1) k
noncomputable def b30 : Code := Try.f30.body.getD .skip
theorem e30 : OM.Entry Try.prog 30 := ⟨_, Try.func30, by kernel_rfl, by kernel_rfl⟩
@[reducible] noncomputable def impl_ReaderOk.g : Sig := ⟨[.fz tReader], [.v .bool .z], []⟩
@[reducible] noncomputable def impl_ReaderOk.fk : Nat → denI impl_ReaderOk.g.pms → Option (denR (outTys impl_ReaderOk.g.rts impl_ReaderOk.g.pms)) := fun k x => impl_ReaderOk.f x.1
@[reducible] noncomputable def impl_ReaderOk.sm (k : Nat) : Sm := ⟨30, impl_ReaderOk.g.pms, impl_ReaderOk.g.rts, impl_ReaderOk.fk k⟩
noncomputable def impl_ReaderOk.E (k : Nat) : Env := ⟨tys, [impl_within.sm k], [], [], []⟩
noncomputable def impl_ReaderOk.pts : List (Pt (denR (outTys impl_ReaderOk.g.rts impl_ReaderOk.g.pms))) := []
theorem impl_ReaderOk.hf (k : Nat) (a0 : Reader) : (impl_ReaderOk.f a0 : Option (denR (outTys impl_ReaderOk.g.rts impl_ReaderOk.g.pms))) = evC (impl_ReaderOk.E k) (fun κ s => lhOf k κ s impl_ReaderOk.pts) b30 (OM.start impl_ReaderOk.g.pms 0 (a0, ())) (OM.fin impl_ReaderOk.g Try.f30.results.toList) := by kernel_rfl
theorem impl_ReaderOk.ok (k : Nat) : SmOk Try.prog (impl_ReaderOk.sm k) :=
  sm_ok mixed (E := impl_ReaderOk.E) (pts := impl_ReaderOk.pts) (fun k => ⟨⟨tysOk, by kernel_rfl⟩, forall_cons ⟨impl_within.ok k, e67⟩ (forall_nil)⟩) (fun _ => rfl) (fun _ => rfl)
    ⟨Try.func30, by kernel_rfl, by kernel_rfl, by kernel_rfl, by kernel_rfl, by kernel_rfl, by kernel_rfl⟩ (forall_nil) (fun k x => impl_ReaderOk.hf k x.1) k
noncomputable def b83 : Code := Try.f83.body.getD .skip
theorem e83 : OM.Entry Try.prog 83 := ⟨_, Try.func83, by kernel_rfl, by kernel_rfl⟩
@[reducible] noncomputable def impl_nodesOf.g : Sig := ⟨[.fz (.sl tAnswer)], [.v (.sl (.int .i64)) (.own .z)], []⟩
@[reducible] noncomputable def impl_nodesOf.fk : Nat → denI impl_nodesOf.g.pms → Option (denR (outTys impl_nodesOf.g.rts impl_nodesOf.g.pms)) := fun k x => impl_nodesOf.f k x.1
@[reducible] noncomputable def impl_nodesOf.sm (k : Nat) : Sm := ⟨83, impl_nodesOf.g.pms, impl_nodesOf.g.rts, impl_nodesOf.fk k⟩
noncomputable def impl_nodesOf.E (k : Nat) : Env := ⟨tys, [], [12, 15], [], []⟩
@[reducible] noncomputable def impl_nodesOf.s7 : List Slot := [.v 12 (.sl (.int .i64)) (.own .z) [] 0, .v 28 (.sl tAnswer) .z [] 0, .v 32 (.int .i64) .z [] 0, .v 36 (.int .i64) .z [] 0]
noncomputable def impl_nodesOf.pts : List (Pt (denR (outTys impl_nodesOf.g.rts impl_nodesOf.g.pms))) := [⟨7, impl_nodesOf.s7, fun k x => impl_nodesOf.p7 k x.1 x.2.1 x.2.2.1 x.2.2.2.1⟩]
theorem impl_nodesOf.h7 (k : Nat) (x0 : (List Int)) (x1 : (List Answer)) (x2 : Int) (x3 : Int) : (impl_nodesOf.p7 (k + 1) x0 x1 x2 x3 : Option (denR (outTys impl_nodesOf.g.rts impl_nodesOf.g.pms))) = evAt (impl_nodesOf.E k) (fun κ s => lhOf k κ s impl_nodesOf.pts) 7 b83 (unproj impl_nodesOf.s7 (x0, x1, x2, x3, ())) (OM.fin impl_nodesOf.g Try.f83.results.toList) := by kernel_rfl
theorem impl_nodesOf.hf (k : Nat) (a0 : (List Answer)) : (impl_nodesOf.f k a0 : Option (denR (outTys impl_nodesOf.g.rts impl_nodesOf.g.pms))) = evC (impl_nodesOf.E k) (fun κ s => lhOf k κ s impl_nodesOf.pts) b83 (OM.start impl_nodesOf.g.pms 0 (a0, ())) (OM.fin impl_nodesOf.g Try.f83.results.toList) := by kernel_rfl
theorem impl_nodesOf.ok (k : Nat) : SmOk Try.prog (impl_nodesOf.sm k) :=
  sm_ok mixed (E := impl_nodesOf.E) (pts := impl_nodesOf.pts) (fun k => ⟨⟨tysOk, by kernel_rfl⟩, forall_nil⟩) (fun _ => rfl) (fun _ => rfl)
    ⟨Try.func83, by kernel_rfl, by kernel_rfl, by kernel_rfl, by kernel_rfl, by kernel_rfl, by kernel_rfl⟩ (forall_cons (fun x => ⟨rfl, fun k => impl_nodesOf.h7 k x.1 x.2.1 x.2.2.1 x.2.2.2.1⟩) (forall_nil)) (fun k x => impl_nodesOf.hf k x.1) k
noncomputable def b84 : Code := Try.f84.body.getD .skip
theorem e84 : OM.Entry Try.prog 84 := ⟨_, Try.func84, by kernel_rfl, by kernel_rfl⟩
@[reducible] noncomputable def impl_copyReader.g : Sig := ⟨[.fz tReader], [.v tReader (.two .z (.two .z (.two (.own .z) .z)))], []⟩
@[reducible] noncomputable def impl_copyReader.fk : Nat → denI impl_copyReader.g.pms → Option (denR (outTys impl_copyReader.g.rts impl_copyReader.g.pms)) := fun k x => impl_copyReader.f x.1
@[reducible] noncomputable def impl_copyReader.sm (k : Nat) : Sm := ⟨84, impl_copyReader.g.pms, impl_copyReader.g.rts, impl_copyReader.fk k⟩
noncomputable def impl_copyReader.E (k : Nat) : Env := ⟨tys, [], [], [], []⟩
noncomputable def impl_copyReader.pts : List (Pt (denR (outTys impl_copyReader.g.rts impl_copyReader.g.pms))) := []
theorem impl_copyReader.hf (k : Nat) (a0 : Reader) : (impl_copyReader.f a0 : Option (denR (outTys impl_copyReader.g.rts impl_copyReader.g.pms))) = evC (impl_copyReader.E k) (fun κ s => lhOf k κ s impl_copyReader.pts) b84 (OM.start impl_copyReader.g.pms 0 (a0, ())) (OM.fin impl_copyReader.g Try.f84.results.toList) := by kernel_rfl
theorem impl_copyReader.ok (k : Nat) : SmOk Try.prog (impl_copyReader.sm k) :=
  sm_ok mixed (E := impl_copyReader.E) (pts := impl_copyReader.pts) (fun k => ⟨⟨tysOk, by kernel_rfl⟩, forall_nil⟩) (fun _ => rfl) (fun _ => rfl)
    ⟨Try.func84, by kernel_rfl, by kernel_rfl, by kernel_rfl, by kernel_rfl, by kernel_rfl, by kernel_rfl⟩ (forall_nil) (fun k x => impl_copyReader.hf k x.1) k
noncomputable def b28 : Code := Try.f28.body.getD .skip
theorem e28 : OM.Entry Try.prog 28 := ⟨_, Try.func28, by kernel_rfl, by kernel_rfl⟩
@[reducible] noncomputable def impl_OffOf.g : Sig := ⟨[.fz (.int .i64)], [.v (.int .i64) .z], []⟩
@[reducible] noncomputable def impl_OffOf.fk : Nat → denI impl_OffOf.g.pms → Option (denR (outTys impl_OffOf.g.rts impl_OffOf.g.pms)) := fun k x => impl_OffOf.f x.1
@[reducible] noncomputable def impl_OffOf.sm (k : Nat) : Sm := ⟨28, impl_OffOf.g.pms, impl_OffOf.g.rts, impl_OffOf.fk k⟩
noncomputable def impl_OffOf.E (k : Nat) : Env := ⟨tys, [impl_PlaceOk.sm k], [], [], []⟩
noncomputable def impl_OffOf.pts : List (Pt (denR (outTys impl_OffOf.g.rts impl_OffOf.g.pms))) := []
theorem impl_OffOf.hf (k : Nat) (a0 : Int) : (impl_OffOf.f a0 : Option (denR (outTys impl_OffOf.g.rts impl_OffOf.g.pms))) = evC (impl_OffOf.E k) (fun κ s => lhOf k κ s impl_OffOf.pts) b28 (OM.start impl_OffOf.g.pms 0 (a0, ())) (OM.fin impl_OffOf.g Try.f28.results.toList) := by kernel_rfl
theorem impl_OffOf.ok (k : Nat) : SmOk Try.prog (impl_OffOf.sm k) :=
  sm_ok mixed (E := impl_OffOf.E) (pts := impl_OffOf.pts) (fun k => ⟨⟨tysOk, by kernel_rfl⟩, forall_cons ⟨impl_PlaceOk.ok k, e63⟩ (forall_nil)⟩) (fun _ => rfl) (fun _ => rfl)
    ⟨Try.func28, by kernel_rfl, by kernel_rfl, by kernel_rfl, by kernel_rfl, by kernel_rfl, by kernel_rfl⟩ (forall_nil) (fun k x => impl_OffOf.hf k x.1) k
noncomputable def b85 : Code := Try.f85.body.getD .skip
theorem e85 : OM.Entry Try.prog 85 := ⟨_, Try.func85, by kernel_rfl, by kernel_rfl⟩
@[reducible] noncomputable def impl_isAhead.g : Sig := ⟨[.fz (.int .i64), .fz tReader], [.v .bool .z], []⟩
@[reducible] noncomputable def impl_isAhead.fk : Nat → denI impl_isAhead.g.pms → Option (denR (outTys impl_isAhead.g.rts impl_isAhead.g.pms)) := fun k x => impl_isAhead.f x.1 x.2.1
@[reducible] noncomputable def impl_isAhead.sm (k : Nat) : Sm := ⟨85, impl_isAhead.g.pms, impl_isAhead.g.rts, impl_isAhead.fk k⟩
noncomputable def impl_isAhead.E (k : Nat) : Env := ⟨tys, [impl_EpochOf.sm k, impl_OffOf.sm k], [], [], []⟩
noncomputable def impl_isAhead.pts : List (Pt (denR (outTys impl_isAhead.g.rts impl_isAhead.g.pms))) := []
theorem impl_isAhead.hf (k : Nat) (a0 : Int) (a1 : Reader) : (impl_isAhead.f a0 a1 : Option (denR (outTys impl_isAhead.g.rts impl_isAhead.g.pms))) = evC (impl_isAhead.E k) (fun κ s => lhOf k κ s impl_isAhead.pts) b85 (OM.start impl_isAhead.g.pms 0 (a0, a1, ())) (OM.fin impl_isAhead.g Try.f85.results.toList) := by kernel_rfl
theorem impl_isAhead.ok (k : Nat) : SmOk Try.prog (impl_isAhead.sm k) :=
  sm_ok mixed (E := impl_isAhead.E) (pts := impl_isAhead.pts) (fun k => ⟨⟨tysOk, by kernel_rfl⟩, forall_cons ⟨impl_EpochOf.ok k, e12⟩ (forall_cons ⟨impl_OffOf.ok k, e28⟩ (forall_nil))⟩) (fun _ => rfl) (fun _ => rfl)
    ⟨Try.func85, by kernel_rfl, by kernel_rfl, by kernel_rfl, by kernel_rfl, by kernel_rfl, by kernel_rfl⟩ (forall_nil) (fun k x => impl_isAhead.hf k x.1 x.2.1) k
noncomputable def b97 : Code := Try.f97.body.getD .skip
theorem e97 : OM.Entry Try.prog 97 := ⟨_, Try.func97, by kernel_rfl, by kernel_rfl⟩
@[reducible] noncomputable def impl_copyInts.g : Sig := ⟨[.fz (.sl (.int .i64))], [.v (.sl (.int .i64)) (.own .z)], []⟩
@[reducible] noncomputable def impl_copyInts.fk : Nat → denI impl_copyInts.g.pms → Option (denR (outTys impl_copyInts.g.rts impl_copyInts.g.pms)) := fun k x => impl_copyInts.f x.1
@[reducible] noncomputable def impl_copyInts.sm (k : Nat) : Sm := ⟨97, impl_copyInts.g.pms, impl_copyInts.g.rts, impl_copyInts.fk k⟩
noncomputable def impl_copyInts.E (k : Nat) : Env := ⟨tys, [], [4], [], []⟩
noncomputable def impl_copyInts.pts : List (Pt (denR (outTys impl_copyInts.g.rts impl_copyInts.g.pms))) := []
theorem impl_copyInts.hf (k : Nat) (a0 : (List Int)) : (impl_copyInts.f a0 : Option (denR (outTys impl_copyInts.g.rts impl_copyInts.g.pms))) = evC (impl_copyInts.E k) (fun κ s => lhOf k κ s impl_copyInts.pts) b97 (OM.start impl_copyInts.g.pms 0 (a0, ())) (OM.fin impl_copyInts.g Try.f97.results.toList) := by kernel_rfl
theorem impl_copyInts.ok (k : Nat) : SmOk Try.prog (impl_copyInts.sm k) :=
  sm_ok mixed (E := impl_copyInts.E) (pts := impl_copyInts.pts) (fun k => ⟨⟨tysOk, by kernel_rfl⟩, forall_nil⟩) (fun _ => rfl) (fun _ => rfl)
    ⟨Try.func97, by kernel_rfl, by kernel_rfl, by kernel_rfl, by kernel_rfl, by kernel_rfl, by kernel_rfl⟩ (forall_nil) (fun k x => impl_copyInts.hf k x.1) k
noncomputable def b135 : Code := Try.f135.body.getD .skip
theorem e135 : OM.Entry Try.prog 135 := ⟨_, Try.func135, by kernel_rfl, by kernel_rfl⟩
noncomputable def slices_DeleteFunc_int_int_impl_both_1.rho : Shelf.Ren := ⟨fun n => cond (Nat.beq n 6) 167 (cond (Nat.beq n 10) 135 (n)), fun n => cond (Nat.beq n 22) 24 (cond (Nat.beq n 23) 3 (cond (Nat.beq n 25) 96 (cond (Nat.beq n 0) 0 (cond (Nat.beq n 3) 3 (cond (Nat.beq n 4) 4 (n)))))), fun n => n⟩
theorem slices_DeleteFunc_int_int_impl_both_1.lay : Proofs.SlLaysH.n10 Try.prog slices_DeleteFunc_int_int_impl_both_1.rho := { mixed := mixed, f6 := ⟨"slices.IndexFunc[[]int,int]", by kernel_rfl, (Try.func167).trans (congrArg some (by kernel_rfl))⟩, f10 := ⟨"slices.DeleteFunc[[]int,int]", by kernel_rfl, (Try.func135).trans (congrArg some (by kernel_rfl))⟩, t0 := Try.underlying0, a0 := Try.isAgg0, z0 := Try.sizeOf0, v0 := Try.zeroValue0, t3 := Try.underlying3, a3 := Try.isAgg3, z3 := Try.sizeOf3, v3 := Try.zeroValue3, t4 := Try.underlying4, a4 := Try.isAgg4, z4 := Try.sizeOf4, v4 := Try.zeroValue4, t22 := Try.underlying24, a22 := Try.isAgg24, z22 := Try.sizeOf24, v22 := Try.zeroValue24, a23 := Try.isAgg3, z23 := Try.sizeOf3, t25 := Try.underlying96, a25 := Try.isAgg96, z25 := Try.sizeOf96, v25 := Try.zeroValue96 }
noncomputable def slices_DeleteFunc_int_int_impl_both_1.rhoC : Shelf.Ren := ⟨fun n => cond (Nat.beq n 29) 168 (cond (Nat.beq n 31) 137 (n)), fun n => cond (Nat.beq n 22) 24 (cond (Nat.beq n 23) 3 (cond (Nat.beq n 0) 0 (cond (Nat.beq n 3) 3 (cond (Nat.beq n 4) 4 (n))))), fun n => n⟩
theorem slices_DeleteFunc_int_int_impl_both_1.layC : Proofs.SlLaysE.n31 Try.prog slices_DeleteFunc_int_int_impl_both_1.rhoC := { mixed := mixed, f29 := ⟨"slices.Index[[]int,int]", by kernel_rfl, (Try.func168).trans (congrArg some (by kernel_rfl))⟩, f31 := ⟨"slices.Contains[[]int,int]", by kernel_rfl, (Try.func137).trans (congrArg some (by kernel_rfl))⟩, t0 := Try.underlying0, a0 := Try.isAgg0, z0 := Try.sizeOf0, v0 := Try.zeroValue0, t3 := Try.underlying3, a3 := Try.isAgg3, z3 := Try.sizeOf3, v3 := Try.zeroValue3, t4 := Try.underlying4, a4 := Try.isAgg4, z4 := Try.sizeOf4, v4 := Try.zeroValue4, t22 := Try.underlying24, a22 := Try.isAgg24, z22 := Try.sizeOf24, v22 := Try.zeroValue24, a23 := Try.isAgg3, z23 := Try.sizeOf3 }
theorem slices_DeleteFunc_int_int_impl_both_1.gives (w : Go.World) (S : Nat → Prop) (y : ((List Int) × Unit)) (cap : List Value) (x : Int) (hy : slices_DeleteFunc_int_int_impl_both_1.okp y) (h : Rp w S (.pair (.fp (.sl (.int .i64))) .unit) .z y cap (fun _ => False)) : Proofs.FnGives Try.prog 142 cap.toArray #[.int .i64 x] (.bool (slices_DeleteFunc_int_int_impl_both_1.pred y x)) w := by
  obtain ⟨b, off, c1, rfl, h1, h2⟩ := cap_one h
  obtain ⟨a, n, c, rfl⟩ : ∃ a n c, c1 = [.slice a n c] := by
    obtain ⟨a, c, e, _⟩ := h2
    exact ⟨a, _, c, e⟩
  have hcell : w.cell? ⟨b, off, none⟩ = some (.slice a n c) := h1 0 _ rfl
  have hcon := contains_calls slices_DeleteFunc_int_int_impl_both_1.layC h2 hy x
  change Calls Try.prog 137 _ _ _ at hcon
  unfold slices_DeleteFunc_int_int_impl_both_1.pred
  generalize (y.1.any fun u => decide (x = u)) = r at hcon ⊢
  clear h h1 h2 hy
  show Calls Try.prog 142 #[.int .i64 x, .pointer (some ⟨b, off, none⟩)] w _
  go_enter Try.func142, Try.ntmps142
  go_wp2_with (go_at_call 137; refine hcon.mono ?_; rintro e w' ⟨rfl, rfl⟩)
  all_goals (go_ret; exact ⟨rfl, 0, rfl⟩)
@[reducible] noncomputable def slices_DeleteFunc_int_int_impl_both_1.g : Sig := ⟨[.own (.sl (.int .i64)) (.own .z), .fz (.fn 142 (.pair (.fp (.sl (.int .i64))) .unit))], [.v (.sl (.int .i64)) (.own .z)], []⟩
@[reducible] noncomputable def slices_DeleteFunc_int_int_impl_both_1.fk : Nat → denI slices_DeleteFunc_int_int_impl_both_1.g.pms → Option (denR (outTys slices_DeleteFunc_int_int_impl_both_1.g.rts slices_DeleteFunc_int_int_impl_both_1.g.pms)) := fun k x => slices_DeleteFunc_int_int_impl_both_1.f x.1 x.2.1
@[reducible] noncomputable def slices_DeleteFunc_int_int_impl_both_1.sm (k : Nat) : Sm := ⟨135, slices_DeleteFunc_int_int_impl_both_1.g.pms, slices_DeleteFunc_int_int_impl_both_1.g.rts, slices_DeleteFunc_int_int_impl_both_1.fk k⟩
theorem slices_DeleteFunc_int_int_impl_both_1.ok (k : Nat) : SmOk Try.prog (slices_DeleteFunc_int_int_impl_both_1.sm k) :=
  del_ok (t := (.pair (.fp (.sl (.int .i64))) .unit)) slices_DeleteFunc_int_int_impl_both_1.lay Try.zeroValue3 (Proofs.enters_of Try.func142 (by kernel_rfl) rfl) slices_DeleteFunc_int_int_impl_both_1.pred slices_DeleteFunc_int_int_impl_both_1.okp slices_DeleteFunc_int_int_impl_both_1.gives

noncomputable def b87 : Code := Try.f87.body.getD .skip
theorem e87 : OM.Entry Try.prog 87 := ⟨_, Try.func87, by kernel_rfl, by kernel_rfl⟩
@[reducible] noncomputable def impl_both.g : Sig := ⟨[.fz (.sl (.int .i64)), .fz (.sl (.int .i64))], [.v (.sl (.int .i64)) (.own .z)], []⟩
@[reducible] noncomputable def impl_both.fk : Nat → denI impl_both.g.pms → Option (denR (outTys impl_both.g.rts impl_both.g.pms)) := fun k x => impl_both.f x.1 x.2.1
@[reducible] noncomputable def impl_both.sm (k : Nat) : Sm := ⟨87, impl_both.g.pms, impl_both.g.rts, impl_both.fk k⟩
noncomputable def impl_both.E (k : Nat) : Env := ⟨tys, [impl_copyInts.sm k, slices_DeleteFunc_int_int_impl_both_1.sm k], [], [], []⟩
noncomputable def impl_both.pts : List (Pt (denR (outTys impl_both.g.rts impl_both.g.pms))) := []
theorem impl_both.hf (k : Nat) (a0 : (List Int)) (a1 : (List Int)) : (impl_both.f a0 a1 : Option (denR (outTys impl_both.g.rts impl_both.g.pms))) = evC (impl_both.E k) (fun κ s => lhOf k κ s impl_both.pts) b87 (OM.start impl_both.g.pms 0 (a0, a1, ())) (OM.fin impl_both.g Try.f87.results.toList) := by kernel_rfl
theorem impl_both.ok (k : Nat) : SmOk Try.prog (impl_both.sm k) :=
  sm_ok mixed (E := impl_both.E) (pts := impl_both.pts) (fun k => ⟨⟨tysOk, by kernel_rfl⟩, forall_cons ⟨impl_copyInts.ok k, e97⟩ (forall_cons ⟨slices_DeleteFunc_int_int_impl_both_1.ok k, e135⟩ (forall_nil))⟩) (fun _ => rfl) (fun _ => rfl)
    ⟨Try.func87, by kernel_rfl, by kernel_rfl, by kernel_rfl, by kernel_rfl, by kernel_rfl, by kernel_rfl⟩ (forall_nil) (fun k x => impl_both.hf k x.1 x.2.1) k
noncomputable def b86 : Code := Try.f86.body.getD .skip
theorem e86 : OM.Entry Try.prog 86 := ⟨_, Try.func86, by kernel_rfl, by kernel_rfl⟩
@[reducible] noncomputable def impl_Reader_tell.g : Sig := ⟨[.ptr tReader (.two .z (.two .z (.two (.own .z) .z))) (.two .z (.two .z (.two (.own .z) .z))), .fz tEvent], [], []⟩
@[reducible] noncomputable def impl_Reader_tell.fk : Nat → denI impl_Reader_tell.g.pms → Option (denR (outTys impl_Reader_tell.g.rts impl_Reader_tell.g.pms)) := fun k x => impl_Reader_tell.f x.1 x.2.1
@[reducible] noncomputable def impl_Reader_tell.sm (k : Nat) : Sm := ⟨86, impl_Reader_tell.g.pms, impl_Reader_tell.g.rts, impl_Reader_tell.fk k⟩
noncomputable def impl_Reader_tell.E (k : Nat) : Env := ⟨tys, [], [9], [], []⟩
noncomputable def impl_Reader_tell.pts : List (Pt (denR (outTys impl_Reader_tell.g.rts impl_Reader_tell.g.pms))) := []
theorem impl_Reader_tell.hf (k : Nat) (a0 : Reader) (a1 : Event) : (impl_Reader_tell.f a0 a1 : Option (denR (outTys impl_Reader_tell.g.rts impl_Reader_tell.g.pms))) = evC (impl_Reader_tell.E k) (fun κ s => lhOf k κ s impl_Reader_tell.pts) b86 (OM.start impl_Reader_tell.g.pms 0 (a0, a1, ())) (OM.fin impl_Reader_tell.g Try.f86.results.toList) := by kernel_rfl
theorem impl_Reader_tell.ok (k : Nat) : SmOk Try.prog (impl_Reader_tell.sm k) :=
  sm_ok mixed (E := impl_Reader_tell.E) (pts := impl_Reader_tell.pts) (fun k => ⟨⟨tysOk, by kernel_rfl⟩, forall_nil⟩) (fun _ => rfl) (fun _ => rfl)
    ⟨Try.func86, by kernel_rfl, by kernel_rfl, by kernel_rfl, by kernel_rfl, by kernel_rfl, by kernel_rfl⟩ (forall_nil) (fun k x => impl_Reader_tell.hf k x.1 x.2.1) k
noncomputable def b99 : Code := Try.f99.body.getD .skip
theorem e99 : OM.Entry Try.prog 99 := ⟨_, Try.func99, by kernel_rfl, by kernel_rfl⟩
@[reducible] noncomputable def impl_Rest.g : Sig := ⟨[.fz tConfig, .fz (.sl (.int .i64)), .fz (.sl (.int .i64))], [.v (.sl (.int .i64)) (.own .z)], []⟩
@[reducible] noncomputable def impl_Rest.fk : Nat → denI impl_Rest.g.pms → Option (denR (outTys impl_Rest.g.rts impl_Rest.g.pms)) := fun k x => impl_Rest.f k x.1 x.2.1 x.2.2.1
@[reducible] noncomputable def impl_Rest.sm (k : Nat) : Sm := ⟨99, impl_Rest.g.pms, impl_Rest.g.rts, impl_Rest.fk k⟩
noncomputable def impl_Rest.E (k : Nat) : Env := ⟨tys, [impl_NodesOk.sm k, slices_Contains_int_int.sm k], [27, 33], [], []⟩
@[reducible] noncomputable def impl_Rest.s11 : List Slot := [.v 8 (.sl (.int .i64)) .z [] 0, .v 28 (.sl (.int .i64)) (.own .z) [] 0, .v 88 (.sl (.int .i64)) .z [] 0, .v 92 (.int .i64) .z [] 0, .v 96 (.int .i64) .z [] 0]
noncomputable def impl_Rest.pts : List (Pt (denR (outTys impl_Rest.g.rts impl_Rest.g.pms))) := [⟨11, impl_Rest.s11, fun k x => impl_Rest.p11 k x.1 x.2.1 x.2.2.1 x.2.2.2.1 x.2.2.2.2.1⟩]
theorem impl_Rest.h11 (k : Nat) (x0 : (List Int)) (x1 : (List Int)) (x2 : (List Int)) (x3 : Int) (x4 : Int) : (impl_Rest.p11 (k + 1) x0 x1 x2 x3 x4 : Option (denR (outTys impl_Rest.g.rts impl_Rest.g.pms))) = evAt (impl_Rest.E k) (fun κ s => lhOf k κ s impl_Rest.pts) 11 b99 (unproj impl_Rest.s11 (x0, x1, x2, x3, x4, ())) (OM.fin impl_Rest.g Try.f99.results.toList) := by kernel_rfl
theorem impl_Rest.hf (k : Nat) (a0 : Config) (a1 : (List Int)) (a2 : (List Int)) : (impl_Rest.f k a0 a1 a2 : Option (denR (outTys impl_Rest.g.rts impl_Rest.g.pms))) = evC (impl_Rest.E k) (fun κ s => lhOf k κ s impl_Rest.pts) b99 (OM.start impl_Rest.g.pms 0 (a0, a1, a2, ())) (OM.fin impl_Rest.g Try.f99.results.toList) := by kernel_rfl
theorem impl_Rest.ok (k : Nat) : SmOk Try.prog (impl_Rest.sm k) :=
  sm_ok mixed (E := impl_Rest.E) (pts := impl_Rest.pts) (fun k => ⟨⟨tysOk, by kernel_rfl⟩, forall_cons ⟨impl_NodesOk.ok k, e64⟩ (forall_cons ⟨slices_Contains_int_int.ok k, e137⟩ (forall_nil))⟩) (fun _ => rfl) (fun _ => rfl)
    ⟨Try.func99, by kernel_rfl, by kernel_rfl, by kernel_rfl, by kernel_rfl, by kernel_rfl, by kernel_rfl⟩ (forall_cons (fun x => ⟨rfl, fun k => impl_Rest.h11 k x.1 x.2.1 x.2.2.1 x.2.2.2.1 x.2.2.2.2.1⟩) (forall_nil)) (fun k x => impl_Rest.hf k x.1 x.2.1 x.2.2.1) k
noncomputable def b27 : Code := Try.f27.body.getD .skip
theorem e27 : OM.Entry Try.prog 27 := ⟨_, Try.func27, by kernel_rfl, by kernel_rfl⟩
@[reducible] noncomputable def impl_Enough.g : Sig := ⟨[.fz tConfig, .fz (.sl (.int .i64)), .fz (.sl (.int .i64))], [.v .bool .z], []⟩
@[reducible] noncomputable def impl_Enough.fk : Nat → denI impl_Enough.g.pms → Option (denR (outTys impl_Enough.g.rts impl_Enough.g.pms)) := fun k x => impl_Enough.f k x.1 x.2.1 x.2.2.1
@[reducible] noncomputable def impl_Enough.sm (k : Nat) : Sm := ⟨27, impl_Enough.g.pms, impl_Enough.g.rts, impl_Enough.fk k⟩
noncomputable def impl_Enough.E (k : Nat) : Env := ⟨tys, [impl_NodesOk.sm k, impl_Holds.sm k, impl_both.sm k, impl_Rest.sm k], [], [], []⟩
noncomputable def impl_Enough.pts : List (Pt (denR (outTys impl_Enough.g.rts impl_Enough.g.pms))) := []
theorem impl_Enough.hf (k : Nat) (a0 : Config) (a1 : (List Int)) (a2 : (List Int)) : (impl_Enough.f k a0 a1 a2 : Option (denR (outTys impl_Enough.g.rts impl_Enough.g.pms))) = evC (impl_Enough.E k) (fun κ s => lhOf k κ s impl_Enough.pts) b27 (OM.start impl_Enough.g.pms 0 (a0, a1, a2, ())) (OM.fin impl_Enough.g Try.f27.results.toList) := by kernel_rfl
theorem impl_Enough.ok (k : Nat) : SmOk Try.prog (impl_Enough.sm k) :=
  sm_ok mixed (E := impl_Enough.E) (pts := impl_Enough.pts) (fun k => ⟨⟨tysOk, by kernel_rfl⟩, forall_cons ⟨impl_NodesOk.ok k, e64⟩ (forall_cons ⟨impl_Holds.ok k, e20⟩ (forall_cons ⟨impl_both.ok k, e87⟩ (forall_cons ⟨impl_Rest.ok k, e99⟩ (forall_nil))))⟩) (fun _ => rfl) (fun _ => rfl)
    ⟨Try.func27, by kernel_rfl, by kernel_rfl, by kernel_rfl, by kernel_rfl, by kernel_rfl, by kernel_rfl⟩ (forall_nil) (fun k x => impl_Enough.hf k x.1 x.2.1 x.2.2.1) k
noncomputable def b143 : Code := Try.f143.body.getD .skip
theorem e143 : OM.Entry Try.prog 143 := ⟨_, Try.func143, by kernel_rfl, by kernel_rfl⟩
@[reducible] noncomputable def impl_PlaceMake.g : Sig := ⟨[.fz (.int .i64), .fz (.int .i64)], [.v (.int .i64) .z, .v .bool .z], []⟩
@[reducible] noncomputable def impl_PlaceMake.fk : Nat → denI impl_PlaceMake.g.pms → Option (denR (outTys impl_PlaceMake.g.rts impl_PlaceMake.g.pms)) := fun k x => impl_PlaceMake.f x.1 x.2.1
@[reducible] noncomputable def impl_PlaceMake.sm (k : Nat) : Sm := ⟨143, impl_PlaceMake.g.pms, impl_PlaceMake.g.rts, impl_PlaceMake.fk k⟩
noncomputable def impl_PlaceMake.E (k : Nat) : Env := ⟨tys, [impl_isEpoch.sm k, impl_isOff.sm k], [], [], []⟩
noncomputable def impl_PlaceMake.pts : List (Pt (denR (outTys impl_PlaceMake.g.rts impl_PlaceMake.g.pms))) := []
theorem impl_PlaceMake.hf (k : Nat) (a0 : Int) (a1 : Int) : (impl_PlaceMake.f a0 a1 : Option (denR (outTys impl_PlaceMake.g.rts impl_PlaceMake.g.pms))) = evC (impl_PlaceMake.E k) (fun κ s => lhOf k κ s impl_PlaceMake.pts) b143 (OM.start impl_PlaceMake.g.pms 0 (a0, a1, ())) (OM.fin impl_PlaceMake.g Try.f143.results.toList) := by kernel_rfl
theorem impl_PlaceMake.ok (k : Nat) : SmOk Try.prog (impl_PlaceMake.sm k) :=
  sm_ok mixed (E := impl_PlaceMake.E) (pts := impl_PlaceMake.pts) (fun k => ⟨⟨tysOk, by kernel_rfl⟩, forall_cons ⟨impl_isEpoch.ok k, e66⟩ (forall_cons ⟨impl_isOff.ok k, e131⟩ (forall_nil))⟩) (fun _ => rfl) (fun _ => rfl)
    ⟨Try.func143, by kernel_rfl, by kernel_rfl, by kernel_rfl, by kernel_rfl, by kernel_rfl, by kernel_rfl⟩ (forall_nil) (fun k x => impl_PlaceMake.hf k x.1 x.2.1) k
noncomputable def b98 : Code := Try.f98.body.getD .skip
theorem e98 : OM.Entry Try.prog 98 := ⟨_, Try.func98, by kernel_rfl, by kernel_rfl⟩
@[reducible] noncomputable def impl_dataOk.g : Sig := ⟨[.fz .str], [.v .bool .z], []⟩
@[reducible] noncomputable def impl_dataOk.fk : Nat → denI impl_dataOk.g.pms → Option (denR (outTys impl_dataOk.g.rts impl_dataOk.g.pms)) := fun k x => impl_dataOk.f x.1
@[reducible] noncomputable def impl_dataOk.sm (k : Nat) : Sm := ⟨98, impl_dataOk.g.pms, impl_dataOk.g.rts, impl_dataOk.fk k⟩
noncomputable def impl_dataOk.E (k : Nat) : Env := ⟨tys, [], [], [], []⟩
noncomputable def impl_dataOk.pts : List (Pt (denR (outTys impl_dataOk.g.rts impl_dataOk.g.pms))) := []
theorem impl_dataOk.hf (k : Nat) (a0 : ByteArray) : (impl_dataOk.f a0 : Option (denR (outTys impl_dataOk.g.rts impl_dataOk.g.pms))) = evC (impl_dataOk.E k) (fun κ s => lhOf k κ s impl_dataOk.pts) b98 (OM.start impl_dataOk.g.pms 0 (a0, ())) (OM.fin impl_dataOk.g Try.f98.results.toList) := by kernel_rfl
theorem impl_dataOk.ok (k : Nat) : SmOk Try.prog (impl_dataOk.sm k) :=
  sm_ok mixed (E := impl_dataOk.E) (pts := impl_dataOk.pts) (fun k => ⟨⟨tysOk, by kernel_rfl⟩, forall_nil⟩) (fun _ => rfl) (fun _ => rfl)
    ⟨Try.func98, by kernel_rfl, by kernel_rfl, by kernel_rfl, by kernel_rfl, by kernel_rfl, by kernel_rfl⟩ (forall_nil) (fun k x => impl_dataOk.hf k x.1) k
noncomputable def b26 : Code := Try.f26.body.getD .skip
theorem e26 : OM.Entry Try.prog 26 := ⟨_, Try.func26, by kernel_rfl, by kernel_rfl⟩
@[reducible] noncomputable def impl_EntryOk.g : Sig := ⟨[.fz tEntry], [.v .bool .z], []⟩
@[reducible] noncomputable def impl_EntryOk.fk : Nat → denI impl_EntryOk.g.pms → Option (denR (outTys impl_EntryOk.g.rts impl_EntryOk.g.pms)) := fun k x => impl_EntryOk.f k x.1
@[reducible] noncomputable def impl_EntryOk.sm (k : Nat) : Sm := ⟨26, impl_EntryOk.g.pms, impl_EntryOk.g.rts, impl_EntryOk.fk k⟩
noncomputable def impl_EntryOk.E (k : Nat) : Env := ⟨tys, [impl_within.sm k, impl_PlaceOk.sm k, impl_EpochOf.sm k, impl_dataOk.sm k], [], [2, 3], []⟩
@[reducible] noncomputable def impl_EntryOk.s4 : List Slot := [.r 4 5 [] tEntry, .v 12 .bool .z [] 0, .v 5 tEntry .z [] 0]
@[reducible] noncomputable def impl_EntryOk.s6 : List Slot := [.r 4 5 [] tEntry, .v 12 .bool .z [] 0, .v 16 .bool .z [] 0, .v 5 tEntry .z [] 0]
noncomputable def impl_EntryOk.pts : List (Pt (denR (outTys impl_EntryOk.g.rts impl_EntryOk.g.pms))) := [⟨4, impl_EntryOk.s4, fun k x => impl_EntryOk.p4 k x.1 x.2.1⟩, ⟨6, impl_EntryOk.s6, fun k x => impl_EntryOk.p6 k x.1 x.2.1 x.2.2.1⟩]
theorem impl_EntryOk.h4 (k : Nat) (x0 : Bool) (x1 : Entry) : (impl_EntryOk.p4 (k + 1) x0 x1 : Option (denR (outTys impl_EntryOk.g.rts impl_EntryOk.g.pms))) = evAt (impl_EntryOk.E k) (fun κ s => lhOf k κ s impl_EntryOk.pts) 4 b26 (unproj impl_EntryOk.s4 (x0, x1, ())) (OM.fin impl_EntryOk.g Try.f26.results.toList) := by kernel_rfl
theorem impl_EntryOk.h6 (k : Nat) (x0 : Bool) (x1 : Bool) (x2 : Entry) : (impl_EntryOk.p6 (k + 1) x0 x1 x2 : Option (denR (outTys impl_EntryOk.g.rts impl_EntryOk.g.pms))) = evAt (impl_EntryOk.E k) (fun κ s => lhOf k κ s impl_EntryOk.pts) 6 b26 (unproj impl_EntryOk.s6 (x0, x1, x2, ())) (OM.fin impl_EntryOk.g Try.f26.results.toList) := by kernel_rfl
theorem impl_EntryOk.hf (k : Nat) (a0 : Entry) : (impl_EntryOk.f k a0 : Option (denR (outTys impl_EntryOk.g.rts impl_EntryOk.g.pms))) = evC (impl_EntryOk.E k) (fun κ s => lhOf k κ s impl_EntryOk.pts) b26 (OM.start impl_EntryOk.g.pms 0 (a0, ())) (OM.fin impl_EntryOk.g Try.f26.results.toList) := by kernel_rfl
theorem impl_EntryOk.ok (k : Nat) : SmOk Try.prog (impl_EntryOk.sm k) :=
  sm_ok mixed (E := impl_EntryOk.E) (pts := impl_EntryOk.pts) (fun k => ⟨⟨tysOk, by kernel_rfl⟩, forall_cons ⟨impl_within.ok k, e67⟩ (forall_cons ⟨impl_PlaceOk.ok k, e63⟩ (forall_cons ⟨impl_EpochOf.ok k, e12⟩ (forall_cons ⟨impl_dataOk.ok k, e98⟩ (forall_nil))))⟩) (fun _ => rfl) (fun _ => rfl)
    ⟨Try.func26, by kernel_rfl, by kernel_rfl, by kernel_rfl, by kernel_rfl, by kernel_rfl, by kernel_rfl⟩ (forall_cons (fun x => ⟨rfl, fun k => impl_EntryOk.h4 k x.1 x.2.1⟩) (forall_cons (fun x => ⟨rfl, fun k => impl_EntryOk.h6 k x.1 x.2.1 x.2.2.1⟩) (forall_nil))) (fun k x => impl_EntryOk.hf k x.1) k
noncomputable def b128 : Code := Try.f128.body.getD .skip
theorem e128 : OM.Entry Try.prog 128 := ⟨_, Try.func128, by kernel_rfl, by kernel_rfl⟩
@[reducible] noncomputable def impl_Better.g : Sig := ⟨[.fz tEntry, .fz tEntry], [.v tEntry .z], []⟩
@[reducible] noncomputable def impl_Better.fk : Nat → denI impl_Better.g.pms → Option (denR (outTys impl_Better.g.rts impl_Better.g.pms)) := fun k x => impl_Better.f x.1 x.2.1
@[reducible] noncomputable def impl_Better.sm (k : Nat) : Sm := ⟨128, impl_Better.g.pms, impl_Better.g.rts, impl_Better.fk k⟩
noncomputable def impl_Better.E (k : Nat) : Env := ⟨tys, [], [], [], []⟩
noncomputable def impl_Better.pts : List (Pt (denR (outTys impl_Better.g.rts impl_Better.g.pms))) := []
theorem impl_Better.hf (k : Nat) (a0 : Entry) (a1 : Entry) : (impl_Better.f a0 a1 : Option (denR (outTys impl_Better.g.rts impl_Better.g.pms))) = evC (impl_Better.E k) (fun κ s => lhOf k κ s impl_Better.pts) b128 (OM.start impl_Better.g.pms 0 (a0, a1, ())) (OM.fin impl_Better.g Try.f128.results.toList) := by kernel_rfl
theorem impl_Better.ok (k : Nat) : SmOk Try.prog (impl_Better.sm k) :=
  sm_ok mixed (E := impl_Better.E) (pts := impl_Better.pts) (fun k => ⟨⟨tysOk, by kernel_rfl⟩, forall_nil⟩) (fun _ => rfl) (fun _ => rfl)
    ⟨Try.func128, by kernel_rfl, by kernel_rfl, by kernel_rfl, by kernel_rfl, by kernel_rfl, by kernel_rfl⟩ (forall_nil) (fun k x => impl_Better.hf k x.1 x.2.1) k
noncomputable def b144 : Code := Try.f144.body.getD .skip
theorem e144 : OM.Entry Try.prog 144 := ⟨_, Try.func144, by kernel_rfl, by kernel_rfl⟩
@[reducible] noncomputable def impl_bestOf.g : Sig := ⟨[.fz (.sl tAnswer), .fz (.sl (.int .i64)), .fz (.int .i64)], [.v tEntry .z, .v .bool .z], []⟩
@[reducible] noncomputable def impl_bestOf.fk : Nat → denI impl_bestOf.g.pms → Option (denR (outTys impl_bestOf.g.rts impl_bestOf.g.pms)) := fun k x => impl_bestOf.f k x.1 x.2.1 x.2.2.1
@[reducible] noncomputable def impl_bestOf.sm (k : Nat) : Sm := ⟨144, impl_bestOf.g.pms, impl_bestOf.g.rts, impl_bestOf.fk k⟩
noncomputable def impl_bestOf.E (k : Nat) : Env := ⟨tys, [slices_Contains_int_int.sm k, impl_EntryOk.sm k, impl_Better.sm k], [18], [], []⟩
@[reducible] noncomputable def impl_bestOf.s7 : List Slot := [.v 4 (.sl (.int .i64)) .z [] 0, .v 8 (.int .i64) .z [] 0, .r 24 25 [] tEntry, .r 32 33 [] tEntry, .v 36 .bool .z [] 0, .v 52 (.sl tAnswer) .z [] 0, .v 56 (.int .i64) .z [] 0, .v 60 (.int .i64) .z [] 0, .v 25 tEntry .z [] 0, .v 33 tEntry .z [] 0]
noncomputable def impl_bestOf.pts : List (Pt (denR (outTys impl_bestOf.g.rts impl_bestOf.g.pms))) := [⟨7, impl_bestOf.s7, fun k x => impl_bestOf.p7 k x.1 x.2.1 x.2.2.1 x.2.2.2.1 x.2.2.2.2.1 x.2.2.2.2.2.1 x.2.2.2.2.2.2.1 x.2.2.2.2.2.2.2.1⟩]
theorem impl_bestOf.h7 (k : Nat) (x0 : (List Int)) (x1 : Int) (x2 : Bool) (x3 : (List Answer)) (x4 : Int) (x5 : Int) (x6 : Entry) (x7 : Entry) : (impl_bestOf.p7 (k + 1) x0 x1 x2 x3 x4 x5 x6 x7 : Option (denR (outTys impl_bestOf.g.rts impl_bestOf.g.pms))) = evAt (impl_bestOf.E k) (fun κ s => lhOf k κ s impl_bestOf.pts) 7 b144 (unproj impl_bestOf.s7 (x0, x1, x2, x3, x4, x5, x6, x7, ())) (OM.fin impl_bestOf.g Try.f144.results.toList) := by kernel_rfl
theorem impl_bestOf.hf (k : Nat) (a0 : (List Answer)) (a1 : (List Int)) (a2 : Int) : (impl_bestOf.f k a0 a1 a2 : Option (denR (outTys impl_bestOf.g.rts impl_bestOf.g.pms))) = evC (impl_bestOf.E k) (fun κ s => lhOf k κ s impl_bestOf.pts) b144 (OM.start impl_bestOf.g.pms 0 (a0, a1, a2, ())) (OM.fin impl_bestOf.g Try.f144.results.toList) := by kernel_rfl
theorem impl_bestOf.ok (k : Nat) : SmOk Try.prog (impl_bestOf.sm k) :=
  sm_ok mixed (E := impl_bestOf.E) (pts := impl_bestOf.pts) (fun k => ⟨⟨tysOk, by kernel_rfl⟩, forall_cons ⟨slices_Contains_int_int.ok k, e137⟩ (forall_cons ⟨impl_EntryOk.ok k, e26⟩ (forall_cons ⟨impl_Better.ok k, e128⟩ (forall_nil)))⟩) (fun _ => rfl) (fun _ => rfl)
    ⟨Try.func144, by kernel_rfl, by kernel_rfl, by kernel_rfl, by kernel_rfl, by kernel_rfl, by kernel_rfl⟩ (forall_cons (fun x => ⟨rfl, fun k => impl_bestOf.h7 k x.1 x.2.1 x.2.2.1 x.2.2.2.1 x.2.2.2.2.1 x.2.2.2.2.2.1 x.2.2.2.2.2.2.1 x.2.2.2.2.2.2.2.1⟩) (forall_nil)) (fun k x => impl_bestOf.hf k x.1 x.2.1 x.2.2.1) k
noncomputable def b88 : Code := Try.f88.body.getD .skip
theorem e88 : OM.Entry Try.prog 88 := ⟨_, Try.func88, by kernel_rfl, by kernel_rfl⟩
@[reducible] noncomputable def impl_Reader_found.g : Sig := ⟨[.ptr tReader (.two .z (.two .z (.two (.own .z) .z))) (.two .z (.two .z (.two (.own .z) .z))), .fz (.sl tAnswer), .fz (.sl (.int .i64))], [], []⟩
@[reducible] noncomputable def impl_Reader_found.fk : Nat → denI impl_Reader_found.g.pms → Option (denR (outTys impl_Reader_found.g.rts impl_Reader_found.g.pms)) := fun k x => impl_Reader_found.f k x.1 x.2.1 x.2.2.1
@[reducible] noncomputable def impl_Reader_found.sm (k : Nat) : Sm := ⟨88, impl_Reader_found.g.pms, impl_Reader_found.g.rts, impl_Reader_found.fk k⟩
noncomputable def impl_Reader_found.E (k : Nat) : Env := ⟨tys, [impl_Reader_tell.sm k, impl_PlaceMake.sm k, impl_bestOf.sm k], [30, 32, 39, 46], [], []⟩
noncomputable def impl_Reader_found.pts : List (Pt (denR (outTys impl_Reader_found.g.rts impl_Reader_found.g.pms))) := []
theorem impl_Reader_found.hf (k : Nat) (a0 : Reader) (a1 : (List Answer)) (a2 : (List Int)) : (impl_Reader_found.f k a0 a1 a2 : Option (denR (outTys impl_Reader_found.g.rts impl_Reader_found.g.pms))) = evC (impl_Reader_found.E k) (fun κ s => lhOf k κ s impl_Reader_found.pts) b88 (OM.start impl_Reader_found.g.pms 0 (a0, a1, a2, ())) (OM.fin impl_Reader_found.g Try.f88.results.toList) := by kernel_rfl
theorem impl_Reader_found.ok (k : Nat) : SmOk Try.prog (impl_Reader_found.sm k) :=
  sm_ok mixed (E := impl_Reader_found.E) (pts := impl_Reader_found.pts) (fun k => ⟨⟨tysOk, by kernel_rfl⟩, forall_cons ⟨impl_Reader_tell.ok k, e86⟩ (forall_cons ⟨impl_PlaceMake.ok k, e143⟩ (forall_cons ⟨impl_bestOf.ok k, e144⟩ (forall_nil)))⟩) (fun _ => rfl) (fun _ => rfl)
    ⟨Try.func88, by kernel_rfl, by kernel_rfl, by kernel_rfl, by kernel_rfl, by kernel_rfl, by kernel_rfl⟩ (forall_nil) (fun k x => impl_Reader_found.hf k x.1 x.2.1 x.2.2.1) k
noncomputable def b23 : Code := Try.f23.body.getD .skip
theorem e23 : OM.Entry Try.prog 23 := ⟨_, Try.func23, by kernel_rfl, by kernel_rfl⟩
@[reducible] noncomputable def impl_ReaderNext.g : Sig := ⟨[.fz tConfig, .fz tRegister, .fz (.int .i64), .fz tReader, .fz (.sl tAnswer)], [.v tReader (.two .z (.two .z (.two (.own .z) .z))), .v (.int .i64) .z], []⟩
@[reducible] noncomputable def impl_ReaderNext.fk : Nat → denI impl_ReaderNext.g.pms → Option (denR (outTys impl_ReaderNext.g.rts impl_ReaderNext.g.pms)) := fun k x => impl_ReaderNext.f k x.1 x.2.1 x.2.2.1 x.2.2.2.1 x.2.2.2.2.1
@[reducible] noncomputable def impl_ReaderNext.sm (k : Nat) : Sm := ⟨23, impl_ReaderNext.g.pms, impl_ReaderNext.g.rts, impl_ReaderNext.fk k⟩
noncomputable def impl_ReaderNext.E (k : Nat) : Env := ⟨tys, [impl_NodesOk.sm k, impl_EpochOf.sm k, impl_RegOk.sm k, impl_ReaderOk.sm k, impl_nodesOf.sm k, impl_copyReader.sm k, impl_OffOf.sm k, impl_isAhead.sm k, impl_both.sm k, impl_Reader_tell.sm k, impl_Enough.sm k, impl_Reader_found.sm k], [77], [10], []⟩
@[reducible] noncomputable def impl_ReaderNext.s20 : List Slot := [.v 8 (.int .i64) .z [] 0, .v 16 (.sl tAnswer) .z [] 0, .r 20 21 [] tConfig, .r 24 25 [] tRegister, .r 32 33 [] tReader, .r 40 41 [] tReader, .r 48 49 [] tReader, .v 21 tConfig .z [] 0, .v 25 tRegister .z [] 0, .v 33 tReader .z [] 0, .v 41 tReader (.two .z (.two .z (.two (.own .a) .z))) [] 0, .v 49 tReader (.two .z (.two .z (.two (.own .z) .z))) [] 0]
noncomputable def impl_ReaderNext.pts : List (Pt (denR (outTys impl_ReaderNext.g.rts impl_ReaderNext.g.pms))) := [⟨20, impl_ReaderNext.s20, fun k x => impl_ReaderNext.p20 k x.1 x.2.1 x.2.2.1 x.2.2.2.1 x.2.2.2.2.1 x.2.2.2.2.2.1 x.2.2.2.2.2.2.1⟩]
theorem impl_ReaderNext.h20 (k : Nat) (x0 : Int) (x1 : (List Answer)) (x2 : Config) (x3 : Register) (x4 : Reader) (x5 : Reader) (x6 : Reader) : (impl_ReaderNext.p20 (k + 1) x0 x1 x2 x3 x4 x5 x6 : Option (denR (outTys impl_ReaderNext.g.rts impl_ReaderNext.g.pms))) = evAt (impl_ReaderNext.E k) (fun κ s => lhOf k κ s impl_ReaderNext.pts) 20 b23 (unproj impl_ReaderNext.s20 (x0, x1, x2, x3, x4, x5, x6, ())) (OM.fin impl_ReaderNext.g Try.f23.results.toList) := by kernel_rfl
theorem impl_ReaderNext.hf (k : Nat) (a0 : Config) (a1 : Register) (a2 : Int) (a3 : Reader) (a4 : (List Answer)) : (impl_ReaderNext.f k a0 a1 a2 a3 a4 : Option (denR (outTys impl_ReaderNext.g.rts impl_ReaderNext.g.pms))) = evC (impl_ReaderNext.E k) (fun κ s => lhOf k κ s impl_ReaderNext.pts) b23 (OM.start impl_ReaderNext.g.pms 0 (a0, a1, a2, a3, a4, ())) (OM.fin impl_ReaderNext.g Try.f23.results.toList) := by kernel_rfl
theorem impl_ReaderNext.ok (k : Nat) : SmOk Try.prog (impl_ReaderNext.sm k) :=
  sm_ok mixed (E := impl_ReaderNext.E) (pts := impl_ReaderNext.pts) (fun k => ⟨⟨tysOk, by kernel_rfl⟩, forall_cons ⟨impl_NodesOk.ok k, e64⟩ (forall_cons ⟨impl_EpochOf.ok k, e12⟩ (forall_cons ⟨impl_RegOk.ok k, e82⟩ (forall_cons ⟨impl_ReaderOk.ok k, e30⟩ (forall_cons ⟨impl_nodesOf.ok k, e83⟩ (forall_cons ⟨impl_copyReader.ok k, e84⟩ (forall_cons ⟨impl_OffOf.ok k, e28⟩ (forall_cons ⟨impl_isAhead.ok k, e85⟩ (forall_cons ⟨impl_both.ok k, e87⟩ (forall_cons ⟨impl_Reader_tell.ok k, e86⟩ (forall_cons ⟨impl_Enough.ok k, e27⟩ (forall_cons ⟨impl_Reader_found.ok k, e88⟩ (forall_nil))))))))))))⟩) (fun _ => rfl) (fun _ => rfl)
    ⟨Try.func23, by kernel_rfl, by kernel_rfl, by kernel_rfl, by kernel_rfl, by kernel_rfl, by kernel_rfl⟩ (forall_cons (fun x => ⟨rfl, fun k => impl_ReaderNext.h20 k x.1 x.2.1 x.2.2.1 x.2.2.2.1 x.2.2.2.2.1 x.2.2.2.2.2.1 x.2.2.2.2.2.2.1⟩) (forall_nil)) (fun k x => impl_ReaderNext.hf k x.1 x.2.1 x.2.2.1 x.2.2.2.1 x.2.2.2.2.1) k
noncomputable def b89 : Code := Try.f89.body.getD .skip
theorem e89 : OM.Entry Try.prog 89 := ⟨_, Try.func89, by kernel_rfl, by kernel_rfl⟩
@[reducible] noncomputable def spec_l10Nodes.g : Sig := ⟨[.fz tConfig, .fz (.sl tAnswer)], [.v (.sl (.int .i64)) (.own .z), .v .bool .z], []⟩
@[reducible] noncomputable def spec_l10Nodes.fk : Nat → denI spec_l10Nodes.g.pms → Option (denR (outTys spec_l10Nodes.g.rts spec_l10Nodes.g.pms)) := fun k x => spec_l10Nodes.f k x.1 x.2.1
@[reducible] noncomputable def spec_l10Nodes.sm (k : Nat) : Sm := ⟨89, spec_l10Nodes.g.pms, spec_l10Nodes.g.rts, spec_l10Nodes.fk k⟩
noncomputable def spec_l10Nodes.E (k : Nat) : Env := ⟨tys, [spec_NodesOk.sm k], [20], [], []⟩
@[reducible] noncomputable def spec_l10Nodes.s7 : List Slot := [.v 4 (.sl tAnswer) .z [] 0, .r 8 9 [] tConfig, .v 24 (.sl (.int .i64)) (.own .z) [] 0, .v 28 (.int .i64) .z [] 0, .v 9 tConfig .z [] 0]
noncomputable def spec_l10Nodes.pts : List (Pt (denR (outTys spec_l10Nodes.g.rts spec_l10Nodes.g.pms))) := [⟨7, spec_l10Nodes.s7, fun k x => spec_l10Nodes.p7 k x.1 x.2.1 x.2.2.1 x.2.2.2.1⟩]
theorem spec_l10Nodes.h7 (k : Nat) (x0 : (List Answer)) (x1 : (List Int)) (x2 : Int) (x3 : Config) : (spec_l10Nodes.p7 (k + 1) x0 x1 x2 x3 : Option (denR (outTys spec_l10Nodes.g.rts spec_l10Nodes.g.pms))) = evAt (spec_l10Nodes.E k) (fun κ s => lhOf k κ s spec_l10Nodes.pts) 7 b89 (unproj spec_l10Nodes.s7 (x0, x1, x2, x3, ())) (OM.fin spec_l10Nodes.g Try.f89.results.toList) := by kernel_rfl
theorem spec_l10Nodes.hf (k : Nat) (a0 : Config) (a1 : (List Answer)) : (spec_l10Nodes.f k a0 a1 : Option (denR (outTys spec_l10Nodes.g.rts spec_l10Nodes.g.pms))) = evC (spec_l10Nodes.E k) (fun κ s => lhOf k κ s spec_l10Nodes.pts) b89 (OM.start spec_l10Nodes.g.pms 0 (a0, a1, ())) (OM.fin spec_l10Nodes.g Try.f89.results.toList) := by kernel_rfl
theorem spec_l10Nodes.ok (k : Nat) : SmOk Try.prog (spec_l10Nodes.sm k) :=
  sm_ok mixed (E := spec_l10Nodes.E) (pts := spec_l10Nodes.pts) (fun k => ⟨⟨tysOk, by kernel_rfl⟩, forall_cons ⟨spec_NodesOk.ok k, e72⟩ (forall_nil)⟩) (fun _ => rfl) (fun _ => rfl)
    ⟨Try.func89, by kernel_rfl, by kernel_rfl, by kernel_rfl, by kernel_rfl, by kernel_rfl, by kernel_rfl⟩ (forall_cons (fun x => ⟨rfl, fun k => spec_l10Nodes.h7 k x.1 x.2.1 x.2.2.1 x.2.2.2.1⟩) (forall_nil)) (fun k x => spec_l10Nodes.hf k x.1 x.2.1) k
noncomputable def b91 : Code := Try.f91.body.getD .skip
theorem e91 : OM.Entry Try.prog 91 := ⟨_, Try.func91, by kernel_rfl, by kernel_rfl⟩
@[reducible] noncomputable def spec_ReaderOk.g : Sig := ⟨[.fz tReader], [.v .bool .z], []⟩
@[reducible] noncomputable def spec_ReaderOk.fk : Nat → denI spec_ReaderOk.g.pms → Option (denR (outTys spec_ReaderOk.g.rts spec_ReaderOk.g.pms)) := fun k x => spec_ReaderOk.f x.1
@[reducible] noncomputable def spec_ReaderOk.sm (k : Nat) : Sm := ⟨91, spec_ReaderOk.g.pms, spec_ReaderOk.g.rts, spec_ReaderOk.fk k⟩
noncomputable def spec_ReaderOk.E (k : Nat) : Env := ⟨tys, [spec_l1In.sm k], [], [], []⟩
noncomputable def spec_ReaderOk.pts : List (Pt (denR (outTys spec_ReaderOk.g.rts spec_ReaderOk.g.pms))) := []
theorem spec_ReaderOk.hf (k : Nat) (a0 : Reader) : (spec_ReaderOk.f a0 : Option (denR (outTys spec_ReaderOk.g.rts spec_ReaderOk.g.pms))) = evC (spec_ReaderOk.E k) (fun κ s => lhOf k κ s spec_ReaderOk.pts) b91 (OM.start spec_ReaderOk.g.pms 0 (a0, ())) (OM.fin spec_ReaderOk.g Try.f91.results.toList) := by kernel_rfl
theorem spec_ReaderOk.ok (k : Nat) : SmOk Try.prog (spec_ReaderOk.sm k) :=
  sm_ok mixed (E := spec_ReaderOk.E) (pts := spec_ReaderOk.pts) (fun k => ⟨⟨tysOk, by kernel_rfl⟩, forall_cons ⟨spec_l1In.ok k, e71⟩ (forall_nil)⟩) (fun _ => rfl) (fun _ => rfl)
    ⟨Try.func91, by kernel_rfl, by kernel_rfl, by kernel_rfl, by kernel_rfl, by kernel_rfl, by kernel_rfl⟩ (forall_nil) (fun k x => spec_ReaderOk.hf k x.1) k
noncomputable def b92 : Code := Try.f92.body.getD .skip
theorem e92 : OM.Entry Try.prog 92 := ⟨_, Try.func92, by kernel_rfl, by kernel_rfl⟩
@[reducible] noncomputable def spec_l10Copy.g : Sig := ⟨[.fz tReader], [.v tReader (.two .z (.two .z (.two (.own .z) .z)))], []⟩
@[reducible] noncomputable def spec_l10Copy.fk : Nat → denI spec_l10Copy.g.pms → Option (denR (outTys spec_l10Copy.g.rts spec_l10Copy.g.pms)) := fun k x => spec_l10Copy.f x.1
@[reducible] noncomputable def spec_l10Copy.sm (k : Nat) : Sm := ⟨92, spec_l10Copy.g.pms, spec_l10Copy.g.rts, spec_l10Copy.fk k⟩
noncomputable def spec_l10Copy.E (k : Nat) : Env := ⟨tys, [], [], [], []⟩
noncomputable def spec_l10Copy.pts : List (Pt (denR (outTys spec_l10Copy.g.rts spec_l10Copy.g.pms))) := []
theorem spec_l10Copy.hf (k : Nat) (a0 : Reader) : (spec_l10Copy.f a0 : Option (denR (outTys spec_l10Copy.g.rts spec_l10Copy.g.pms))) = evC (spec_l10Copy.E k) (fun κ s => lhOf k κ s spec_l10Copy.pts) b92 (OM.start spec_l10Copy.g.pms 0 (a0, ())) (OM.fin spec_l10Copy.g Try.f92.results.toList) := by kernel_rfl
theorem spec_l10Copy.ok (k : Nat) : SmOk Try.prog (spec_l10Copy.sm k) :=
  sm_ok mixed (E := spec_l10Copy.E) (pts := spec_l10Copy.pts) (fun k => ⟨⟨tysOk, by kernel_rfl⟩, forall_nil⟩) (fun _ => rfl) (fun _ => rfl)
    ⟨Try.func92, by kernel_rfl, by kernel_rfl, by kernel_rfl, by kernel_rfl, by kernel_rfl, by kernel_rfl⟩ (forall_nil) (fun k x => spec_l10Copy.hf k x.1) k
noncomputable def b54 : Code := Try.f54.body.getD .skip
theorem e54 : OM.Entry Try.prog 54 := ⟨_, Try.func54, by kernel_rfl, by kernel_rfl⟩
@[reducible] noncomputable def spec_OffOf.g : Sig := ⟨[.fz (.int .i64)], [.v (.int .i64) .z], []⟩
@[reducible] noncomputable def spec_OffOf.fk : Nat → denI spec_OffOf.g.pms → Option (denR (outTys spec_OffOf.g.rts spec_OffOf.g.pms)) := fun k x => spec_OffOf.f x.1
@[reducible] noncomputable def spec_OffOf.sm (k : Nat) : Sm := ⟨54, spec_OffOf.g.pms, spec_OffOf.g.rts, spec_OffOf.fk k⟩
noncomputable def spec_OffOf.E (k : Nat) : Env := ⟨tys, [spec_PlaceOk.sm k], [], [], []⟩
noncomputable def spec_OffOf.pts : List (Pt (denR (outTys spec_OffOf.g.rts spec_OffOf.g.pms))) := []
theorem spec_OffOf.hf (k : Nat) (a0 : Int) : (spec_OffOf.f a0 : Option (denR (outTys spec_OffOf.g.rts spec_OffOf.g.pms))) = evC (spec_OffOf.E k) (fun κ s => lhOf k κ s spec_OffOf.pts) b54 (OM.start spec_OffOf.g.pms 0 (a0, ())) (OM.fin spec_OffOf.g Try.f54.results.toList) := by kernel_rfl
theorem spec_OffOf.ok (k : Nat) : SmOk Try.prog (spec_OffOf.sm k) :=
  sm_ok mixed (E := spec_OffOf.E) (pts := spec_OffOf.pts) (fun k => ⟨⟨tysOk, by kernel_rfl⟩, forall_cons ⟨spec_PlaceOk.ok k, e52⟩ (forall_nil)⟩) (fun _ => rfl) (fun _ => rfl)
    ⟨Try.func54, by kernel_rfl, by kernel_rfl, by kernel_rfl, by kernel_rfl, by kernel_rfl, by kernel_rfl⟩ (forall_nil) (fun k x => spec_OffOf.hf k x.1) k
noncomputable def b93 : Code := Try.f93.body.getD .skip
theorem e93 : OM.Entry Try.prog 93 := ⟨_, Try.func93, by kernel_rfl, by kernel_rfl⟩
@[reducible] noncomputable def spec_l10Tell.g : Sig := ⟨[.fz tReader, .fz tEvent, .fz (.int .i64), .fz (.int .i64)], [.v tReader (.two .z (.two .z (.two (.own .z) .z)))], []⟩
@[reducible] noncomputable def spec_l10Tell.fk : Nat → denI spec_l10Tell.g.pms → Option (denR (outTys spec_l10Tell.g.rts spec_l10Tell.g.pms)) := fun k x => spec_l10Tell.f x.1 x.2.1 x.2.2.1 x.2.2.2.1
@[reducible] noncomputable def spec_l10Tell.sm (k : Nat) : Sm := ⟨93, spec_l10Tell.g.pms, spec_l10Tell.g.rts, spec_l10Tell.fk k⟩
noncomputable def spec_l10Tell.E (k : Nat) : Env := ⟨tys, [spec_l10Copy.sm k], [14, 18, 20], [], []⟩
noncomputable def spec_l10Tell.pts : List (Pt (denR (outTys spec_l10Tell.g.rts spec_l10Tell.g.pms))) := []
theorem spec_l10Tell.hf (k : Nat) (a0 : Reader) (a1 : Event) (a2 : Int) (a3 : Int) : (spec_l10Tell.f a0 a1 a2 a3 : Option (denR (outTys spec_l10Tell.g.rts spec_l10Tell.g.pms))) = evC (spec_l10Tell.E k) (fun κ s => lhOf k κ s spec_l10Tell.pts) b93 (OM.start spec_l10Tell.g.pms 0 (a0, a1, a2, a3, ())) (OM.fin spec_l10Tell.g Try.f93.results.toList) := by kernel_rfl
theorem spec_l10Tell.ok (k : Nat) : SmOk Try.prog (spec_l10Tell.sm k) :=
  sm_ok mixed (E := spec_l10Tell.E) (pts := spec_l10Tell.pts) (fun k => ⟨⟨tysOk, by kernel_rfl⟩, forall_cons ⟨spec_l10Copy.ok k, e92⟩ (forall_nil)⟩) (fun _ => rfl) (fun _ => rfl)
    ⟨Try.func93, by kernel_rfl, by kernel_rfl, by kernel_rfl, by kernel_rfl, by kernel_rfl, by kernel_rfl⟩ (forall_nil) (fun k x => spec_l10Tell.hf k x.1 x.2.1 x.2.2.1 x.2.2.2.1) k
noncomputable def b146 : Code := Try.f146.body.getD .skip
theorem e146 : OM.Entry Try.prog 146 := ⟨_, Try.func146, by kernel_rfl, by kernel_rfl⟩
@[reducible] noncomputable def spec_l4Less.g : Sig := ⟨[.fz (.sl (.int .i64)), .fz (.sl (.int .i64))], [.v (.sl (.int .i64)) (.own .z)], []⟩
@[reducible] noncomputable def spec_l4Less.fk : Nat → denI spec_l4Less.g.pms → Option (denR (outTys spec_l4Less.g.rts spec_l4Less.g.pms)) := fun k x => spec_l4Less.f k x.1 x.2.1
@[reducible] noncomputable def spec_l4Less.sm (k : Nat) : Sm := ⟨146, spec_l4Less.g.pms, spec_l4Less.g.rts, spec_l4Less.fk k⟩
noncomputable def spec_l4Less.E (k : Nat) : Env := ⟨tys, [spec_l4Has.sm k], [25], [], []⟩
@[reducible] noncomputable def spec_l4Less.s7 : List Slot := [.v 0 (.sl (.int .i64)) .z [] 0, .v 4 (.sl (.int .i64)) .z [] 0, .v 20 (.sl (.int .i64)) (.own .z) [] 0, .v 24 (.int .i64) .z [] 0]
noncomputable def spec_l4Less.pts : List (Pt (denR (outTys spec_l4Less.g.rts spec_l4Less.g.pms))) := [⟨7, spec_l4Less.s7, fun k x => spec_l4Less.p7 k x.1 x.2.1 x.2.2.1 x.2.2.2.1⟩]
theorem spec_l4Less.h7 (k : Nat) (x0 : (List Int)) (x1 : (List Int)) (x2 : (List Int)) (x3 : Int) : (spec_l4Less.p7 (k + 1) x0 x1 x2 x3 : Option (denR (outTys spec_l4Less.g.rts spec_l4Less.g.pms))) = evAt (spec_l4Less.E k) (fun κ s => lhOf k κ s spec_l4Less.pts) 7 b146 (unproj spec_l4Less.s7 (x0, x1, x2, x3, ())) (OM.fin spec_l4Less.g Try.f146.results.toList) := by kernel_rfl
theorem spec_l4Less.hf (k : Nat) (a0 : (List Int)) (a1 : (List Int)) : (spec_l4Less.f k a0 a1 : Option (denR (outTys spec_l4Less.g.rts spec_l4Less.g.pms))) = evC (spec_l4Less.E k) (fun κ s => lhOf k κ s spec_l4Less.pts) b146 (OM.start spec_l4Less.g.pms 0 (a0, a1, ())) (OM.fin spec_l4Less.g Try.f146.results.toList) := by kernel_rfl
theorem spec_l4Less.ok (k : Nat) : SmOk Try.prog (spec_l4Less.sm k) :=
  sm_ok mixed (E := spec_l4Less.E) (pts := spec_l4Less.pts) (fun k => ⟨⟨tysOk, by kernel_rfl⟩, forall_cons ⟨spec_l4Has.ok k, e129⟩ (forall_nil)⟩) (fun _ => rfl) (fun _ => rfl)
    ⟨Try.func146, by kernel_rfl, by kernel_rfl, by kernel_rfl, by kernel_rfl, by kernel_rfl, by kernel_rfl⟩ (forall_cons (fun x => ⟨rfl, fun k => spec_l4Less.h7 k x.1 x.2.1 x.2.2.1 x.2.2.2.1⟩) (forall_nil)) (fun k x => spec_l4Less.hf k x.1 x.2.1) k
noncomputable def b95 : Code := Try.f95.body.getD .skip
theorem e95 : OM.Entry Try.prog 95 := ⟨_, Try.func95, by kernel_rfl, by kernel_rfl⟩
@[reducible] noncomputable def spec_l9Both.g : Sig := ⟨[.fz (.sl (.int .i64)), .fz (.sl (.int .i64))], [.v (.sl (.int .i64)) (.own .z)], []⟩
@[reducible] noncomputable def spec_l9Both.fk : Nat → denI spec_l9Both.g.pms → Option (denR (outTys spec_l9Both.g.rts spec_l9Both.g.pms)) := fun k x => spec_l9Both.f k x.1 x.2.1
@[reducible] noncomputable def spec_l9Both.sm (k : Nat) : Sm := ⟨95, spec_l9Both.g.pms, spec_l9Both.g.rts, spec_l9Both.fk k⟩
noncomputable def spec_l9Both.E (k : Nat) : Env := ⟨tys, [spec_l4Less.sm k], [], [], []⟩
noncomputable def spec_l9Both.pts : List (Pt (denR (outTys spec_l9Both.g.rts spec_l9Both.g.pms))) := []
theorem spec_l9Both.hf (k : Nat) (a0 : (List Int)) (a1 : (List Int)) : (spec_l9Both.f k a0 a1 : Option (denR (outTys spec_l9Both.g.rts spec_l9Both.g.pms))) = evC (spec_l9Both.E k) (fun κ s => lhOf k κ s spec_l9Both.pts) b95 (OM.start spec_l9Both.g.pms 0 (a0, a1, ())) (OM.fin spec_l9Both.g Try.f95.results.toList) := by kernel_rfl
theorem spec_l9Both.ok (k : Nat) : SmOk Try.prog (spec_l9Both.sm k) :=
  sm_ok mixed (E := spec_l9Both.E) (pts := spec_l9Both.pts) (fun k => ⟨⟨tysOk, by kernel_rfl⟩, forall_cons ⟨spec_l4Less.ok k, e146⟩ (forall_nil)⟩) (fun _ => rfl) (fun _ => rfl)
    ⟨Try.func95, by kernel_rfl, by kernel_rfl, by kernel_rfl, by kernel_rfl, by kernel_rfl, by kernel_rfl⟩ (forall_nil) (fun k x => spec_l9Both.hf k x.1 x.2.1) k
noncomputable def b94 : Code := Try.f94.body.getD .skip
theorem e94 : OM.Entry Try.prog 94 := ⟨_, Try.func94, by kernel_rfl, by kernel_rfl⟩
@[reducible] noncomputable def spec_Enough.g : Sig := ⟨[.fz tConfig, .fz (.sl (.int .i64)), .fz (.sl (.int .i64))], [.v .bool .z], []⟩
@[reducible] noncomputable def spec_Enough.fk : Nat → denI spec_Enough.g.pms → Option (denR (outTys spec_Enough.g.rts spec_Enough.g.pms)) := fun k x => spec_Enough.f k x.1 x.2.1 x.2.2.1
@[reducible] noncomputable def spec_Enough.sm (k : Nat) : Sm := ⟨94, spec_Enough.g.pms, spec_Enough.g.rts, spec_Enough.fk k⟩
noncomputable def spec_Enough.E (k : Nat) : Env := ⟨tys, [spec_NodesOk.sm k, spec_l4Span.sm k, spec_Holds.sm k, spec_l4Less.sm k], [], [], []⟩
noncomputable def spec_Enough.pts : List (Pt (denR (outTys spec_Enough.g.rts spec_Enough.g.pms))) := []
theorem spec_Enough.hf (k : Nat) (a0 : Config) (a1 : (List Int)) (a2 : (List Int)) : (spec_Enough.f k a0 a1 a2 : Option (denR (outTys spec_Enough.g.rts spec_Enough.g.pms))) = evC (spec_Enough.E k) (fun κ s => lhOf k κ s spec_Enough.pts) b94 (OM.start spec_Enough.g.pms 0 (a0, a1, a2, ())) (OM.fin spec_Enough.g Try.f94.results.toList) := by kernel_rfl
theorem spec_Enough.ok (k : Nat) : SmOk Try.prog (spec_Enough.sm k) :=
  sm_ok mixed (E := spec_Enough.E) (pts := spec_Enough.pts) (fun k => ⟨⟨tysOk, by kernel_rfl⟩, forall_cons ⟨spec_NodesOk.ok k, e72⟩ (forall_cons ⟨spec_l4Span.ok k, e147⟩ (forall_cons ⟨spec_Holds.ok k, e145⟩ (forall_cons ⟨spec_l4Less.ok k, e146⟩ (forall_nil))))⟩) (fun _ => rfl) (fun _ => rfl)
    ⟨Try.func94, by kernel_rfl, by kernel_rfl, by kernel_rfl, by kernel_rfl, by kernel_rfl, by kernel_rfl⟩ (forall_nil) (fun k x => spec_Enough.hf k x.1 x.2.1 x.2.2.1) k
noncomputable def b74 : Code := Try.f74.body.getD .skip
theorem e74 : OM.Entry Try.prog 74 := ⟨_, Try.func74, by kernel_rfl, by kernel_rfl⟩
@[reducible] noncomputable def spec_EntryOk.g : Sig := ⟨[.fz tEntry], [.v .bool .z], []⟩
@[reducible] noncomputable def spec_EntryOk.fk : Nat → denI spec_EntryOk.g.pms → Option (denR (outTys spec_EntryOk.g.rts spec_EntryOk.g.pms)) := fun k x => spec_EntryOk.f k x.1
@[reducible] noncomputable def spec_EntryOk.sm (k : Nat) : Sm := ⟨74, spec_EntryOk.g.pms, spec_EntryOk.g.rts, spec_EntryOk.fk k⟩
noncomputable def spec_EntryOk.E (k : Nat) : Env := ⟨tys, [spec_l1In.sm k, spec_PlaceOk.sm k, spec_EpochOf.sm k], [], [3], []⟩
@[reducible] noncomputable def spec_EntryOk.s6 : List Slot := [.r 4 5 [] tEntry, .v 5 tEntry .z [] 0]
noncomputable def spec_EntryOk.pts : List (Pt (denR (outTys spec_EntryOk.g.rts spec_EntryOk.g.pms))) := [⟨6, spec_EntryOk.s6, fun k x => spec_EntryOk.p6 k x.1⟩]
theorem spec_EntryOk.h6 (k : Nat) (x0 : Entry) : (spec_EntryOk.p6 (k + 1) x0 : Option (denR (outTys spec_EntryOk.g.rts spec_EntryOk.g.pms))) = evAt (spec_EntryOk.E k) (fun κ s => lhOf k κ s spec_EntryOk.pts) 6 b74 (unproj spec_EntryOk.s6 (x0, ())) (OM.fin spec_EntryOk.g Try.f74.results.toList) := by kernel_rfl
theorem spec_EntryOk.hf (k : Nat) (a0 : Entry) : (spec_EntryOk.f k a0 : Option (denR (outTys spec_EntryOk.g.rts spec_EntryOk.g.pms))) = evC (spec_EntryOk.E k) (fun κ s => lhOf k κ s spec_EntryOk.pts) b74 (OM.start spec_EntryOk.g.pms 0 (a0, ())) (OM.fin spec_EntryOk.g Try.f74.results.toList) := by kernel_rfl
theorem spec_EntryOk.ok (k : Nat) : SmOk Try.prog (spec_EntryOk.sm k) :=
  sm_ok mixed (E := spec_EntryOk.E) (pts := spec_EntryOk.pts) (fun k => ⟨⟨tysOk, by kernel_rfl⟩, forall_cons ⟨spec_l1In.ok k, e71⟩ (forall_cons ⟨spec_PlaceOk.ok k, e52⟩ (forall_cons ⟨spec_EpochOf.ok k, e61⟩ (forall_nil)))⟩) (fun _ => rfl) (fun _ => rfl)
    ⟨Try.func74, by kernel_rfl, by kernel_rfl, by kernel_rfl, by kernel_rfl, by kernel_rfl, by kernel_rfl⟩ (forall_cons (fun x => ⟨rfl, fun k => spec_EntryOk.h6 k x.1⟩) (forall_nil)) (fun k x => spec_EntryOk.hf k x.1) k
noncomputable def b130 : Code := Try.f130.body.getD .skip
theorem e130 : OM.Entry Try.prog 130 := ⟨_, Try.func130, by kernel_rfl, by kernel_rfl⟩
@[reducible] noncomputable def spec_Better.g : Sig := ⟨[.fz tEntry, .fz tEntry], [.v tEntry .z], []⟩
@[reducible] noncomputable def spec_Better.fk : Nat → denI spec_Better.g.pms → Option (denR (outTys spec_Better.g.rts spec_Better.g.pms)) := fun k x => spec_Better.f x.1 x.2.1
@[reducible] noncomputable def spec_Better.sm (k : Nat) : Sm := ⟨130, spec_Better.g.pms, spec_Better.g.rts, spec_Better.fk k⟩
noncomputable def spec_Better.E (k : Nat) : Env := ⟨tys, [], [], [], []⟩
noncomputable def spec_Better.pts : List (Pt (denR (outTys spec_Better.g.rts spec_Better.g.pms))) := []
theorem spec_Better.hf (k : Nat) (a0 : Entry) (a1 : Entry) : (spec_Better.f a0 a1 : Option (denR (outTys spec_Better.g.rts spec_Better.g.pms))) = evC (spec_Better.E k) (fun κ s => lhOf k κ s spec_Better.pts) b130 (OM.start spec_Better.g.pms 0 (a0, a1, ())) (OM.fin spec_Better.g Try.f130.results.toList) := by kernel_rfl
theorem spec_Better.ok (k : Nat) : SmOk Try.prog (spec_Better.sm k) :=
  sm_ok mixed (E := spec_Better.E) (pts := spec_Better.pts) (fun k => ⟨⟨tysOk, by kernel_rfl⟩, forall_nil⟩) (fun _ => rfl) (fun _ => rfl)
    ⟨Try.func130, by kernel_rfl, by kernel_rfl, by kernel_rfl, by kernel_rfl, by kernel_rfl, by kernel_rfl⟩ (forall_nil) (fun k x => spec_Better.hf k x.1 x.2.1) k
noncomputable def b96 : Code := Try.f96.body.getD .skip
theorem e96 : OM.Entry Try.prog 96 := ⟨_, Try.func96, by kernel_rfl, by kernel_rfl⟩
@[reducible] noncomputable def spec_l10Best.g : Sig := ⟨[.fz (.sl (.int .i64)), .fz (.int .i64), .fz (.sl tAnswer)], [.v tEvent .z], []⟩
@[reducible] noncomputable def spec_l10Best.fk : Nat → denI spec_l10Best.g.pms → Option (denR (outTys spec_l10Best.g.rts spec_l10Best.g.pms)) := fun k x => spec_l10Best.f k x.1 x.2.1 x.2.2.1
@[reducible] noncomputable def spec_l10Best.sm (k : Nat) : Sm := ⟨96, spec_l10Best.g.pms, spec_l10Best.g.rts, spec_l10Best.fk k⟩
noncomputable def spec_l10Best.E (k : Nat) : Env := ⟨tys, [spec_l4Has.sm k, spec_EntryOk.sm k, spec_Better.sm k], [21, 56, 61, 63, 65], [], []⟩
@[reducible] noncomputable def spec_l10Best.s9 : List Slot := [.v 0 (.sl (.int .i64)) .z [] 0, .v 4 (.int .i64) .z [] 0, .v 8 (.sl tAnswer) .z [] 0, .r 24 25 [] tEvent, .r 28 29 [] tEntry, .v 32 .bool .z [] 0, .v 36 (.int .i64) .z [] 0, .v 25 tEvent .z [] 0, .v 29 tEntry .z [] 0]
noncomputable def spec_l10Best.pts : List (Pt (denR (outTys spec_l10Best.g.rts spec_l10Best.g.pms))) := [⟨9, spec_l10Best.s9, fun k x => spec_l10Best.p9 k x.1 x.2.1 x.2.2.1 x.2.2.2.1 x.2.2.2.2.1 x.2.2.2.2.2.1 x.2.2.2.2.2.2.1⟩]
theorem spec_l10Best.h9 (k : Nat) (x0 : (List Int)) (x1 : Int) (x2 : (List Answer)) (x3 : Bool) (x4 : Int) (x5 : Event) (x6 : Entry) : (spec_l10Best.p9 (k + 1) x0 x1 x2 x3 x4 x5 x6 : Option (denR (outTys spec_l10Best.g.rts spec_l10Best.g.pms))) = evAt (spec_l10Best.E k) (fun κ s => lhOf k κ s spec_l10Best.pts) 9 b96 (unproj spec_l10Best.s9 (x0, x1, x2, x3, x4, x5, x6, ())) (OM.fin spec_l10Best.g Try.f96.results.toList) := by kernel_rfl
theorem spec_l10Best.hf (k : Nat) (a0 : (List Int)) (a1 : Int) (a2 : (List Answer)) : (spec_l10Best.f k a0 a1 a2 : Option (denR (outTys spec_l10Best.g.rts spec_l10Best.g.pms))) = evC (spec_l10Best.E k) (fun κ s => lhOf k κ s spec_l10Best.pts) b96 (OM.start spec_l10Best.g.pms 0 (a0, a1, a2, ())) (OM.fin spec_l10Best.g Try.f96.results.toList) := by kernel_rfl
theorem spec_l10Best.ok (k : Nat) : SmOk Try.prog (spec_l10Best.sm k) :=
  sm_ok mixed (E := spec_l10Best.E) (pts := spec_l10Best.pts) (fun k => ⟨⟨tysOk, by kernel_rfl⟩, forall_cons ⟨spec_l4Has.ok k, e129⟩ (forall_cons ⟨spec_EntryOk.ok k, e74⟩ (forall_cons ⟨spec_Better.ok k, e130⟩ (forall_nil)))⟩) (fun _ => rfl) (fun _ => rfl)
    ⟨Try.func96, by kernel_rfl, by kernel_rfl, by kernel_rfl, by kernel_rfl, by kernel_rfl, by kernel_rfl⟩ (forall_cons (fun x => ⟨rfl, fun k => spec_l10Best.h9 k x.1 x.2.1 x.2.2.1 x.2.2.2.1 x.2.2.2.2.1 x.2.2.2.2.2.1 x.2.2.2.2.2.2.1⟩) (forall_nil)) (fun k x => spec_l10Best.hf k x.1 x.2.1 x.2.2.1) k
noncomputable def b24 : Code := Try.f24.body.getD .skip
theorem e24 : OM.Entry Try.prog 24 := ⟨_, Try.func24, by kernel_rfl, by kernel_rfl⟩
@[reducible] noncomputable def spec_ReaderNext.g : Sig := ⟨[.fz tConfig, .fz tRegister, .fz (.int .i64), .fz tReader, .fz (.sl tAnswer)], [.v tReader (.two .z (.two .z (.two (.own .z) .z))), .v (.int .i64) .z], []⟩
@[reducible] noncomputable def spec_ReaderNext.fk : Nat → denI spec_ReaderNext.g.pms → Option (denR (outTys spec_ReaderNext.g.rts spec_ReaderNext.g.pms)) := fun k x => spec_ReaderNext.f k x.1 x.2.1 x.2.2.1 x.2.2.2.1 x.2.2.2.2.1
@[reducible] noncomputable def spec_ReaderNext.sm (k : Nat) : Sm := ⟨24, spec_ReaderNext.g.pms, spec_ReaderNext.g.rts, spec_ReaderNext.fk k⟩
noncomputable def spec_ReaderNext.E (k : Nat) : Env := ⟨tys, [spec_EpochOf.sm k, spec_RegOk.sm k, spec_l1Place.sm k, spec_l10Nodes.sm k, spec_ReaderOk.sm k, spec_l10Copy.sm k, spec_OffOf.sm k, spec_l10Tell.sm k, spec_l9Both.sm k, spec_Enough.sm k, spec_l10Best.sm k], [56], [16], []⟩
@[reducible] noncomputable def spec_ReaderNext.s32 : List Slot := [.v 16 (.sl tAnswer) .z [] 0, .r 32 33 [] tReader, .r 40 41 [] tReader, .r 56 57 [] tEra, .v 60 (.int .i64) .z [] 0, .v 33 tReader .z [] 0, .v 41 tReader (.two .z (.two .z (.two (.own .a) .z))) [] 0, .v 57 tEra .z [] 0]
noncomputable def spec_ReaderNext.pts : List (Pt (denR (outTys spec_ReaderNext.g.rts spec_ReaderNext.g.pms))) := [⟨32, spec_ReaderNext.s32, fun k x => spec_ReaderNext.p32 k x.1 x.2.1 x.2.2.1 x.2.2.2.1 x.2.2.2.2.1⟩]
theorem spec_ReaderNext.h32 (k : Nat) (x0 : (List Answer)) (x1 : Int) (x2 : Reader) (x3 : Reader) (x4 : Era) : (spec_ReaderNext.p32 (k + 1) x0 x1 x2 x3 x4 : Option (denR (outTys spec_ReaderNext.g.rts spec_ReaderNext.g.pms))) = evAt (spec_ReaderNext.E k) (fun κ s => lhOf k κ s spec_ReaderNext.pts) 32 b24 (unproj spec_ReaderNext.s32 (x0, x1, x2, x3, x4, ())) (OM.fin spec_ReaderNext.g Try.f24.results.toList) := by kernel_rfl
theorem spec_ReaderNext.hf (k : Nat) (a0 : Config) (a1 : Register) (a2 : Int) (a3 : Reader) (a4 : (List Answer)) : (spec_ReaderNext.f k a0 a1 a2 a3 a4 : Option (denR (outTys spec_ReaderNext.g.rts spec_ReaderNext.g.pms))) = evC (spec_ReaderNext.E k) (fun κ s => lhOf k κ s spec_ReaderNext.pts) b24 (OM.start spec_ReaderNext.g.pms 0 (a0, a1, a2, a3, a4, ())) (OM.fin spec_ReaderNext.g Try.f24.results.toList) := by kernel_rfl
theorem spec_ReaderNext.ok (k : Nat) : SmOk Try.prog (spec_ReaderNext.sm k) :=
  sm_ok mixed (E := spec_ReaderNext.E) (pts := spec_ReaderNext.pts) (fun k => ⟨⟨tysOk, by kernel_rfl⟩, forall_cons ⟨spec_EpochOf.ok k, e61⟩ (forall_cons ⟨spec_RegOk.ok k, e90⟩ (forall_cons ⟨spec_l1Place.ok k, e53⟩ (forall_cons ⟨spec_l10Nodes.ok k, e89⟩ (forall_cons ⟨spec_ReaderOk.ok k, e91⟩ (forall_cons ⟨spec_l10Copy.ok k, e92⟩ (forall_cons ⟨spec_OffOf.ok k, e54⟩ (forall_cons ⟨spec_l10Tell.ok k, e93⟩ (forall_cons ⟨spec_l9Both.ok k, e95⟩ (forall_cons ⟨spec_Enough.ok k, e94⟩ (forall_cons ⟨spec_l10Best.ok k, e96⟩ (forall_nil)))))))))))⟩) (fun _ => rfl) (fun _ => rfl)
    ⟨Try.func24, by kernel_rfl, by kernel_rfl, by kernel_rfl, by kernel_rfl, by kernel_rfl, by kernel_rfl⟩ (forall_cons (fun x => ⟨rfl, fun k => spec_ReaderNext.h32 k x.1 x.2.1 x.2.2.1 x.2.2.2.1 x.2.2.2.2.1⟩) (forall_nil)) (fun k x => spec_ReaderNext.hf k x.1 x.2.1 x.2.2.1 x.2.2.2.1 x.2.2.2.2.1) k
noncomputable def b25 : Code := Try.f25.body.getD .skip
theorem e25 : OM.Entry Try.prog 25 := ⟨_, Try.func25, by kernel_rfl, by kernel_rfl⟩
@[reducible] noncomputable def impl_EraNodes.g : Sig := ⟨[.fz tRegister, .fz (.int .i64)], [.v (.sl (.int .i64)) (.own .z)], []⟩
@[reducible] noncomputable def impl_EraNodes.fk : Nat → denI impl_EraNodes.g.pms → Option (denR (outTys impl_EraNodes.g.rts impl_EraNodes.g.pms)) := fun k x => impl_EraNodes.f x.1 x.2.1
@[reducible] noncomputable def impl_EraNodes.sm (k : Nat) : Sm := ⟨25, impl_EraNodes.g.pms, impl_EraNodes.g.rts, impl_EraNodes.fk k⟩
noncomputable def impl_EraNodes.E (k : Nat) : Env := ⟨tys, [impl_within.sm k, impl_copyInts.sm k], [], [], []⟩
noncomputable def impl_EraNodes.pts : List (Pt (denR (outTys impl_EraNodes.g.rts impl_EraNodes.g.pms))) := []
theorem impl_EraNodes.hf (k : Nat) (a0 : Register) (a1 : Int) : (impl_EraNodes.f a0 a1 : Option (denR (outTys impl_EraNodes.g.rts impl_EraNodes.g.pms))) = evC (impl_EraNodes.E k) (fun κ s => lhOf k κ s impl_EraNodes.pts) b25 (OM.start impl_EraNodes.g.pms 0 (a0, a1, ())) (OM.fin impl_EraNodes.g Try.f25.results.toList) := by kernel_rfl
theorem impl_EraNodes.ok (k : Nat) : SmOk Try.prog (impl_EraNodes.sm k) :=
  sm_ok mixed (E := impl_EraNodes.E) (pts := impl_EraNodes.pts) (fun k => ⟨⟨tysOk, by kernel_rfl⟩, forall_cons ⟨impl_within.ok k, e67⟩ (forall_cons ⟨impl_copyInts.ok k, e97⟩ (forall_nil))⟩) (fun _ => rfl) (fun _ => rfl)
    ⟨Try.func25, by kernel_rfl, by kernel_rfl, by kernel_rfl, by kernel_rfl, by kernel_rfl, by kernel_rfl⟩ (forall_nil) (fun k x => impl_EraNodes.hf k x.1 x.2.1) k
noncomputable def b13 : Code := Try.f13.body.getD .skip
theorem e13 : OM.Entry Try.prog 13 := ⟨_, Try.func13, by kernel_rfl, by kernel_rfl⟩
@[reducible] noncomputable def laws_within.g : Sig := ⟨[.fz (.sl (.int .i64)), .fz (.int .i64)], [.v .bool .z], []⟩
@[reducible] noncomputable def laws_within.fk : Nat → denI laws_within.g.pms → Option (denR (outTys laws_within.g.rts laws_within.g.pms)) := fun k x => laws_within.f k x.1 x.2.1
@[reducible] noncomputable def laws_within.sm (k : Nat) : Sm := ⟨13, laws_within.g.pms, laws_within.g.rts, laws_within.fk k⟩
noncomputable def laws_within.E (k : Nat) : Env := ⟨tys, [], [], [], []⟩
@[reducible] noncomputable def laws_within.s5 : List Slot := [.v 0 (.sl (.int .i64)) .z [] 0, .v 4 (.int .i64) .z [] 0, .v 20 (.int .i64) .z [] 0]
noncomputable def laws_within.pts : List (Pt (denR (outTys laws_within.g.rts laws_within.g.pms))) := [⟨5, laws_within.s5, fun k x => laws_within.p5 k x.1 x.2.1 x.2.2.1⟩]
theorem laws_within.h5 (k : Nat) (x0 : (List Int)) (x1 : Int) (x2 : Int) : (laws_within.p5 (k + 1) x0 x1 x2 : Option (denR (outTys laws_within.g.rts laws_within.g.pms))) = evAt (laws_within.E k) (fun κ s => lhOf k κ s laws_within.pts) 5 b13 (unproj laws_within.s5 (x0, x1, x2, ())) (OM.fin laws_within.g Try.f13.results.toList) := by kernel_rfl
theorem laws_within.hf (k : Nat) (a0 : (List Int)) (a1 : Int) : (laws_within.f k a0 a1 : Option (denR (outTys laws_within.g.rts laws_within.g.pms))) = evC (laws_within.E k) (fun κ s => lhOf k κ s laws_within.pts) b13 (OM.start laws_within.g.pms 0 (a0, a1, ())) (OM.fin laws_within.g Try.f13.results.toList) := by kernel_rfl
theorem laws_within.ok (k : Nat) : SmOk Try.prog (laws_within.sm k) :=
  sm_ok mixed (E := laws_within.E) (pts := laws_within.pts) (fun k => ⟨⟨tysOk, by kernel_rfl⟩, forall_nil⟩) (fun _ => rfl) (fun _ => rfl)
    ⟨Try.func13, by kernel_rfl, by kernel_rfl, by kernel_rfl, by kernel_rfl, by kernel_rfl, by kernel_rfl⟩ (forall_cons (fun x => ⟨rfl, fun k => laws_within.h5 k x.1 x.2.1 x.2.2.1⟩) (forall_nil)) (fun k x => laws_within.hf k x.1 x.2.1) k
noncomputable def b5 : Code := Try.f5.body.getD .skip
theorem e5 : OM.Entry Try.prog 5 := ⟨_, Try.func5, by kernel_rfl, by kernel_rfl⟩
@[reducible] noncomputable def laws_FnTells.g : Sig := ⟨[.fz (.sl (.int .u8))], [.v .bool .z], []⟩
@[reducible] noncomputable def laws_FnTells.fk : Nat → denI laws_FnTells.g.pms → Option (denR (outTys laws_FnTells.g.rts laws_FnTells.g.pms)) := fun k x => laws_FnTells.f k x.1
@[reducible] noncomputable def laws_FnTells.sm (k : Nat) : Sm := ⟨5, laws_FnTells.g.pms, laws_FnTells.g.rts, laws_FnTells.fk k⟩
noncomputable def laws_FnTells.E (k : Nat) : Env := ⟨tys, [laws_big.sm k, spec_DrawReaderNext.sm k, impl_EpochOf.sm k, impl_OffOf.sm k, impl_Enough.sm k, impl_EntryOk.sm k, impl_ReaderNext.sm k, spec_ReaderNext.sm k, impl_EraNodes.sm k, laws_within.sm k], [61, 87, 133], [], [4]⟩
@[reducible] noncomputable def laws_FnTells.s35 : List Slot := [.r 12 13 [] tConfig, .r 24 25 [] tReader, .v 28 (.sl tAnswer) (.own .z) [] 0, .r 48 49 [] tEvent, .v 52 (.sl (.int .i64)) (.own .z) [] 0, .v 56 (.sl (.int .i64)) (.own .z) [] 0, .v 60 (.int .i64) .z [] 0, .v 64 .bool .z [] 0, .v 68 (.int .i64) .z [] 0, .v 13 tConfig .z [] 0, .v 25 tReader (.two .z (.two .z (.two (.own .z) .z))) [] 0, .v 49 tEvent .z [] 0]
@[reducible] noncomputable def laws_FnTells.s57 : List Slot := [.r 12 13 [] tConfig, .r 24 25 [] tReader, .v 28 (.sl tAnswer) (.own .z) [] 0, .r 48 49 [] tEvent, .v 52 (.sl (.int .i64)) (.own .z) [] 0, .v 56 (.sl (.int .i64)) (.own .z) [] 0, .v 60 (.int .i64) .z [] 0, .v 64 .bool .z [] 0, .v 76 (.int .i64) .z [] 0, .v 13 tConfig .z [] 0, .v 25 tReader (.two .z (.two .z (.two (.own .z) .z))) [] 0, .v 49 tEvent .z [] 0]
noncomputable def laws_FnTells.pts : List (Pt (denR (outTys laws_FnTells.g.rts laws_FnTells.g.pms))) := [⟨35, laws_FnTells.s35, fun k x => laws_FnTells.p35 k x.1 x.2.1 x.2.2.1 x.2.2.2.1 x.2.2.2.2.1 x.2.2.2.2.2.1 x.2.2.2.2.2.2.1 x.2.2.2.2.2.2.2.1 x.2.2.2.2.2.2.2.2.1⟩, ⟨57, laws_FnTells.s57, fun k x => laws_FnTells.p57 k x.1 x.2.1 x.2.2.1 x.2.2.2.1 x.2.2.2.2.1 x.2.2.2.2.2.1 x.2.2.2.2.2.2.1 x.2.2.2.2.2.2.2.1 x.2.2.2.2.2.2.2.2.1⟩]
theorem laws_FnTells.h35 (k : Nat) (x0 : (List Answer)) (x1 : (List Int)) (x2 : (List Int)) (x3 : Int) (x4 : Bool) (x5 : Int) (x6 : Config) (x7 : Reader) (x8 : Event) : (laws_FnTells.p35 (k + 1) x0 x1 x2 x3 x4 x5 x6 x7 x8 : Option (denR (outTys laws_FnTells.g.rts laws_FnTells.g.pms))) = evAt (laws_FnTells.E k) (fun κ s => lhOf k κ s laws_FnTells.pts) 35 b5 (unproj laws_FnTells.s35 (x0, x1, x2, x3, x4, x5, x6, x7, x8, ())) (OM.fin laws_FnTells.g Try.f5.results.toList) := by kernel_rfl
theorem laws_FnTells.h57 (k : Nat) (x0 : (List Answer)) (x1 : (List Int)) (x2 : (List Int)) (x3 : Int) (x4 : Bool) (x5 : Int) (x6 : Config) (x7 : Reader) (x8 : Event) : (laws_FnTells.p57 (k + 1) x0 x1 x2 x3 x4 x5 x6 x7 x8 : Option (denR (outTys laws_FnTells.g.rts laws_FnTells.g.pms))) = evAt (laws_FnTells.E k) (fun κ s => lhOf k κ s laws_FnTells.pts) 57 b5 (unproj laws_FnTells.s57 (x0, x1, x2, x3, x4, x5, x6, x7, x8, ())) (OM.fin laws_FnTells.g Try.f5.results.toList) := by kernel_rfl
theorem laws_FnTells.hf (k : Nat) (a0 : (List Int)) : (laws_FnTells.f k a0 : Option (denR (outTys laws_FnTells.g.rts laws_FnTells.g.pms))) = evC (laws_FnTells.E k) (fun κ s => lhOf k κ s laws_FnTells.pts) b5 (OM.start laws_FnTells.g.pms 0 (a0, ())) (OM.fin laws_FnTells.g Try.f5.results.toList) := by kernel_rfl
theorem laws_FnTells.ok (k : Nat) : SmOk Try.prog (laws_FnTells.sm k) :=
  sm_ok mixed (E := laws_FnTells.E) (pts := laws_FnTells.pts) (fun k => ⟨⟨tysOk, by kernel_rfl⟩, forall_cons ⟨laws_big.ok k, e8⟩ (forall_cons ⟨spec_DrawReaderNext.ok k, e22⟩ (forall_cons ⟨impl_EpochOf.ok k, e12⟩ (forall_cons ⟨impl_OffOf.ok k, e28⟩ (forall_cons ⟨impl_Enough.ok k, e27⟩ (forall_cons ⟨impl_EntryOk.ok k, e26⟩ (forall_cons ⟨impl_ReaderNext.ok k, e23⟩ (forall_cons ⟨spec_ReaderNext.ok k, e24⟩ (forall_cons ⟨impl_EraNodes.ok k, e25⟩ (forall_cons ⟨laws_within.ok k, e13⟩ (forall_nil))))))))))⟩) (fun _ => rfl) (fun _ => rfl)
    ⟨Try.func5, by kernel_rfl, by kernel_rfl, by kernel_rfl, by kernel_rfl, by kernel_rfl, by kernel_rfl⟩ (forall_cons (fun x => ⟨rfl, fun k => laws_FnTells.h35 k x.1 x.2.1 x.2.2.1 x.2.2.2.1 x.2.2.2.2.1 x.2.2.2.2.2.1 x.2.2.2.2.2.2.1 x.2.2.2.2.2.2.2.1 x.2.2.2.2.2.2.2.2.1⟩) (forall_cons (fun x => ⟨rfl, fun k => laws_FnTells.h57 k x.1 x.2.1 x.2.2.1 x.2.2.2.1 x.2.2.2.2.1 x.2.2.2.2.2.1 x.2.2.2.2.2.2.1 x.2.2.2.2.2.2.2.1 x.2.2.2.2.2.2.2.2.1⟩) (forall_nil))) (fun k x => laws_FnTells.hf k x.1) k
end Go.Proofs.Ythgnikafeamidab.OmFnTells
