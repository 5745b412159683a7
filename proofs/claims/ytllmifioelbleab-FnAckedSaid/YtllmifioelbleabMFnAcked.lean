import Derived.Test.YtllmifioelbleabFFnAcked
import Derived.Test.YtllmifioelbleabChecked
set_option maxRecDepth 1000000
set_option linter.unusedVariables false
namespace Go.Proofs.Ytllmifioelbleab.OmFnAcked
open Go Go.OM
noncomputable def tys : List (Option Ty) := [none, none, some (.int .i64), some (.int .i64), some .bool, some (.int .u8), some (.int .u8), some (.pair (.int .i64) (.pair (.int .i64) (.pair .bool (.pair (.int .u8) .unit)))), some (.pair (.int .i64) (.pair (.int .i64) (.pair .bool (.pair (.int .u8) .unit)))), some .str, some .str, some .str, some (.int .u64), some (.pair .str (.pair (.int .u64) .unit)), some (.pair .str (.pair (.int .u64) .unit)), none, none, none, none, none, none, some (.int .i32), some (.sl (.int .i64)), some tConfig, some tConfig, some (.sl tWord), some tWriter, some tWriter, none, none, some (.sl tWord), some tWriter, some tWriter, none, none, some tConfig, none, none, none, none, none, none, none, some (.sl (.int .u8)), none, none, none, none, some tWord, some tWord, none, none, none, none, none, some (.sl tEntry), some (.sl (.sl (.int .i64))), some tMend, some tMend, none, some (.sl tEntry), some tMend, some tMend, none, none, none, none, none, none, none, none, none, none, none, none, none, none, none, none, none, none, none, none, none, none, none, none, none, none, none, none, none, none, none, none, none, none, none, none, none, none, none, none, none, none, none, none, none, none, some tEntry, some tEntry, none, some tEntry, none, none, none, none, none, some tWord, none, none, none, some tl1Cur, some tl1Cur, none, none, none, none, none, none, none, none, none, none, none, none, none, none, none, none, none, none, none, some (.sl .str), none, some (.int .u64), none, none, some (.sl .bool), none, none, none, none, none, none, none, none, none, none, none, none, some (.int .u32), some (.int .u8), some (.int .u8), none, none, some (.int .i32), some (.int .i32), none, none, none]
theorem tysOk : okTys Try.prog tys 0 tys = true := by kernel_rfl
theorem mixed : Try.prog.follows .mixedOrders = true := by kernel_rfl
noncomputable def b20 : Code := Try.f20.body.getD .skip
theorem e20 : OM.Entry Try.prog 20 := ⟨_, Try.func20, by kernel_rfl, by kernel_rfl⟩
@[reducible] noncomputable def laws_big.g : Sig := ⟨[.fz (.sl (.int .u8))], [.v .bool .z], []⟩
@[reducible] noncomputable def laws_big.fk : Nat → denI laws_big.g.pms → Option (denR (outTys laws_big.g.rts laws_big.g.pms)) := fun k x => laws_big.f x.1
@[reducible] noncomputable def laws_big.sm (k : Nat) : Sm := ⟨20, laws_big.g.pms, laws_big.g.rts, laws_big.fk k⟩
noncomputable def laws_big.E (k : Nat) : Env := ⟨tys, [], [], [], []⟩
noncomputable def laws_big.pts : List (Pt (denR (outTys laws_big.g.rts laws_big.g.pms))) := []
theorem laws_big.hf (k : Nat) (a0 : (List Int)) : (laws_big.f a0 : Option (denR (outTys laws_big.g.rts laws_big.g.pms))) = evC (laws_big.E k) (fun κ s => lhOf k κ s laws_big.pts) b20 (OM.start laws_big.g.pms 0 (a0, ())) (OM.fin laws_big.g Try.f20.results.toList) := by kernel_rfl
theorem laws_big.ok (k : Nat) : SmOk Try.prog (laws_big.sm k) :=
  sm_ok mixed (E := laws_big.E) (pts := laws_big.pts) (fun k => ⟨⟨tysOk, by kernel_rfl⟩, forall_nil⟩) (fun _ => rfl) (fun _ => rfl)
    ⟨Try.func20, by kernel_rfl, by kernel_rfl, by kernel_rfl, by kernel_rfl, by kernel_rfl, by kernel_rfl⟩ (forall_nil) (fun k x => laws_big.hf k x.1) k
noncomputable def b58 : Code := Try.f58.body.getD .skip
theorem e58 : OM.Entry Try.prog 58 := ⟨_, Try.func58, by kernel_rfl, by kernel_rfl⟩
@[reducible] noncomputable def spec_l1New.g : Sig := ⟨[.fz (.sl (.int .u8))], [.p tl1Cur .z], []⟩
@[reducible] noncomputable def spec_l1New.fk : Nat → denI spec_l1New.g.pms → Option (denR (outTys spec_l1New.g.rts spec_l1New.g.pms)) := fun k x => spec_l1New.f k x.1
@[reducible] noncomputable def spec_l1New.sm (k : Nat) : Sm := ⟨58, spec_l1New.g.pms, spec_l1New.g.rts, spec_l1New.fk k⟩
noncomputable def spec_l1New.E (k : Nat) : Env := ⟨tys, [], [28, 29], [], []⟩
@[reducible] noncomputable def spec_l1New.s7 : List Slot := [.v 0 (.sl (.int .u8)) .z [] 0, .v 12 (.int .i64) .z [] 0, .v 16 (.int .i64) .z [] 0]
noncomputable def spec_l1New.pts : List (Pt (denR (outTys spec_l1New.g.rts spec_l1New.g.pms))) := [⟨7, spec_l1New.s7, fun k x => spec_l1New.p7 k x.1 x.2.1 x.2.2.1⟩]
theorem spec_l1New.h7 (k : Nat) (x0 : (List Int)) (x1 : Int) (x2 : Int) : (spec_l1New.p7 (k + 1) x0 x1 x2 : Option (denR (outTys spec_l1New.g.rts spec_l1New.g.pms))) = evAt (spec_l1New.E k) (fun κ s => lhOf k κ s spec_l1New.pts) 7 b58 (unproj spec_l1New.s7 (x0, x1, x2, ())) (OM.fin spec_l1New.g Try.f58.results.toList) := by kernel_rfl
theorem spec_l1New.hf (k : Nat) (a0 : (List Int)) : (spec_l1New.f k a0 : Option (denR (outTys spec_l1New.g.rts spec_l1New.g.pms))) = evC (spec_l1New.E k) (fun κ s => lhOf k κ s spec_l1New.pts) b58 (OM.start spec_l1New.g.pms 0 (a0, ())) (OM.fin spec_l1New.g Try.f58.results.toList) := by kernel_rfl
theorem spec_l1New.ok (k : Nat) : SmOk Try.prog (spec_l1New.sm k) :=
  sm_ok mixed (E := spec_l1New.E) (pts := spec_l1New.pts) (fun k => ⟨⟨tysOk, by kernel_rfl⟩, forall_nil⟩) (fun _ => rfl) (fun _ => rfl)
    ⟨Try.func58, by kernel_rfl, by kernel_rfl, by kernel_rfl, by kernel_rfl, by kernel_rfl, by kernel_rfl⟩ (forall_cons (fun x => ⟨rfl, fun k => spec_l1New.h7 k x.1 x.2.1 x.2.2.1⟩) (forall_nil)) (fun k x => spec_l1New.hf k x.1) k
noncomputable def b112 : Code := Try.f112.body.getD .skip
theorem e112 : OM.Entry Try.prog 112 := ⟨_, Try.func112, by kernel_rfl, by kernel_rfl⟩
@[reducible] noncomputable def spec_l1Byte.g : Sig := ⟨[.ptr tl1Cur .z .z], [.v (.int .i64) .z], []⟩
@[reducible] noncomputable def spec_l1Byte.fk : Nat → denI spec_l1Byte.g.pms → Option (denR (outTys spec_l1Byte.g.rts spec_l1Byte.g.pms)) := fun k x => spec_l1Byte.f x.1
@[reducible] noncomputable def spec_l1Byte.sm (k : Nat) : Sm := ⟨112, spec_l1Byte.g.pms, spec_l1Byte.g.rts, spec_l1Byte.fk k⟩
noncomputable def spec_l1Byte.E (k : Nat) : Env := ⟨tys, [], [], [], []⟩
noncomputable def spec_l1Byte.pts : List (Pt (denR (outTys spec_l1Byte.g.rts spec_l1Byte.g.pms))) := []
theorem spec_l1Byte.hf (k : Nat) (a0 : l1Cur) : (spec_l1Byte.f a0 : Option (denR (outTys spec_l1Byte.g.rts spec_l1Byte.g.pms))) = evC (spec_l1Byte.E k) (fun κ s => lhOf k κ s spec_l1Byte.pts) b112 (OM.start spec_l1Byte.g.pms 0 (a0, ())) (OM.fin spec_l1Byte.g Try.f112.results.toList) := by kernel_rfl
theorem spec_l1Byte.ok (k : Nat) : SmOk Try.prog (spec_l1Byte.sm k) :=
  sm_ok mixed (E := spec_l1Byte.E) (pts := spec_l1Byte.pts) (fun k => ⟨⟨tysOk, by kernel_rfl⟩, forall_nil⟩) (fun _ => rfl) (fun _ => rfl)
    ⟨Try.func112, by kernel_rfl, by kernel_rfl, by kernel_rfl, by kernel_rfl, by kernel_rfl, by kernel_rfl⟩ (forall_nil) (fun k x => spec_l1Byte.hf k x.1) k
noncomputable def b61 : Code := Try.f61.body.getD .skip
theorem e61 : OM.Entry Try.prog 61 := ⟨_, Try.func61, by kernel_rfl, by kernel_rfl⟩
@[reducible] noncomputable def spec_l1Below.g : Sig := ⟨[.ptr tl1Cur .z .z, .fz (.int .i64)], [.v (.int .i64) .z], []⟩
@[reducible] noncomputable def spec_l1Below.fk : Nat → denI spec_l1Below.g.pms → Option (denR (outTys spec_l1Below.g.rts spec_l1Below.g.pms)) := fun k x => spec_l1Below.f x.1 x.2.1
@[reducible] noncomputable def spec_l1Below.sm (k : Nat) : Sm := ⟨61, spec_l1Below.g.pms, spec_l1Below.g.rts, spec_l1Below.fk k⟩
noncomputable def spec_l1Below.E (k : Nat) : Env := ⟨tys, [spec_l1Byte.sm k], [], [], []⟩
noncomputable def spec_l1Below.pts : List (Pt (denR (outTys spec_l1Below.g.rts spec_l1Below.g.pms))) := []
theorem spec_l1Below.hf (k : Nat) (a0 : l1Cur) (a1 : Int) : (spec_l1Below.f a0 a1 : Option (denR (outTys spec_l1Below.g.rts spec_l1Below.g.pms))) = evC (spec_l1Below.E k) (fun κ s => lhOf k κ s spec_l1Below.pts) b61 (OM.start spec_l1Below.g.pms 0 (a0, a1, ())) (OM.fin spec_l1Below.g Try.f61.results.toList) := by kernel_rfl
theorem spec_l1Below.ok (k : Nat) : SmOk Try.prog (spec_l1Below.sm k) :=
  sm_ok mixed (E := spec_l1Below.E) (pts := spec_l1Below.pts) (fun k => ⟨⟨tysOk, by kernel_rfl⟩, forall_cons ⟨spec_l1Byte.ok k, e112⟩ (forall_nil)⟩) (fun _ => rfl) (fun _ => rfl)
    ⟨Try.func61, by kernel_rfl, by kernel_rfl, by kernel_rfl, by kernel_rfl, by kernel_rfl, by kernel_rfl⟩ (forall_nil) (fun k x => spec_l1Below.hf k x.1 x.2.1) k
noncomputable def b134 : Code := Try.f134.body.getD .skip
theorem e134 : OM.Entry Try.prog 134 := ⟨_, Try.func134, by kernel_rfl, by kernel_rfl⟩
@[reducible] noncomputable def spec_l1Once.g : Sig := ⟨[.ptr tl1Cur .z .z, .fz (.int .i64)], [.v .bool .z], []⟩
@[reducible] noncomputable def spec_l1Once.fk : Nat → denI spec_l1Once.g.pms → Option (denR (outTys spec_l1Once.g.rts spec_l1Once.g.pms)) := fun k x => spec_l1Once.f x.1 x.2.1
@[reducible] noncomputable def spec_l1Once.sm (k : Nat) : Sm := ⟨134, spec_l1Once.g.pms, spec_l1Once.g.rts, spec_l1Once.fk k⟩
noncomputable def spec_l1Once.E (k : Nat) : Env := ⟨tys, [spec_l1Below.sm k], [], [], []⟩
noncomputable def spec_l1Once.pts : List (Pt (denR (outTys spec_l1Once.g.rts spec_l1Once.g.pms))) := []
theorem spec_l1Once.hf (k : Nat) (a0 : l1Cur) (a1 : Int) : (spec_l1Once.f a0 a1 : Option (denR (outTys spec_l1Once.g.rts spec_l1Once.g.pms))) = evC (spec_l1Once.E k) (fun κ s => lhOf k κ s spec_l1Once.pts) b134 (OM.start spec_l1Once.g.pms 0 (a0, a1, ())) (OM.fin spec_l1Once.g Try.f134.results.toList) := by kernel_rfl
theorem spec_l1Once.ok (k : Nat) : SmOk Try.prog (spec_l1Once.sm k) :=
  sm_ok mixed (E := spec_l1Once.E) (pts := spec_l1Once.pts) (fun k => ⟨⟨tysOk, by kernel_rfl⟩, forall_cons ⟨spec_l1Below.ok k, e61⟩ (forall_nil)⟩) (fun _ => rfl) (fun _ => rfl)
    ⟨Try.func134, by kernel_rfl, by kernel_rfl, by kernel_rfl, by kernel_rfl, by kernel_rfl, by kernel_rfl⟩ (forall_nil) (fun k x => spec_l1Once.hf k x.1 x.2.1) k
noncomputable def b109 : Code := Try.f109.body.getD .skip
theorem e109 : OM.Entry Try.prog 109 := ⟨_, Try.func109, by kernel_rfl, by kernel_rfl⟩
@[reducible] noncomputable def spec_l4DrawRight.g : Sig := ⟨[.ptr tl1Cur .z .z], [.v tConfig (.two (.own .z) .z)], []⟩
@[reducible] noncomputable def spec_l4DrawRight.fk : Nat → denI spec_l4DrawRight.g.pms → Option (denR (outTys spec_l4DrawRight.g.rts spec_l4DrawRight.g.pms)) := fun k x => spec_l4DrawRight.f k x.1
@[reducible] noncomputable def spec_l4DrawRight.sm (k : Nat) : Sm := ⟨109, spec_l4DrawRight.g.pms, spec_l4DrawRight.g.rts, spec_l4DrawRight.fk k⟩
noncomputable def spec_l4DrawRight.E (k : Nat) : Env := ⟨tys, [spec_l1Below.sm k, spec_l1Once.sm k], [], [], []⟩
@[reducible] noncomputable def spec_l4DrawRight.s9 : List Slot := [.r 0 36001 [] tl1Cur, .r 8 9 [] tConfig, .r 12 13 [] tConfig, .v 16 (.int .i64) .z [] 0, .v 20 (.int .i64) .z [] 0, .v 9 tConfig (.two (.own .a) .z) [] 0, .v 13 tConfig (.two (.own .z) .z) [] 0, .v 36001 tl1Cur .z [] 0]
noncomputable def spec_l4DrawRight.pts : List (Pt (denR (outTys spec_l4DrawRight.g.rts spec_l4DrawRight.g.pms))) := [⟨9, spec_l4DrawRight.s9, fun k x => spec_l4DrawRight.p9 k x.1 x.2.1 x.2.2.1 x.2.2.2.1 x.2.2.2.2.1⟩]
theorem spec_l4DrawRight.h9 (k : Nat) (x0 : Int) (x1 : Int) (x2 : Config) (x3 : Config) (x4 : l1Cur) : (spec_l4DrawRight.p9 (k + 1) x0 x1 x2 x3 x4 : Option (denR (outTys spec_l4DrawRight.g.rts spec_l4DrawRight.g.pms))) = evAt (spec_l4DrawRight.E k) (fun κ s => lhOf k κ s spec_l4DrawRight.pts) 9 b109 (unproj spec_l4DrawRight.s9 (x0, x1, x2, x3, x4, ())) (OM.fin spec_l4DrawRight.g Try.f109.results.toList) := by kernel_rfl
theorem spec_l4DrawRight.hf (k : Nat) (a0 : l1Cur) : (spec_l4DrawRight.f k a0 : Option (denR (outTys spec_l4DrawRight.g.rts spec_l4DrawRight.g.pms))) = evC (spec_l4DrawRight.E k) (fun κ s => lhOf k κ s spec_l4DrawRight.pts) b109 (OM.start spec_l4DrawRight.g.pms 0 (a0, ())) (OM.fin spec_l4DrawRight.g Try.f109.results.toList) := by kernel_rfl
theorem spec_l4DrawRight.ok (k : Nat) : SmOk Try.prog (spec_l4DrawRight.sm k) :=
  sm_ok mixed (E := spec_l4DrawRight.E) (pts := spec_l4DrawRight.pts) (fun k => ⟨⟨tysOk, by kernel_rfl⟩, forall_cons ⟨spec_l1Below.ok k, e61⟩ (forall_cons ⟨spec_l1Once.ok k, e134⟩ (forall_nil))⟩) (fun _ => rfl) (fun _ => rfl)
    ⟨Try.func109, by kernel_rfl, by kernel_rfl, by kernel_rfl, by kernel_rfl, by kernel_rfl, by kernel_rfl⟩ (forall_cons (fun x => ⟨rfl, fun k => spec_l4DrawRight.h9 k x.1 x.2.1 x.2.2.1 x.2.2.2.1 x.2.2.2.2.1⟩) (forall_nil)) (fun k x => spec_l4DrawRight.hf k x.1) k
noncomputable def b110 : Code := Try.f110.body.getD .skip
theorem e110 : OM.Entry Try.prog 110 := ⟨_, Try.func110, by kernel_rfl, by kernel_rfl⟩
@[reducible] noncomputable def spec_l1PickInt.g : Sig := ⟨[.ptr tl1Cur .z .z, .fz (.sl (.int .i64))], [.v (.int .i64) .z], []⟩
@[reducible] noncomputable def spec_l1PickInt.fk : Nat → denI spec_l1PickInt.g.pms → Option (denR (outTys spec_l1PickInt.g.rts spec_l1PickInt.g.pms)) := fun k x => spec_l1PickInt.f x.1 x.2.1
@[reducible] noncomputable def spec_l1PickInt.sm (k : Nat) : Sm := ⟨110, spec_l1PickInt.g.pms, spec_l1PickInt.g.rts, spec_l1PickInt.fk k⟩
noncomputable def spec_l1PickInt.E (k : Nat) : Env := ⟨tys, [spec_l1Below.sm k], [], [], []⟩
noncomputable def spec_l1PickInt.pts : List (Pt (denR (outTys spec_l1PickInt.g.rts spec_l1PickInt.g.pms))) := []
theorem spec_l1PickInt.hf (k : Nat) (a0 : l1Cur) (a1 : (List Int)) : (spec_l1PickInt.f a0 a1 : Option (denR (outTys spec_l1PickInt.g.rts spec_l1PickInt.g.pms))) = evC (spec_l1PickInt.E k) (fun κ s => lhOf k κ s spec_l1PickInt.pts) b110 (OM.start spec_l1PickInt.g.pms 0 (a0, a1, ())) (OM.fin spec_l1PickInt.g Try.f110.results.toList) := by kernel_rfl
theorem spec_l1PickInt.ok (k : Nat) : SmOk Try.prog (spec_l1PickInt.sm k) :=
  sm_ok mixed (E := spec_l1PickInt.E) (pts := spec_l1PickInt.pts) (fun k => ⟨⟨tysOk, by kernel_rfl⟩, forall_cons ⟨spec_l1Below.ok k, e61⟩ (forall_nil)⟩) (fun _ => rfl) (fun _ => rfl)
    ⟨Try.func110, by kernel_rfl, by kernel_rfl, by kernel_rfl, by kernel_rfl, by kernel_rfl, by kernel_rfl⟩ (forall_nil) (fun k x => spec_l1PickInt.hf k x.1 x.2.1) k
noncomputable def b59 : Code := Try.f59.body.getD .skip
theorem e59 : OM.Entry Try.prog 59 := ⟨_, Try.func59, by kernel_rfl, by kernel_rfl⟩
@[reducible] noncomputable def spec_l4Draw.g : Sig := ⟨[.ptr tl1Cur .z .z], [.v tConfig (.two (.own .z) .z)], []⟩
@[reducible] noncomputable def spec_l4Draw.fk : Nat → denI spec_l4Draw.g.pms → Option (denR (outTys spec_l4Draw.g.rts spec_l4Draw.g.pms)) := fun k x => spec_l4Draw.f k x.1
@[reducible] noncomputable def spec_l4Draw.sm (k : Nat) : Sm := ⟨59, spec_l4Draw.g.pms, spec_l4Draw.g.rts, spec_l4Draw.fk k⟩
noncomputable def spec_l4Draw.E (k : Nat) : Env := ⟨tys, [spec_l1Below.sm k, spec_l4DrawRight.sm k, spec_l1PickInt.sm k], [], [], []⟩
noncomputable def spec_l4Draw.pts : List (Pt (denR (outTys spec_l4Draw.g.rts spec_l4Draw.g.pms))) := []
theorem spec_l4Draw.hf (k : Nat) (a0 : l1Cur) : (spec_l4Draw.f k a0 : Option (denR (outTys spec_l4Draw.g.rts spec_l4Draw.g.pms))) = evC (spec_l4Draw.E k) (fun κ s => lhOf k κ s spec_l4Draw.pts) b59 (OM.start spec_l4Draw.g.pms 0 (a0, ())) (OM.fin spec_l4Draw.g Try.f59.results.toList) := by kernel_rfl
theorem spec_l4Draw.ok (k : Nat) : SmOk Try.prog (spec_l4Draw.sm k) :=
  sm_ok mixed (E := spec_l4Draw.E) (pts := spec_l4Draw.pts) (fun k => ⟨⟨tysOk, by kernel_rfl⟩, forall_cons ⟨spec_l1Below.ok k, e61⟩ (forall_cons ⟨spec_l4DrawRight.ok k, e109⟩ (forall_cons ⟨spec_l1PickInt.ok k, e110⟩ (forall_nil)))⟩) (fun _ => rfl) (fun _ => rfl)
    ⟨Try.func59, by kernel_rfl, by kernel_rfl, by kernel_rfl, by kernel_rfl, by kernel_rfl, by kernel_rfl⟩ (forall_nil) (fun k x => spec_l4Draw.hf k x.1) k
noncomputable def b136 : Code := Try.f136.body.getD .skip
theorem e136 : OM.Entry Try.prog 136 := ⟨_, Try.func136, by kernel_rfl, by kernel_rfl⟩
@[reducible] noncomputable def spec_l1Pick.g : Sig := ⟨[.ptr tl1Cur .z .z, .fz (.sl .str)], [.v .str .z], []⟩
@[reducible] noncomputable def spec_l1Pick.fk : Nat → denI spec_l1Pick.g.pms → Option (denR (outTys spec_l1Pick.g.rts spec_l1Pick.g.pms)) := fun k x => spec_l1Pick.f x.1 x.2.1
@[reducible] noncomputable def spec_l1Pick.sm (k : Nat) : Sm := ⟨136, spec_l1Pick.g.pms, spec_l1Pick.g.rts, spec_l1Pick.fk k⟩
noncomputable def spec_l1Pick.E (k : Nat) : Env := ⟨tys, [spec_l1Below.sm k], [], [], []⟩
noncomputable def spec_l1Pick.pts : List (Pt (denR (outTys spec_l1Pick.g.rts spec_l1Pick.g.pms))) := []
theorem spec_l1Pick.hf (k : Nat) (a0 : l1Cur) (a1 : (List ByteArray)) : (spec_l1Pick.f a0 a1 : Option (denR (outTys spec_l1Pick.g.rts spec_l1Pick.g.pms))) = evC (spec_l1Pick.E k) (fun κ s => lhOf k κ s spec_l1Pick.pts) b136 (OM.start spec_l1Pick.g.pms 0 (a0, a1, ())) (OM.fin spec_l1Pick.g Try.f136.results.toList) := by kernel_rfl
theorem spec_l1Pick.ok (k : Nat) : SmOk Try.prog (spec_l1Pick.sm k) :=
  sm_ok mixed (E := spec_l1Pick.E) (pts := spec_l1Pick.pts) (fun k => ⟨⟨tysOk, by kernel_rfl⟩, forall_cons ⟨spec_l1Below.ok k, e61⟩ (forall_nil)⟩) (fun _ => rfl) (fun _ => rfl)
    ⟨Try.func136, by kernel_rfl, by kernel_rfl, by kernel_rfl, by kernel_rfl, by kernel_rfl, by kernel_rfl⟩ (forall_nil) (fun k x => spec_l1Pick.hf k x.1 x.2.1) k
noncomputable def b65 : Code := Try.f65.body.getD .skip
theorem e65 : OM.Entry Try.prog 65 := ⟨_, Try.func65, by kernel_rfl, by kernel_rfl⟩
@[reducible] noncomputable def spec_l1In.g : Sig := ⟨[.fz (.int .i64), .fz (.int .i64), .fz (.int .i64)], [.v .bool .z], []⟩
@[reducible] noncomputable def spec_l1In.fk : Nat → denI spec_l1In.g.pms → Option (denR (outTys spec_l1In.g.rts spec_l1In.g.pms)) := fun k x => spec_l1In.f x.1 x.2.1 x.2.2.1
@[reducible] noncomputable def spec_l1In.sm (k : Nat) : Sm := ⟨65, spec_l1In.g.pms, spec_l1In.g.rts, spec_l1In.fk k⟩
noncomputable def spec_l1In.E (k : Nat) : Env := ⟨tys, [], [], [], []⟩
noncomputable def spec_l1In.pts : List (Pt (denR (outTys spec_l1In.g.rts spec_l1In.g.pms))) := []
theorem spec_l1In.hf (k : Nat) (a0 : Int) (a1 : Int) (a2 : Int) : (spec_l1In.f a0 a1 a2 : Option (denR (outTys spec_l1In.g.rts spec_l1In.g.pms))) = evC (spec_l1In.E k) (fun κ s => lhOf k κ s spec_l1In.pts) b65 (OM.start spec_l1In.g.pms 0 (a0, a1, a2, ())) (OM.fin spec_l1In.g Try.f65.results.toList) := by kernel_rfl
theorem spec_l1In.ok (k : Nat) : SmOk Try.prog (spec_l1In.sm k) :=
  sm_ok mixed (E := spec_l1In.E) (pts := spec_l1In.pts) (fun k => ⟨⟨tysOk, by kernel_rfl⟩, forall_nil⟩) (fun _ => rfl) (fun _ => rfl)
    ⟨Try.func65, by kernel_rfl, by kernel_rfl, by kernel_rfl, by kernel_rfl, by kernel_rfl, by kernel_rfl⟩ (forall_nil) (fun k x => spec_l1In.hf k x.1 x.2.1 x.2.2.1) k
noncomputable def b101 : Code := Try.f101.body.getD .skip
theorem e101 : OM.Entry Try.prog 101 := ⟨_, Try.func101, by kernel_rfl, by kernel_rfl⟩
@[reducible] noncomputable def spec_ConfigOk.g : Sig := ⟨[.fz tConfig], [.v .bool .z], []⟩
@[reducible] noncomputable def spec_ConfigOk.fk : Nat → denI spec_ConfigOk.g.pms → Option (denR (outTys spec_ConfigOk.g.rts spec_ConfigOk.g.pms)) := fun k x => spec_ConfigOk.f k x.1
@[reducible] noncomputable def spec_ConfigOk.sm (k : Nat) : Sm := ⟨101, spec_ConfigOk.g.pms, spec_ConfigOk.g.rts, spec_ConfigOk.fk k⟩
noncomputable def spec_ConfigOk.E (k : Nat) : Env := ⟨tys, [spec_l1In.sm k], [], [], []⟩
@[reducible] noncomputable def spec_ConfigOk.s9 : List Slot := [.r 4 5 [] tConfig, .v 12 (.int .i64) .z [] 0, .v 5 tConfig .z [] 0]
noncomputable def spec_ConfigOk.pts : List (Pt (denR (outTys spec_ConfigOk.g.rts spec_ConfigOk.g.pms))) := [⟨9, spec_ConfigOk.s9, fun k x => spec_ConfigOk.p9 k x.1 x.2.1⟩]
theorem spec_ConfigOk.h9 (k : Nat) (x0 : Int) (x1 : Config) : (spec_ConfigOk.p9 (k + 1) x0 x1 : Option (denR (outTys spec_ConfigOk.g.rts spec_ConfigOk.g.pms))) = evAt (spec_ConfigOk.E k) (fun κ s => lhOf k κ s spec_ConfigOk.pts) 9 b101 (unproj spec_ConfigOk.s9 (x0, x1, ())) (OM.fin spec_ConfigOk.g Try.f101.results.toList) := by kernel_rfl
theorem spec_ConfigOk.hf (k : Nat) (a0 : Config) : (spec_ConfigOk.f k a0 : Option (denR (outTys spec_ConfigOk.g.rts spec_ConfigOk.g.pms))) = evC (spec_ConfigOk.E k) (fun κ s => lhOf k κ s spec_ConfigOk.pts) b101 (OM.start spec_ConfigOk.g.pms 0 (a0, ())) (OM.fin spec_ConfigOk.g Try.f101.results.toList) := by kernel_rfl
theorem spec_ConfigOk.ok (k : Nat) : SmOk Try.prog (spec_ConfigOk.sm k) :=
  sm_ok mixed (E := spec_ConfigOk.E) (pts := spec_ConfigOk.pts) (fun k => ⟨⟨tysOk, by kernel_rfl⟩, forall_cons ⟨spec_l1In.ok k, e65⟩ (forall_nil)⟩) (fun _ => rfl) (fun _ => rfl)
    ⟨Try.func101, by kernel_rfl, by kernel_rfl, by kernel_rfl, by kernel_rfl, by kernel_rfl, by kernel_rfl⟩ (forall_cons (fun x => ⟨rfl, fun k => spec_ConfigOk.h9 k x.1 x.2.1⟩) (forall_nil)) (fun k x => spec_ConfigOk.hf k x.1) k
noncomputable def b132 : Code := Try.f132.body.getD .skip
theorem e132 : OM.Entry Try.prog 132 := ⟨_, Try.func132, by kernel_rfl, by kernel_rfl⟩
@[reducible] noncomputable def spec_l4Asc.g : Sig := ⟨[.fz (.sl (.int .i64)), .fz (.int .i64), .fz (.int .i64)], [.v .bool .z], []⟩
@[reducible] noncomputable def spec_l4Asc.fk : Nat → denI spec_l4Asc.g.pms → Option (denR (outTys spec_l4Asc.g.rts spec_l4Asc.g.pms)) := fun k x => spec_l4Asc.f k x.1 x.2.1 x.2.2.1
@[reducible] noncomputable def spec_l4Asc.sm (k : Nat) : Sm := ⟨132, spec_l4Asc.g.pms, spec_l4Asc.g.rts, spec_l4Asc.fk k⟩
noncomputable def spec_l4Asc.E (k : Nat) : Env := ⟨tys, [spec_l1In.sm k], [], [], []⟩
@[reducible] noncomputable def spec_l4Asc.s5 : List Slot := [.v 0 (.sl (.int .i64)) .z [] 0, .v 4 (.int .i64) .z [] 0, .v 8 (.int .i64) .z [] 0, .v 28 (.int .i64) .z [] 0]
noncomputable def spec_l4Asc.pts : List (Pt (denR (outTys spec_l4Asc.g.rts spec_l4Asc.g.pms))) := [⟨5, spec_l4Asc.s5, fun k x => spec_l4Asc.p5 k x.1 x.2.1 x.2.2.1 x.2.2.2.1⟩]
theorem spec_l4Asc.h5 (k : Nat) (x0 : (List Int)) (x1 : Int) (x2 : Int) (x3 : Int) : (spec_l4Asc.p5 (k + 1) x0 x1 x2 x3 : Option (denR (outTys spec_l4Asc.g.rts spec_l4Asc.g.pms))) = evAt (spec_l4Asc.E k) (fun κ s => lhOf k κ s spec_l4Asc.pts) 5 b132 (unproj spec_l4Asc.s5 (x0, x1, x2, x3, ())) (OM.fin spec_l4Asc.g Try.f132.results.toList) := by kernel_rfl
theorem spec_l4Asc.hf (k : Nat) (a0 : (List Int)) (a1 : Int) (a2 : Int) : (spec_l4Asc.f k a0 a1 a2 : Option (denR (outTys spec_l4Asc.g.rts spec_l4Asc.g.pms))) = evC (spec_l4Asc.E k) (fun κ s => lhOf k κ s spec_l4Asc.pts) b132 (OM.start spec_l4Asc.g.pms 0 (a0, a1, a2, ())) (OM.fin spec_l4Asc.g Try.f132.results.toList) := by kernel_rfl
theorem spec_l4Asc.ok (k : Nat) : SmOk Try.prog (spec_l4Asc.sm k) :=
  sm_ok mixed (E := spec_l4Asc.E) (pts := spec_l4Asc.pts) (fun k => ⟨⟨tysOk, by kernel_rfl⟩, forall_cons ⟨spec_l1In.ok k, e65⟩ (forall_nil)⟩) (fun _ => rfl) (fun _ => rfl)
    ⟨Try.func132, by kernel_rfl, by kernel_rfl, by kernel_rfl, by kernel_rfl, by kernel_rfl, by kernel_rfl⟩ (forall_cons (fun x => ⟨rfl, fun k => spec_l4Asc.h5 k x.1 x.2.1 x.2.2.1 x.2.2.2.1⟩) (forall_nil)) (fun k x => spec_l4Asc.hf k x.1 x.2.1 x.2.2.1) k
noncomputable def b102 : Code := Try.f102.body.getD .skip
theorem e102 : OM.Entry Try.prog 102 := ⟨_, Try.func102, by kernel_rfl, by kernel_rfl⟩
@[reducible] noncomputable def spec_NodesOk.g : Sig := ⟨[.fz tConfig, .fz (.sl (.int .i64))], [.v .bool .z], []⟩
@[reducible] noncomputable def spec_NodesOk.fk : Nat → denI spec_NodesOk.g.pms → Option (denR (outTys spec_NodesOk.g.rts spec_NodesOk.g.pms)) := fun k x => spec_NodesOk.f k x.1 x.2.1
@[reducible] noncomputable def spec_NodesOk.sm (k : Nat) : Sm := ⟨102, spec_NodesOk.g.pms, spec_NodesOk.g.rts, spec_NodesOk.fk k⟩
noncomputable def spec_NodesOk.E (k : Nat) : Env := ⟨tys, [spec_ConfigOk.sm k, spec_l4Asc.sm k], [], [], []⟩
noncomputable def spec_NodesOk.pts : List (Pt (denR (outTys spec_NodesOk.g.rts spec_NodesOk.g.pms))) := []
theorem spec_NodesOk.hf (k : Nat) (a0 : Config) (a1 : (List Int)) : (spec_NodesOk.f k a0 a1 : Option (denR (outTys spec_NodesOk.g.rts spec_NodesOk.g.pms))) = evC (spec_NodesOk.E k) (fun κ s => lhOf k κ s spec_NodesOk.pts) b102 (OM.start spec_NodesOk.g.pms 0 (a0, a1, ())) (OM.fin spec_NodesOk.g Try.f102.results.toList) := by kernel_rfl
theorem spec_NodesOk.ok (k : Nat) : SmOk Try.prog (spec_NodesOk.sm k) :=
  sm_ok mixed (E := spec_NodesOk.E) (pts := spec_NodesOk.pts) (fun k => ⟨⟨tysOk, by kernel_rfl⟩, forall_cons ⟨spec_ConfigOk.ok k, e101⟩ (forall_cons ⟨spec_l4Asc.ok k, e132⟩ (forall_nil))⟩) (fun _ => rfl) (fun _ => rfl)
    ⟨Try.func102, by kernel_rfl, by kernel_rfl, by kernel_rfl, by kernel_rfl, by kernel_rfl, by kernel_rfl⟩ (forall_nil) (fun k x => spec_NodesOk.hf k x.1 x.2.1) k
noncomputable def b115 : Code := Try.f115.body.getD .skip
theorem e115 : OM.Entry Try.prog 115 := ⟨_, Try.func115, by kernel_rfl, by kernel_rfl⟩
@[reducible] noncomputable def spec_l4Span.g : Sig := ⟨[.fz tConfig, .fz (.sl (.int .i64))], [.v (.int .i64) .z], []⟩
@[reducible] noncomputable def spec_l4Span.fk : Nat → denI spec_l4Span.g.pms → Option (denR (outTys spec_l4Span.g.rts spec_l4Span.g.pms)) := fun k x => spec_l4Span.f k x.1 x.2.1
@[reducible] noncomputable def spec_l4Span.sm (k : Nat) : Sm := ⟨115, spec_l4Span.g.pms, spec_l4Span.g.rts, spec_l4Span.fk k⟩
noncomputable def spec_l4Span.E (k : Nat) : Env := ⟨tys, [], [23], [], []⟩
@[reducible] noncomputable def spec_l4Span.s9 : List Slot := [.v 4 (.sl (.int .i64)) .z [] 0, .r 8 9 [] tConfig, .v 20 (.sl .bool) (.own .z) [] 0, .v 24 (.int .i64) .z [] 0, .v 28 (.int .i64) .z [] 0, .v 9 tConfig .z [] 0]
noncomputable def spec_l4Span.pts : List (Pt (denR (outTys spec_l4Span.g.rts spec_l4Span.g.pms))) := [⟨9, spec_l4Span.s9, fun k x => spec_l4Span.p9 k x.1 x.2.1 x.2.2.1 x.2.2.2.1 x.2.2.2.2.1⟩]
theorem spec_l4Span.h9 (k : Nat) (x0 : (List Int)) (x1 : (List Bool)) (x2 : Int) (x3 : Int) (x4 : Config) : (spec_l4Span.p9 (k + 1) x0 x1 x2 x3 x4 : Option (denR (outTys spec_l4Span.g.rts spec_l4Span.g.pms))) = evAt (spec_l4Span.E k) (fun κ s => lhOf k κ s spec_l4Span.pts) 9 b115 (unproj spec_l4Span.s9 (x0, x1, x2, x3, x4, ())) (OM.fin spec_l4Span.g Try.f115.results.toList) := by kernel_rfl
theorem spec_l4Span.hf (k : Nat) (a0 : Config) (a1 : (List Int)) : (spec_l4Span.f k a0 a1 : Option (denR (outTys spec_l4Span.g.rts spec_l4Span.g.pms))) = evC (spec_l4Span.E k) (fun κ s => lhOf k κ s spec_l4Span.pts) b115 (OM.start spec_l4Span.g.pms 0 (a0, a1, ())) (OM.fin spec_l4Span.g Try.f115.results.toList) := by kernel_rfl
theorem spec_l4Span.ok (k : Nat) : SmOk Try.prog (spec_l4Span.sm k) :=
  sm_ok mixed (E := spec_l4Span.E) (pts := spec_l4Span.pts) (fun k => ⟨⟨tysOk, by kernel_rfl⟩, forall_nil⟩) (fun _ => rfl) (fun _ => rfl)
    ⟨Try.func115, by kernel_rfl, by kernel_rfl, by kernel_rfl, by kernel_rfl, by kernel_rfl, by kernel_rfl⟩ (forall_cons (fun x => ⟨rfl, fun k => spec_l4Span.h9 k x.1 x.2.1 x.2.2.1 x.2.2.2.1 x.2.2.2.2.1⟩) (forall_nil)) (fun k x => spec_l4Span.hf k x.1 x.2.1) k
noncomputable def b67 : Code := Try.f67.body.getD .skip
theorem e67 : OM.Entry Try.prog 67 := ⟨_, Try.func67, by kernel_rfl, by kernel_rfl⟩
@[reducible] noncomputable def spec_Holds.g : Sig := ⟨[.fz tConfig, .fz (.sl (.int .i64))], [.v .bool .z], []⟩
@[reducible] noncomputable def spec_Holds.fk : Nat → denI spec_Holds.g.pms → Option (denR (outTys spec_Holds.g.rts spec_Holds.g.pms)) := fun k x => spec_Holds.f k x.1 x.2.1
@[reducible] noncomputable def spec_Holds.sm (k : Nat) : Sm := ⟨67, spec_Holds.g.pms, spec_Holds.g.rts, spec_Holds.fk k⟩
noncomputable def spec_Holds.E (k : Nat) : Env := ⟨tys, [spec_NodesOk.sm k, spec_l4Span.sm k], [], [], []⟩
noncomputable def spec_Holds.pts : List (Pt (denR (outTys spec_Holds.g.rts spec_Holds.g.pms))) := []
theorem spec_Holds.hf (k : Nat) (a0 : Config) (a1 : (List Int)) : (spec_Holds.f k a0 a1 : Option (denR (outTys spec_Holds.g.rts spec_Holds.g.pms))) = evC (spec_Holds.E k) (fun κ s => lhOf k κ s spec_Holds.pts) b67 (OM.start spec_Holds.g.pms 0 (a0, a1, ())) (OM.fin spec_Holds.g Try.f67.results.toList) := by kernel_rfl
theorem spec_Holds.ok (k : Nat) : SmOk Try.prog (spec_Holds.sm k) :=
  sm_ok mixed (E := spec_Holds.E) (pts := spec_Holds.pts) (fun k => ⟨⟨tysOk, by kernel_rfl⟩, forall_cons ⟨spec_NodesOk.ok k, e102⟩ (forall_cons ⟨spec_l4Span.ok k, e115⟩ (forall_nil))⟩) (fun _ => rfl) (fun _ => rfl)
    ⟨Try.func67, by kernel_rfl, by kernel_rfl, by kernel_rfl, by kernel_rfl, by kernel_rfl, by kernel_rfl⟩ (forall_nil) (fun k x => spec_Holds.hf k x.1 x.2.1) k
noncomputable def b49 : Code := Try.f49.body.getD .skip
theorem e49 : OM.Entry Try.prog 49 := ⟨_, Try.func49, by kernel_rfl, by kernel_rfl⟩
@[reducible] noncomputable def spec_WriterOk.g : Sig := ⟨[.fz tConfig, .fz tWriter], [.v .bool .z], []⟩
@[reducible] noncomputable def spec_WriterOk.fk : Nat → denI spec_WriterOk.g.pms → Option (denR (outTys spec_WriterOk.g.rts spec_WriterOk.g.pms)) := fun k x => spec_WriterOk.f k x.1 x.2.1
@[reducible] noncomputable def spec_WriterOk.sm (k : Nat) : Sm := ⟨49, spec_WriterOk.g.pms, spec_WriterOk.g.rts, spec_WriterOk.fk k⟩
noncomputable def spec_WriterOk.E (k : Nat) : Env := ⟨tys, [spec_l1In.sm k, spec_ConfigOk.sm k, spec_NodesOk.sm k, spec_Holds.sm k], [34], [], [4]⟩
@[reducible] noncomputable def spec_WriterOk.s11 : List Slot := [.r 8 9 [] tConfig, .r 12 13 [] tWriter, .v 20 (.int .i64) .z [] 0, .v 24 (.int .i64) .z [] 0, .v 9 tConfig .z [] 0, .v 13 tWriter .z [] 0]
noncomputable def spec_WriterOk.pts : List (Pt (denR (outTys spec_WriterOk.g.rts spec_WriterOk.g.pms))) := [⟨11, spec_WriterOk.s11, fun k x => spec_WriterOk.p11 k x.1 x.2.1 x.2.2.1 x.2.2.2.1⟩]
theorem spec_WriterOk.h11 (k : Nat) (x0 : Int) (x1 : Int) (x2 : Config) (x3 : Writer) : (spec_WriterOk.p11 (k + 1) x0 x1 x2 x3 : Option (denR (outTys spec_WriterOk.g.rts spec_WriterOk.g.pms))) = evAt (spec_WriterOk.E k) (fun κ s => lhOf k κ s spec_WriterOk.pts) 11 b49 (unproj spec_WriterOk.s11 (x0, x1, x2, x3, ())) (OM.fin spec_WriterOk.g Try.f49.results.toList) := by kernel_rfl
theorem spec_WriterOk.hf (k : Nat) (a0 : Config) (a1 : Writer) : (spec_WriterOk.f k a0 a1 : Option (denR (outTys spec_WriterOk.g.rts spec_WriterOk.g.pms))) = evC (spec_WriterOk.E k) (fun κ s => lhOf k κ s spec_WriterOk.pts) b49 (OM.start spec_WriterOk.g.pms 0 (a0, a1, ())) (OM.fin spec_WriterOk.g Try.f49.results.toList) := by kernel_rfl
theorem spec_WriterOk.ok (k : Nat) : SmOk Try.prog (spec_WriterOk.sm k) :=
  sm_ok mixed (E := spec_WriterOk.E) (pts := spec_WriterOk.pts) (fun k => ⟨⟨tysOk, by kernel_rfl⟩, forall_cons ⟨spec_l1In.ok k, e65⟩ (forall_cons ⟨spec_ConfigOk.ok k, e101⟩ (forall_cons ⟨spec_NodesOk.ok k, e102⟩ (forall_cons ⟨spec_Holds.ok k, e67⟩ (forall_nil))))⟩) (fun _ => rfl) (fun _ => rfl)
    ⟨Try.func49, by kernel_rfl, by kernel_rfl, by kernel_rfl, by kernel_rfl, by kernel_rfl, by kernel_rfl⟩ (forall_cons (fun x => ⟨rfl, fun k => spec_WriterOk.h11 k x.1 x.2.1 x.2.2.1 x.2.2.2.1⟩) (forall_nil)) (fun k x => spec_WriterOk.hf k x.1 x.2.1) k
noncomputable def b50 : Code := Try.f50.body.getD .skip
theorem e50 : OM.Entry Try.prog 50 := ⟨_, Try.func50, by kernel_rfl, by kernel_rfl⟩
@[reducible] noncomputable def spec_l8Copy.g : Sig := ⟨[.fz tWriter], [.v tWriter (.two .z (.two (.own (.two .z (.two (.own .z) .z))) .z))], []⟩
@[reducible] noncomputable def spec_l8Copy.fk : Nat → denI spec_l8Copy.g.pms → Option (denR (outTys spec_l8Copy.g.rts spec_l8Copy.g.pms)) := fun k x => spec_l8Copy.f k x.1
@[reducible] noncomputable def spec_l8Copy.sm (k : Nat) : Sm := ⟨50, spec_l8Copy.g.pms, spec_l8Copy.g.rts, spec_l8Copy.fk k⟩
noncomputable def spec_l8Copy.E (k : Nat) : Env := ⟨tys, [], [20, 28], [], []⟩
@[reducible] noncomputable def spec_l8Copy.s7 : List Slot := [.r 4 5 [] tWriter, .r 8 9 [] tWriter, .r 12 13 [] tWriter, .v 16 (.int .i64) .z [] 0, .v 5 tWriter .z [] 0, .v 9 tWriter (.two .z (.two (.own .a) .z)) [] 0, .v 13 tWriter (.two .z (.two (.own (.two .z (.two (.own .z) .z))) .z)) [] 0]
noncomputable def spec_l8Copy.pts : List (Pt (denR (outTys spec_l8Copy.g.rts spec_l8Copy.g.pms))) := [⟨7, spec_l8Copy.s7, fun k x => spec_l8Copy.p7 k x.1 x.2.1 x.2.2.1 x.2.2.2.1⟩]
theorem spec_l8Copy.h7 (k : Nat) (x0 : Int) (x1 : Writer) (x2 : Writer) (x3 : Writer) : (spec_l8Copy.p7 (k + 1) x0 x1 x2 x3 : Option (denR (outTys spec_l8Copy.g.rts spec_l8Copy.g.pms))) = evAt (spec_l8Copy.E k) (fun κ s => lhOf k κ s spec_l8Copy.pts) 7 b50 (unproj spec_l8Copy.s7 (x0, x1, x2, x3, ())) (OM.fin spec_l8Copy.g Try.f50.results.toList) := by kernel_rfl
theorem spec_l8Copy.hf (k : Nat) (a0 : Writer) : (spec_l8Copy.f k a0 : Option (denR (outTys spec_l8Copy.g.rts spec_l8Copy.g.pms))) = evC (spec_l8Copy.E k) (fun κ s => lhOf k κ s spec_l8Copy.pts) b50 (OM.start spec_l8Copy.g.pms 0 (a0, ())) (OM.fin spec_l8Copy.g Try.f50.results.toList) := by kernel_rfl
theorem spec_l8Copy.ok (k : Nat) : SmOk Try.prog (spec_l8Copy.sm k) :=
  sm_ok mixed (E := spec_l8Copy.E) (pts := spec_l8Copy.pts) (fun k => ⟨⟨tysOk, by kernel_rfl⟩, forall_nil⟩) (fun _ => rfl) (fun _ => rfl)
    ⟨Try.func50, by kernel_rfl, by kernel_rfl, by kernel_rfl, by kernel_rfl, by kernel_rfl, by kernel_rfl⟩ (forall_cons (fun x => ⟨rfl, fun k => spec_l8Copy.h7 k x.1 x.2.1 x.2.2.1 x.2.2.2.1⟩) (forall_nil)) (fun k x => spec_l8Copy.hf k x.1) k
noncomputable def b135 : Code := Try.f135.body.getD .skip
theorem e135 : OM.Entry Try.prog 135 := ⟨_, Try.func135, by kernel_rfl, by kernel_rfl⟩
@[reducible] noncomputable def spec_WriterAdd.g : Sig := ⟨[.fz tConfig, .fz tWriter, .fz .str], [.v tWriter (.two .z (.two (.own (.two .z (.two (.own .z) .z))) .z)), .v (.int .i64) .z, .v .bool .z], []⟩
@[reducible] noncomputable def spec_WriterAdd.fk : Nat → denI spec_WriterAdd.g.pms → Option (denR (outTys spec_WriterAdd.g.rts spec_WriterAdd.g.pms)) := fun k x => spec_WriterAdd.f k x.1 x.2.1 x.2.2.1
@[reducible] noncomputable def spec_WriterAdd.sm (k : Nat) : Sm := ⟨135, spec_WriterAdd.g.pms, spec_WriterAdd.g.rts, spec_WriterAdd.fk k⟩
noncomputable def spec_WriterAdd.E (k : Nat) : Env := ⟨tys, [spec_WriterOk.sm k, spec_l8Copy.sm k], [19], [], []⟩
noncomputable def spec_WriterAdd.pts : List (Pt (denR (outTys spec_WriterAdd.g.rts spec_WriterAdd.g.pms))) := []
theorem spec_WriterAdd.hf (k : Nat) (a0 : Config) (a1 : Writer) (a2 : ByteArray) : (spec_WriterAdd.f k a0 a1 a2 : Option (denR (outTys spec_WriterAdd.g.rts spec_WriterAdd.g.pms))) = evC (spec_WriterAdd.E k) (fun κ s => lhOf k κ s spec_WriterAdd.pts) b135 (OM.start spec_WriterAdd.g.pms 0 (a0, a1, a2, ())) (OM.fin spec_WriterAdd.g Try.f135.results.toList) := by kernel_rfl
theorem spec_WriterAdd.ok (k : Nat) : SmOk Try.prog (spec_WriterAdd.sm k) :=
  sm_ok mixed (E := spec_WriterAdd.E) (pts := spec_WriterAdd.pts) (fun k => ⟨⟨tysOk, by kernel_rfl⟩, forall_cons ⟨spec_WriterOk.ok k, e49⟩ (forall_cons ⟨spec_l8Copy.ok k, e50⟩ (forall_nil))⟩) (fun _ => rfl) (fun _ => rfl)
    ⟨Try.func135, by kernel_rfl, by kernel_rfl, by kernel_rfl, by kernel_rfl, by kernel_rfl, by kernel_rfl⟩ (forall_nil) (fun k x => spec_WriterAdd.hf k x.1 x.2.1 x.2.2.1) k
noncomputable def b137 : Code := Try.f137.body.getD .skip
theorem e137 : OM.Entry Try.prog 137 := ⟨_, Try.func137, by kernel_rfl, by kernel_rfl⟩
@[reducible] noncomputable def spec_l1Max.g : Sig := ⟨[.fz (.int .i64), .fz (.int .i64)], [.v (.int .i64) .z], []⟩
@[reducible] noncomputable def spec_l1Max.fk : Nat → denI spec_l1Max.g.pms → Option (denR (outTys spec_l1Max.g.rts spec_l1Max.g.pms)) := fun k x => spec_l1Max.f x.1 x.2.1
@[reducible] noncomputable def spec_l1Max.sm (k : Nat) : Sm := ⟨137, spec_l1Max.g.pms, spec_l1Max.g.rts, spec_l1Max.fk k⟩
noncomputable def spec_l1Max.E (k : Nat) : Env := ⟨tys, [], [], [], []⟩
noncomputable def spec_l1Max.pts : List (Pt (denR (outTys spec_l1Max.g.rts spec_l1Max.g.pms))) := []
theorem spec_l1Max.hf (k : Nat) (a0 : Int) (a1 : Int) : (spec_l1Max.f a0 a1 : Option (denR (outTys spec_l1Max.g.rts spec_l1Max.g.pms))) = evC (spec_l1Max.E k) (fun κ s => lhOf k κ s spec_l1Max.pts) b137 (OM.start spec_l1Max.g.pms 0 (a0, a1, ())) (OM.fin spec_l1Max.g Try.f137.results.toList) := by kernel_rfl
theorem spec_l1Max.ok (k : Nat) : SmOk Try.prog (spec_l1Max.sm k) :=
  sm_ok mixed (E := spec_l1Max.E) (pts := spec_l1Max.pts) (fun k => ⟨⟨tysOk, by kernel_rfl⟩, forall_nil⟩) (fun _ => rfl) (fun _ => rfl)
    ⟨Try.func137, by kernel_rfl, by kernel_rfl, by kernel_rfl, by kernel_rfl, by kernel_rfl, by kernel_rfl⟩ (forall_nil) (fun k x => spec_l1Max.hf k x.1 x.2.1) k
noncomputable def b103 : Code := Try.f103.body.getD .skip
theorem e103 : OM.Entry Try.prog 103 := ⟨_, Try.func103, by kernel_rfl, by kernel_rfl⟩
@[reducible] noncomputable def spec_l4Has.g : Sig := ⟨[.fz (.sl (.int .i64)), .fz (.int .i64)], [.v .bool .z], []⟩
@[reducible] noncomputable def spec_l4Has.fk : Nat → denI spec_l4Has.g.pms → Option (denR (outTys spec_l4Has.g.rts spec_l4Has.g.pms)) := fun k x => spec_l4Has.f k x.1 x.2.1
@[reducible] noncomputable def spec_l4Has.sm (k : Nat) : Sm := ⟨103, spec_l4Has.g.pms, spec_l4Has.g.rts, spec_l4Has.fk k⟩
noncomputable def spec_l4Has.E (k : Nat) : Env := ⟨tys, [], [], [], []⟩
@[reducible] noncomputable def spec_l4Has.s5 : List Slot := [.v 0 (.sl (.int .i64)) .z [] 0, .v 4 (.int .i64) .z [] 0, .v 20 (.int .i64) .z [] 0]
noncomputable def spec_l4Has.pts : List (Pt (denR (outTys spec_l4Has.g.rts spec_l4Has.g.pms))) := [⟨5, spec_l4Has.s5, fun k x => spec_l4Has.p5 k x.1 x.2.1 x.2.2.1⟩]
theorem spec_l4Has.h5 (k : Nat) (x0 : (List Int)) (x1 : Int) (x2 : Int) : (spec_l4Has.p5 (k + 1) x0 x1 x2 : Option (denR (outTys spec_l4Has.g.rts spec_l4Has.g.pms))) = evAt (spec_l4Has.E k) (fun κ s => lhOf k κ s spec_l4Has.pts) 5 b103 (unproj spec_l4Has.s5 (x0, x1, x2, ())) (OM.fin spec_l4Has.g Try.f103.results.toList) := by kernel_rfl
theorem spec_l4Has.hf (k : Nat) (a0 : (List Int)) (a1 : Int) : (spec_l4Has.f k a0 a1 : Option (denR (outTys spec_l4Has.g.rts spec_l4Has.g.pms))) = evC (spec_l4Has.E k) (fun κ s => lhOf k κ s spec_l4Has.pts) b103 (OM.start spec_l4Has.g.pms 0 (a0, a1, ())) (OM.fin spec_l4Has.g Try.f103.results.toList) := by kernel_rfl
theorem spec_l4Has.ok (k : Nat) : SmOk Try.prog (spec_l4Has.sm k) :=
  sm_ok mixed (E := spec_l4Has.E) (pts := spec_l4Has.pts) (fun k => ⟨⟨tysOk, by kernel_rfl⟩, forall_nil⟩) (fun _ => rfl) (fun _ => rfl)
    ⟨Try.func103, by kernel_rfl, by kernel_rfl, by kernel_rfl, by kernel_rfl, by kernel_rfl, by kernel_rfl⟩ (forall_cons (fun x => ⟨rfl, fun k => spec_l4Has.h5 k x.1 x.2.1 x.2.2.1⟩) (forall_nil)) (fun k x => spec_l4Has.hf k x.1 x.2.1) k
noncomputable def b66 : Code := Try.f66.body.getD .skip
theorem e66 : OM.Entry Try.prog 66 := ⟨_, Try.func66, by kernel_rfl, by kernel_rfl⟩
@[reducible] noncomputable def spec_l4Put.g : Sig := ⟨[.fz (.sl (.int .i64)), .fz (.int .i64)], [.v (.sl (.int .i64)) (.own .z)], []⟩
@[reducible] noncomputable def spec_l4Put.fk : Nat → denI spec_l4Put.g.pms → Option (denR (outTys spec_l4Put.g.rts spec_l4Put.g.pms)) := fun k x => spec_l4Put.f k x.1 x.2.1
@[reducible] noncomputable def spec_l4Put.sm (k : Nat) : Sm := ⟨66, spec_l4Put.g.pms, spec_l4Put.g.rts, spec_l4Put.fk k⟩
noncomputable def spec_l4Put.E (k : Nat) : Env := ⟨tys, [spec_l4Has.sm k], [36, 42], [], []⟩
@[reducible] noncomputable def spec_l4Put.s9 : List Slot := [.v 0 (.sl (.int .i64)) .z [] 0, .v 4 (.int .i64) .z [] 0, .v 20 (.sl (.int .i64)) (.own .z) [] 0, .v 24 .bool .z [] 0, .v 28 (.int .i64) .z [] 0]
noncomputable def spec_l4Put.pts : List (Pt (denR (outTys spec_l4Put.g.rts spec_l4Put.g.pms))) := [⟨9, spec_l4Put.s9, fun k x => spec_l4Put.p9 k x.1 x.2.1 x.2.2.1 x.2.2.2.1 x.2.2.2.2.1⟩]
theorem spec_l4Put.h9 (k : Nat) (x0 : (List Int)) (x1 : Int) (x2 : (List Int)) (x3 : Bool) (x4 : Int) : (spec_l4Put.p9 (k + 1) x0 x1 x2 x3 x4 : Option (denR (outTys spec_l4Put.g.rts spec_l4Put.g.pms))) = evAt (spec_l4Put.E k) (fun κ s => lhOf k κ s spec_l4Put.pts) 9 b66 (unproj spec_l4Put.s9 (x0, x1, x2, x3, x4, ())) (OM.fin spec_l4Put.g Try.f66.results.toList) := by kernel_rfl
theorem spec_l4Put.hf (k : Nat) (a0 : (List Int)) (a1 : Int) : (spec_l4Put.f k a0 a1 : Option (denR (outTys spec_l4Put.g.rts spec_l4Put.g.pms))) = evC (spec_l4Put.E k) (fun κ s => lhOf k κ s spec_l4Put.pts) b66 (OM.start spec_l4Put.g.pms 0 (a0, a1, ())) (OM.fin spec_l4Put.g Try.f66.results.toList) := by kernel_rfl
theorem spec_l4Put.ok (k : Nat) : SmOk Try.prog (spec_l4Put.sm k) :=
  sm_ok mixed (E := spec_l4Put.E) (pts := spec_l4Put.pts) (fun k => ⟨⟨tysOk, by kernel_rfl⟩, forall_cons ⟨spec_l4Has.ok k, e103⟩ (forall_nil)⟩) (fun _ => rfl) (fun _ => rfl)
    ⟨Try.func66, by kernel_rfl, by kernel_rfl, by kernel_rfl, by kernel_rfl, by kernel_rfl, by kernel_rfl⟩ (forall_cons (fun x => ⟨rfl, fun k => spec_l4Put.h9 k x.1 x.2.1 x.2.2.1 x.2.2.2.1 x.2.2.2.2.1⟩) (forall_nil)) (fun k x => spec_l4Put.hf k x.1 x.2.1) k
noncomputable def b23 : Code := Try.f23.body.getD .skip
theorem e23 : OM.Entry Try.prog 23 := ⟨_, Try.func23, by kernel_rfl, by kernel_rfl⟩
@[reducible] noncomputable def spec_WriterAck.g : Sig := ⟨[.fz tConfig, .fz tWriter, .fz (.int .i64), .fz (.int .i64)], [.v tWriter (.two .z (.two (.own (.two .z (.two (.own .z) .z))) .z)), .v .bool .z], []⟩
@[reducible] noncomputable def spec_WriterAck.fk : Nat → denI spec_WriterAck.g.pms → Option (denR (outTys spec_WriterAck.g.rts spec_WriterAck.g.pms)) := fun k x => spec_WriterAck.f k x.1 x.2.1 x.2.2.1 x.2.2.2.1
@[reducible] noncomputable def spec_WriterAck.sm (k : Nat) : Sm := ⟨23, spec_WriterAck.g.pms, spec_WriterAck.g.rts, spec_WriterAck.fk k⟩
noncomputable def spec_WriterAck.E (k : Nat) : Env := ⟨tys, [spec_l1In.sm k, spec_Holds.sm k, spec_WriterOk.sm k, spec_l8Copy.sm k, spec_l4Put.sm k], [], [], []⟩
noncomputable def spec_WriterAck.pts : List (Pt (denR (outTys spec_WriterAck.g.rts spec_WriterAck.g.pms))) := []
theorem spec_WriterAck.hf (k : Nat) (a0 : Config) (a1 : Writer) (a2 : Int) (a3 : Int) : (spec_WriterAck.f k a0 a1 a2 a3 : Option (denR (outTys spec_WriterAck.g.rts spec_WriterAck.g.pms))) = evC (spec_WriterAck.E k) (fun κ s => lhOf k κ s spec_WriterAck.pts) b23 (OM.start spec_WriterAck.g.pms 0 (a0, a1, a2, a3, ())) (OM.fin spec_WriterAck.g Try.f23.results.toList) := by kernel_rfl
theorem spec_WriterAck.ok (k : Nat) : SmOk Try.prog (spec_WriterAck.sm k) :=
  sm_ok mixed (E := spec_WriterAck.E) (pts := spec_WriterAck.pts) (fun k => ⟨⟨tysOk, by kernel_rfl⟩, forall_cons ⟨spec_l1In.ok k, e65⟩ (forall_cons ⟨spec_Holds.ok k, e67⟩ (forall_cons ⟨spec_WriterOk.ok k, e49⟩ (forall_cons ⟨spec_l8Copy.ok k, e50⟩ (forall_cons ⟨spec_l4Put.ok k, e66⟩ (forall_nil)))))⟩) (fun _ => rfl) (fun _ => rfl)
    ⟨Try.func23, by kernel_rfl, by kernel_rfl, by kernel_rfl, by kernel_rfl, by kernel_rfl, by kernel_rfl⟩ (forall_nil) (fun k x => spec_WriterAck.hf k x.1 x.2.1 x.2.2.1 x.2.2.2.1) k
noncomputable def b111 : Code := Try.f111.body.getD .skip
theorem e111 : OM.Entry Try.prog 111 := ⟨_, Try.func111, by kernel_rfl, by kernel_rfl⟩
@[reducible] noncomputable def spec_l8DrawRight.g : Sig := ⟨[.ptr tl1Cur .z .z, .fz tConfig], [.v tWriter (.two .z (.two (.own .z) .z))], []⟩
@[reducible] noncomputable def spec_l8DrawRight.fk : Nat → denI spec_l8DrawRight.g.pms → Option (denR (outTys spec_l8DrawRight.g.rts spec_l8DrawRight.g.pms)) := fun k x => spec_l8DrawRight.f k x.1 x.2.1
@[reducible] noncomputable def spec_l8DrawRight.sm (k : Nat) : Sm := ⟨111, spec_l8DrawRight.g.pms, spec_l8DrawRight.g.rts, spec_l8DrawRight.fk k⟩
noncomputable def spec_l8DrawRight.E (k : Nat) : Env := ⟨tys, [spec_l1Below.sm k, spec_l1Once.sm k, spec_l1Pick.sm k, spec_WriterAdd.sm k, spec_l1Max.sm k, spec_WriterAck.sm k], [51], [], []⟩
@[reducible] noncomputable def spec_l8DrawRight.s7 : List Slot := [.r 0 36001 [] tl1Cur, .r 12 13 [] tConfig, .r 16 17 [] tWriter, .r 20 21 [] tWriter, .v 24 (.int .i64) .z [] 0, .v 13 tConfig .z [] 0, .v 17 tWriter (.two .z (.two (.own .a) .z)) [] 0, .v 21 tWriter (.two .z (.two (.own (.two .z (.two (.own .z) .z))) .z)) [] 0, .v 36001 tl1Cur .z [] 0]
noncomputable def spec_l8DrawRight.pts : List (Pt (denR (outTys spec_l8DrawRight.g.rts spec_l8DrawRight.g.pms))) := [⟨7, spec_l8DrawRight.s7, fun k x => spec_l8DrawRight.p7 k x.1 x.2.1 x.2.2.1 x.2.2.2.1 x.2.2.2.2.1⟩]
theorem spec_l8DrawRight.h7 (k : Nat) (x0 : Int) (x1 : Config) (x2 : Writer) (x3 : Writer) (x4 : l1Cur) : (spec_l8DrawRight.p7 (k + 1) x0 x1 x2 x3 x4 : Option (denR (outTys spec_l8DrawRight.g.rts spec_l8DrawRight.g.pms))) = evAt (spec_l8DrawRight.E k) (fun κ s => lhOf k κ s spec_l8DrawRight.pts) 7 b111 (unproj spec_l8DrawRight.s7 (x0, x1, x2, x3, x4, ())) (OM.fin spec_l8DrawRight.g Try.f111.results.toList) := by kernel_rfl
theorem spec_l8DrawRight.hf (k : Nat) (a0 : l1Cur) (a1 : Config) : (spec_l8DrawRight.f k a0 a1 : Option (denR (outTys spec_l8DrawRight.g.rts spec_l8DrawRight.g.pms))) = evC (spec_l8DrawRight.E k) (fun κ s => lhOf k κ s spec_l8DrawRight.pts) b111 (OM.start spec_l8DrawRight.g.pms 0 (a0, a1, ())) (OM.fin spec_l8DrawRight.g Try.f111.results.toList) := by kernel_rfl
theorem spec_l8DrawRight.ok (k : Nat) : SmOk Try.prog (spec_l8DrawRight.sm k) :=
  sm_ok mixed (E := spec_l8DrawRight.E) (pts := spec_l8DrawRight.pts) (fun k => ⟨⟨tysOk, by kernel_rfl⟩, forall_cons ⟨spec_l1Below.ok k, e61⟩ (forall_cons ⟨spec_l1Once.ok k, e134⟩ (forall_cons ⟨spec_l1Pick.ok k, e136⟩ (forall_cons ⟨spec_WriterAdd.ok k, e135⟩ (forall_cons ⟨spec_l1Max.ok k, e137⟩ (forall_cons ⟨spec_WriterAck.ok k, e23⟩ (forall_nil))))))⟩) (fun _ => rfl) (fun _ => rfl)
    ⟨Try.func111, by kernel_rfl, by kernel_rfl, by kernel_rfl, by kernel_rfl, by kernel_rfl, by kernel_rfl⟩ (forall_cons (fun x => ⟨rfl, fun k => spec_l8DrawRight.h7 k x.1 x.2.1 x.2.2.1 x.2.2.2.1 x.2.2.2.2.1⟩) (forall_nil)) (fun k x => spec_l8DrawRight.hf k x.1 x.2.1) k
noncomputable def b60 : Code := Try.f60.body.getD .skip
theorem e60 : OM.Entry Try.prog 60 := ⟨_, Try.func60, by kernel_rfl, by kernel_rfl⟩
@[reducible] noncomputable def spec_l8Draw.g : Sig := ⟨[.ptr tl1Cur .z .z, .fz tConfig], [.v tWriter (.two .z (.two (.own .z) .z))], []⟩
@[reducible] noncomputable def spec_l8Draw.fk : Nat → denI spec_l8Draw.g.pms → Option (denR (outTys spec_l8Draw.g.rts spec_l8Draw.g.pms)) := fun k x => spec_l8Draw.f k x.1 x.2.1
@[reducible] noncomputable def spec_l8Draw.sm (k : Nat) : Sm := ⟨60, spec_l8Draw.g.pms, spec_l8Draw.g.rts, spec_l8Draw.fk k⟩
noncomputable def spec_l8Draw.E (k : Nat) : Env := ⟨tys, [spec_l1Below.sm k, spec_l1PickInt.sm k, spec_l8DrawRight.sm k], [63], [], []⟩
@[reducible] noncomputable def spec_l8Draw.s23 : List Slot := [.r 0 36001 [] tl1Cur, .r 16 17 [] tWriter, .r 20 21 [] tWriter, .v 17 tWriter (.two .z (.two (.own .a) .z)) [] 0, .v 21 tWriter (.two .z (.two (.own .z) .z)) [] 0, .v 36001 tl1Cur .z [] 0]
noncomputable def spec_l8Draw.pts : List (Pt (denR (outTys spec_l8Draw.g.rts spec_l8Draw.g.pms))) := [⟨23, spec_l8Draw.s23, fun k x => spec_l8Draw.p23 k x.1 x.2.1 x.2.2.1⟩]
theorem spec_l8Draw.h23 (k : Nat) (x0 : Writer) (x1 : Writer) (x2 : l1Cur) : (spec_l8Draw.p23 (k + 1) x0 x1 x2 : Option (denR (outTys spec_l8Draw.g.rts spec_l8Draw.g.pms))) = evAt (spec_l8Draw.E k) (fun κ s => lhOf k κ s spec_l8Draw.pts) 23 b60 (unproj spec_l8Draw.s23 (x0, x1, x2, ())) (OM.fin spec_l8Draw.g Try.f60.results.toList) := by kernel_rfl
theorem spec_l8Draw.hf (k : Nat) (a0 : l1Cur) (a1 : Config) : (spec_l8Draw.f k a0 a1 : Option (denR (outTys spec_l8Draw.g.rts spec_l8Draw.g.pms))) = evC (spec_l8Draw.E k) (fun κ s => lhOf k κ s spec_l8Draw.pts) b60 (OM.start spec_l8Draw.g.pms 0 (a0, a1, ())) (OM.fin spec_l8Draw.g Try.f60.results.toList) := by kernel_rfl
theorem spec_l8Draw.ok (k : Nat) : SmOk Try.prog (spec_l8Draw.sm k) :=
  sm_ok mixed (E := spec_l8Draw.E) (pts := spec_l8Draw.pts) (fun k => ⟨⟨tysOk, by kernel_rfl⟩, forall_cons ⟨spec_l1Below.ok k, e61⟩ (forall_cons ⟨spec_l1PickInt.ok k, e110⟩ (forall_cons ⟨spec_l8DrawRight.ok k, e111⟩ (forall_nil)))⟩) (fun _ => rfl) (fun _ => rfl)
    ⟨Try.func60, by kernel_rfl, by kernel_rfl, by kernel_rfl, by kernel_rfl, by kernel_rfl, by kernel_rfl⟩ (forall_cons (fun x => ⟨rfl, fun k => spec_l8Draw.h23 k x.1 x.2.1 x.2.2.1⟩) (forall_nil)) (fun k x => spec_l8Draw.hf k x.1 x.2.1) k
noncomputable def b21 : Code := Try.f21.body.getD .skip
theorem e21 : OM.Entry Try.prog 21 := ⟨_, Try.func21, by kernel_rfl, by kernel_rfl⟩
@[reducible] noncomputable def spec_DrawWriterAck.g : Sig := ⟨[.fz (.sl (.int .u8))], [.v tConfig .z, .v tWriter (.two .z (.two (.own .z) .z)), .v (.int .i64) .z, .v (.int .i64) .z], []⟩
@[reducible] noncomputable def spec_DrawWriterAck.fk : Nat → denI spec_DrawWriterAck.g.pms → Option (denR (outTys spec_DrawWriterAck.g.rts spec_DrawWriterAck.g.pms)) := fun k x => spec_DrawWriterAck.f k x.1
@[reducible] noncomputable def spec_DrawWriterAck.sm (k : Nat) : Sm := ⟨21, spec_DrawWriterAck.g.pms, spec_DrawWriterAck.g.rts, spec_DrawWriterAck.fk k⟩
noncomputable def spec_DrawWriterAck.E (k : Nat) : Env := ⟨tys, [spec_l1New.sm k, spec_l1Below.sm k, spec_l4Draw.sm k, spec_l8Draw.sm k], [], [], []⟩
noncomputable def spec_DrawWriterAck.pts : List (Pt (denR (outTys spec_DrawWriterAck.g.rts spec_DrawWriterAck.g.pms))) := []
theorem spec_DrawWriterAck.hf (k : Nat) (a0 : (List Int)) : (spec_DrawWriterAck.f k a0 : Option (denR (outTys spec_DrawWriterAck.g.rts spec_DrawWriterAck.g.pms))) = evC (spec_DrawWriterAck.E k) (fun κ s => lhOf k κ s spec_DrawWriterAck.pts) b21 (OM.start spec_DrawWriterAck.g.pms 0 (a0, ())) (OM.fin spec_DrawWriterAck.g Try.f21.results.toList) := by kernel_rfl
theorem spec_DrawWriterAck.ok (k : Nat) : SmOk Try.prog (spec_DrawWriterAck.sm k) :=
  sm_ok mixed (E := spec_DrawWriterAck.E) (pts := spec_DrawWriterAck.pts) (fun k => ⟨⟨tysOk, by kernel_rfl⟩, forall_cons ⟨spec_l1New.ok k, e58⟩ (forall_cons ⟨spec_l1Below.ok k, e61⟩ (forall_cons ⟨spec_l4Draw.ok k, e59⟩ (forall_cons ⟨spec_l8Draw.ok k, e60⟩ (forall_nil))))⟩) (fun _ => rfl) (fun _ => rfl)
    ⟨Try.func21, by kernel_rfl, by kernel_rfl, by kernel_rfl, by kernel_rfl, by kernel_rfl, by kernel_rfl⟩ (forall_nil) (fun k x => spec_DrawWriterAck.hf k x.1) k
noncomputable def b70 : Code := Try.f70.body.getD .skip
theorem e70 : OM.Entry Try.prog 70 := ⟨_, Try.func70, by kernel_rfl, by kernel_rfl⟩
@[reducible] noncomputable def impl_dataOk.g : Sig := ⟨[.fz .str], [.v .bool .z], []⟩
@[reducible] noncomputable def impl_dataOk.fk : Nat → denI impl_dataOk.g.pms → Option (denR (outTys impl_dataOk.g.rts impl_dataOk.g.pms)) := fun k x => impl_dataOk.f x.1
@[reducible] noncomputable def impl_dataOk.sm (k : Nat) : Sm := ⟨70, impl_dataOk.g.pms, impl_dataOk.g.rts, impl_dataOk.fk k⟩
noncomputable def impl_dataOk.E (k : Nat) : Env := ⟨tys, [], [], [], []⟩
noncomputable def impl_dataOk.pts : List (Pt (denR (outTys impl_dataOk.g.rts impl_dataOk.g.pms))) := []
theorem impl_dataOk.hf (k : Nat) (a0 : ByteArray) : (impl_dataOk.f a0 : Option (denR (outTys impl_dataOk.g.rts impl_dataOk.g.pms))) = evC (impl_dataOk.E k) (fun κ s => lhOf k κ s impl_dataOk.pts) b70 (OM.start impl_dataOk.g.pms 0 (a0, ())) (OM.fin impl_dataOk.g Try.f70.results.toList) := by kernel_rfl
theorem impl_dataOk.ok (k : Nat) : SmOk Try.prog (impl_dataOk.sm k) :=
  sm_ok mixed (E := impl_dataOk.E) (pts := impl_dataOk.pts) (fun k => ⟨⟨tysOk, by kernel_rfl⟩, forall_nil⟩) (fun _ => rfl) (fun _ => rfl)
    ⟨Try.func70, by kernel_rfl, by kernel_rfl, by kernel_rfl, by kernel_rfl, by kernel_rfl, by kernel_rfl⟩ (forall_nil) (fun k x => impl_dataOk.hf k x.1) k
noncomputable def b62 : Code := Try.f62.body.getD .skip
theorem e62 : OM.Entry Try.prog 62 := ⟨_, Try.func62, by kernel_rfl, by kernel_rfl⟩
@[reducible] noncomputable def impl_within.g : Sig := ⟨[.fz (.int .i64), .fz (.int .i64), .fz (.int .i64)], [.v .bool .z], []⟩
@[reducible] noncomputable def impl_within.fk : Nat → denI impl_within.g.pms → Option (denR (outTys impl_within.g.rts impl_within.g.pms)) := fun k x => impl_within.f x.1 x.2.1 x.2.2.1
@[reducible] noncomputable def impl_within.sm (k : Nat) : Sm := ⟨62, impl_within.g.pms, impl_within.g.rts, impl_within.fk k⟩
noncomputable def impl_within.E (k : Nat) : Env := ⟨tys, [], [], [], []⟩
noncomputable def impl_within.pts : List (Pt (denR (outTys impl_within.g.rts impl_within.g.pms))) := []
theorem impl_within.hf (k : Nat) (a0 : Int) (a1 : Int) (a2 : Int) : (impl_within.f a0 a1 a2 : Option (denR (outTys impl_within.g.rts impl_within.g.pms))) = evC (impl_within.E k) (fun κ s => lhOf k κ s impl_within.pts) b62 (OM.start impl_within.g.pms 0 (a0, a1, a2, ())) (OM.fin impl_within.g Try.f62.results.toList) := by kernel_rfl
theorem impl_within.ok (k : Nat) : SmOk Try.prog (impl_within.sm k) :=
  sm_ok mixed (E := impl_within.E) (pts := impl_within.pts) (fun k => ⟨⟨tysOk, by kernel_rfl⟩, forall_nil⟩) (fun _ => rfl) (fun _ => rfl)
    ⟨Try.func62, by kernel_rfl, by kernel_rfl, by kernel_rfl, by kernel_rfl, by kernel_rfl, by kernel_rfl⟩ (forall_nil) (fun k x => impl_within.hf k x.1 x.2.1 x.2.2.1) k
noncomputable def b72 : Code := Try.f72.body.getD .skip
theorem e72 : OM.Entry Try.prog 72 := ⟨_, Try.func72, by kernel_rfl, by kernel_rfl⟩
@[reducible] noncomputable def impl_ConfigOk.g : Sig := ⟨[.fz tConfig], [.v .bool .z], []⟩
@[reducible] noncomputable def impl_ConfigOk.fk : Nat → denI impl_ConfigOk.g.pms → Option (denR (outTys impl_ConfigOk.g.rts impl_ConfigOk.g.pms)) := fun k x => impl_ConfigOk.f k x.1
@[reducible] noncomputable def impl_ConfigOk.sm (k : Nat) : Sm := ⟨72, impl_ConfigOk.g.pms, impl_ConfigOk.g.rts, impl_ConfigOk.fk k⟩
noncomputable def impl_ConfigOk.E (k : Nat) : Env := ⟨tys, [impl_within.sm k], [11], [], []⟩
@[reducible] noncomputable def impl_ConfigOk.s5 : List Slot := [.r 4 5 [] tConfig, .v 24 (.sl (.int .i64)) .z [] 0, .v 28 (.int .i64) .z [] 0, .v 32 (.int .i64) .z [] 0, .v 5 tConfig .z [] 0]
noncomputable def impl_ConfigOk.pts : List (Pt (denR (outTys impl_ConfigOk.g.rts impl_ConfigOk.g.pms))) := [⟨5, impl_ConfigOk.s5, fun k x => impl_ConfigOk.p5 k x.1 x.2.1 x.2.2.1 x.2.2.2.1⟩]
theorem impl_ConfigOk.h5 (k : Nat) (x0 : (List Int)) (x1 : Int) (x2 : Int) (x3 : Config) : (impl_ConfigOk.p5 (k + 1) x0 x1 x2 x3 : Option (denR (outTys impl_ConfigOk.g.rts impl_ConfigOk.g.pms))) = evAt (impl_ConfigOk.E k) (fun κ s => lhOf k κ s impl_ConfigOk.pts) 5 b72 (unproj impl_ConfigOk.s5 (x0, x1, x2, x3, ())) (OM.fin impl_ConfigOk.g Try.f72.results.toList) := by kernel_rfl
theorem impl_ConfigOk.hf (k : Nat) (a0 : Config) : (impl_ConfigOk.f k a0 : Option (denR (outTys impl_ConfigOk.g.rts impl_ConfigOk.g.pms))) = evC (impl_ConfigOk.E k) (fun κ s => lhOf k κ s impl_ConfigOk.pts) b72 (OM.start impl_ConfigOk.g.pms 0 (a0, ())) (OM.fin impl_ConfigOk.g Try.f72.results.toList) := by kernel_rfl
theorem impl_ConfigOk.ok (k : Nat) : SmOk Try.prog (impl_ConfigOk.sm k) :=
  sm_ok mixed (E := impl_ConfigOk.E) (pts := impl_ConfigOk.pts) (fun k => ⟨⟨tysOk, by kernel_rfl⟩, forall_cons ⟨impl_within.ok k, e62⟩ (forall_nil)⟩) (fun _ => rfl) (fun _ => rfl)
    ⟨Try.func72, by kernel_rfl, by kernel_rfl, by kernel_rfl, by kernel_rfl, by kernel_rfl, by kernel_rfl⟩ (forall_cons (fun x => ⟨rfl, fun k => impl_ConfigOk.h5 k x.1 x.2.1 x.2.2.1 x.2.2.2.1⟩) (forall_nil)) (fun k x => impl_ConfigOk.hf k x.1) k
noncomputable def b116 : Code := Try.f116.body.getD .skip
theorem e116 : OM.Entry Try.prog 116 := ⟨_, Try.func116, by kernel_rfl, by kernel_rfl⟩
@[reducible] noncomputable def impl_ascends.g : Sig := ⟨[.fz (.sl (.int .i64)), .fz (.int .i64)], [.v .bool .z], []⟩
@[reducible] noncomputable def impl_ascends.fk : Nat → denI impl_ascends.g.pms → Option (denR (outTys impl_ascends.g.rts impl_ascends.g.pms)) := fun k x => impl_ascends.f k x.1 x.2.1
@[reducible] noncomputable def impl_ascends.sm (k : Nat) : Sm := ⟨116, impl_ascends.g.pms, impl_ascends.g.rts, impl_ascends.fk k⟩
noncomputable def impl_ascends.E (k : Nat) : Env := ⟨tys, [impl_within.sm k], [13], [], []⟩
@[reducible] noncomputable def impl_ascends.s5 : List Slot := [.v 0 (.sl (.int .i64)) .z [] 0, .v 4 (.int .i64) .z [] 0, .v 28 (.sl (.int .i64)) .z [] 0, .v 32 (.int .i64) .z [] 0, .v 36 (.int .i64) .z [] 0]
noncomputable def impl_ascends.pts : List (Pt (denR (outTys impl_ascends.g.rts impl_ascends.g.pms))) := [⟨5, impl_ascends.s5, fun k x => impl_ascends.p5 k x.1 x.2.1 x.2.2.1 x.2.2.2.1 x.2.2.2.2.1⟩]
theorem impl_ascends.h5 (k : Nat) (x0 : (List Int)) (x1 : Int) (x2 : (List Int)) (x3 : Int) (x4 : Int) : (impl_ascends.p5 (k + 1) x0 x1 x2 x3 x4 : Option (denR (outTys impl_ascends.g.rts impl_ascends.g.pms))) = evAt (impl_ascends.E k) (fun κ s => lhOf k κ s impl_ascends.pts) 5 b116 (unproj impl_ascends.s5 (x0, x1, x2, x3, x4, ())) (OM.fin impl_ascends.g Try.f116.results.toList) := by kernel_rfl
theorem impl_ascends.hf (k : Nat) (a0 : (List Int)) (a1 : Int) : (impl_ascends.f k a0 a1 : Option (denR (outTys impl_ascends.g.rts impl_ascends.g.pms))) = evC (impl_ascends.E k) (fun κ s => lhOf k κ s impl_ascends.pts) b116 (OM.start impl_ascends.g.pms 0 (a0, a1, ())) (OM.fin impl_ascends.g Try.f116.results.toList) := by kernel_rfl
theorem impl_ascends.ok (k : Nat) : SmOk Try.prog (impl_ascends.sm k) :=
  sm_ok mixed (E := impl_ascends.E) (pts := impl_ascends.pts) (fun k => ⟨⟨tysOk, by kernel_rfl⟩, forall_cons ⟨impl_within.ok k, e62⟩ (forall_nil)⟩) (fun _ => rfl) (fun _ => rfl)
    ⟨Try.func116, by kernel_rfl, by kernel_rfl, by kernel_rfl, by kernel_rfl, by kernel_rfl, by kernel_rfl⟩ (forall_cons (fun x => ⟨rfl, fun k => impl_ascends.h5 k x.1 x.2.1 x.2.2.1 x.2.2.2.1 x.2.2.2.2.1⟩) (forall_nil)) (fun k x => impl_ascends.hf k x.1 x.2.1) k
noncomputable def b68 : Code := Try.f68.body.getD .skip
theorem e68 : OM.Entry Try.prog 68 := ⟨_, Try.func68, by kernel_rfl, by kernel_rfl⟩
@[reducible] noncomputable def impl_NodesOk.g : Sig := ⟨[.fz tConfig, .fz (.sl (.int .i64))], [.v .bool .z], []⟩
@[reducible] noncomputable def impl_NodesOk.fk : Nat → denI impl_NodesOk.g.pms → Option (denR (outTys impl_NodesOk.g.rts impl_NodesOk.g.pms)) := fun k x => impl_NodesOk.f k x.1 x.2.1
@[reducible] noncomputable def impl_NodesOk.sm (k : Nat) : Sm := ⟨68, impl_NodesOk.g.pms, impl_NodesOk.g.rts, impl_NodesOk.fk k⟩
noncomputable def impl_NodesOk.E (k : Nat) : Env := ⟨tys, [impl_ConfigOk.sm k, impl_ascends.sm k], [], [], []⟩
noncomputable def impl_NodesOk.pts : List (Pt (denR (outTys impl_NodesOk.g.rts impl_NodesOk.g.pms))) := []
theorem impl_NodesOk.hf (k : Nat) (a0 : Config) (a1 : (List Int)) : (impl_NodesOk.f k a0 a1 : Option (denR (outTys impl_NodesOk.g.rts impl_NodesOk.g.pms))) = evC (impl_NodesOk.E k) (fun κ s => lhOf k κ s impl_NodesOk.pts) b68 (OM.start impl_NodesOk.g.pms 0 (a0, a1, ())) (OM.fin impl_NodesOk.g Try.f68.results.toList) := by kernel_rfl
theorem impl_NodesOk.ok (k : Nat) : SmOk Try.prog (impl_NodesOk.sm k) :=
  sm_ok mixed (E := impl_NodesOk.E) (pts := impl_NodesOk.pts) (fun k => ⟨⟨tysOk, by kernel_rfl⟩, forall_cons ⟨impl_ConfigOk.ok k, e72⟩ (forall_cons ⟨impl_ascends.ok k, e116⟩ (forall_nil))⟩) (fun _ => rfl) (fun _ => rfl)
    ⟨Try.func68, by kernel_rfl, by kernel_rfl, by kernel_rfl, by kernel_rfl, by kernel_rfl, by kernel_rfl⟩ (forall_nil) (fun k x => impl_NodesOk.hf k x.1 x.2.1) k
noncomputable def b142 : Code := Try.f142.body.getD .skip
theorem e142 : OM.Entry Try.prog 142 := ⟨_, Try.func142, by kernel_rfl, by kernel_rfl⟩
@[reducible] noncomputable def slices_Index_int_int.g : Sig := ⟨[.fz (.sl (.int .i64)), .fz (.int .i64)], [.v (.int .i64) .z], []⟩
@[reducible] noncomputable def slices_Index_int_int.fk : Nat → denI slices_Index_int_int.g.pms → Option (denR (outTys slices_Index_int_int.g.rts slices_Index_int_int.g.pms)) := fun k x => slices_Index_int_int.f k x.1 x.2.1
@[reducible] noncomputable def slices_Index_int_int.sm (k : Nat) : Sm := ⟨142, slices_Index_int_int.g.pms, slices_Index_int_int.g.rts, slices_Index_int_int.fk k⟩
noncomputable def slices_Index_int_int.E (k : Nat) : Env := ⟨tys, [], [], [], []⟩
@[reducible] noncomputable def slices_Index_int_int.s5 : List Slot := [.v 0 (.sl (.int .i64)) .z [] 0, .v 4 (.int .i64) .z [] 0, .v 28 (.int .i64) .z [] 0, .v 32 (.int .i64) .z [] 0]
noncomputable def slices_Index_int_int.pts : List (Pt (denR (outTys slices_Index_int_int.g.rts slices_Index_int_int.g.pms))) := [⟨5, slices_Index_int_int.s5, fun k x => slices_Index_int_int.p5 k x.1 x.2.1 x.2.2.1 x.2.2.2.1⟩]
theorem slices_Index_int_int.h5 (k : Nat) (x0 : (List Int)) (x1 : Int) (x2 : Int) (x3 : Int) : (slices_Index_int_int.p5 (k + 1) x0 x1 x2 x3 : Option (denR (outTys slices_Index_int_int.g.rts slices_Index_int_int.g.pms))) = evAt (slices_Index_int_int.E k) (fun κ s => lhOf k κ s slices_Index_int_int.pts) 5 b142 (unproj slices_Index_int_int.s5 (x0, x1, x2, x3, ())) (OM.fin slices_Index_int_int.g Try.f142.results.toList) := by kernel_rfl
theorem slices_Index_int_int.hf (k : Nat) (a0 : (List Int)) (a1 : Int) : (slices_Index_int_int.f k a0 a1 : Option (denR (outTys slices_Index_int_int.g.rts slices_Index_int_int.g.pms))) = evC (slices_Index_int_int.E k) (fun κ s => lhOf k κ s slices_Index_int_int.pts) b142 (OM.start slices_Index_int_int.g.pms 0 (a0, a1, ())) (OM.fin slices_Index_int_int.g Try.f142.results.toList) := by kernel_rfl
theorem slices_Index_int_int.ok (k : Nat) : SmOk Try.prog (slices_Index_int_int.sm k) :=
  sm_ok mixed (E := slices_Index_int_int.E) (pts := slices_Index_int_int.pts) (fun k => ⟨⟨tysOk, by kernel_rfl⟩, forall_nil⟩) (fun _ => rfl) (fun _ => rfl)
    ⟨Try.func142, by kernel_rfl, by kernel_rfl, by kernel_rfl, by kernel_rfl, by kernel_rfl, by kernel_rfl⟩ (forall_cons (fun x => ⟨rfl, fun k => slices_Index_int_int.h5 k x.1 x.2.1 x.2.2.1 x.2.2.2.1⟩) (forall_nil)) (fun k x => slices_Index_int_int.hf k x.1 x.2.1) k
noncomputable def b117 : Code := Try.f117.body.getD .skip
theorem e117 : OM.Entry Try.prog 117 := ⟨_, Try.func117, by kernel_rfl, by kernel_rfl⟩
@[reducible] noncomputable def slices_Contains_int_int.g : Sig := ⟨[.fz (.sl (.int .i64)), .fz (.int .i64)], [.v .bool .z], []⟩
@[reducible] noncomputable def slices_Contains_int_int.fk : Nat → denI slices_Contains_int_int.g.pms → Option (denR (outTys slices_Contains_int_int.g.rts slices_Contains_int_int.g.pms)) := fun k x => slices_Contains_int_int.f k x.1 x.2.1
@[reducible] noncomputable def slices_Contains_int_int.sm (k : Nat) : Sm := ⟨117, slices_Contains_int_int.g.pms, slices_Contains_int_int.g.rts, slices_Contains_int_int.fk k⟩
noncomputable def slices_Contains_int_int.E (k : Nat) : Env := ⟨tys, [slices_Index_int_int.sm k], [], [], []⟩
noncomputable def slices_Contains_int_int.pts : List (Pt (denR (outTys slices_Contains_int_int.g.rts slices_Contains_int_int.g.pms))) := []
theorem slices_Contains_int_int.hf (k : Nat) (a0 : (List Int)) (a1 : Int) : (slices_Contains_int_int.f k a0 a1 : Option (denR (outTys slices_Contains_int_int.g.rts slices_Contains_int_int.g.pms))) = evC (slices_Contains_int_int.E k) (fun κ s => lhOf k κ s slices_Contains_int_int.pts) b117 (OM.start slices_Contains_int_int.g.pms 0 (a0, a1, ())) (OM.fin slices_Contains_int_int.g Try.f117.results.toList) := by kernel_rfl
theorem slices_Contains_int_int.ok (k : Nat) : SmOk Try.prog (slices_Contains_int_int.sm k) :=
  sm_ok mixed (E := slices_Contains_int_int.E) (pts := slices_Contains_int_int.pts) (fun k => ⟨⟨tysOk, by kernel_rfl⟩, forall_cons ⟨slices_Index_int_int.ok k, e142⟩ (forall_nil)⟩) (fun _ => rfl) (fun _ => rfl)
    ⟨Try.func117, by kernel_rfl, by kernel_rfl, by kernel_rfl, by kernel_rfl, by kernel_rfl, by kernel_rfl⟩ (forall_nil) (fun k x => slices_Contains_int_int.hf k x.1 x.2.1) k
noncomputable def b69 : Code := Try.f69.body.getD .skip
theorem e69 : OM.Entry Try.prog 69 := ⟨_, Try.func69, by kernel_rfl, by kernel_rfl⟩
@[reducible] noncomputable def impl_SpanOf.g : Sig := ⟨[.fz tConfig, .fz (.sl (.int .i64))], [.v (.int .i64) .z], []⟩
@[reducible] noncomputable def impl_SpanOf.fk : Nat → denI impl_SpanOf.g.pms → Option (denR (outTys impl_SpanOf.g.rts impl_SpanOf.g.pms)) := fun k x => impl_SpanOf.f k x.1 x.2.1
@[reducible] noncomputable def impl_SpanOf.sm (k : Nat) : Sm := ⟨69, impl_SpanOf.g.pms, impl_SpanOf.g.rts, impl_SpanOf.fk k⟩
noncomputable def impl_SpanOf.E (k : Nat) : Env := ⟨tys, [impl_NodesOk.sm k, slices_Contains_int_int.sm k], [18, 32], [], []⟩
@[reducible] noncomputable def impl_SpanOf.s11 : List Slot := [.r 8 9 [] tConfig, .v 20 (.sl (.int .i64)) (.own .z) [] 0, .v 52 (.sl (.int .i64)) .z [] 0, .v 56 (.int .i64) .z [] 0, .v 60 (.int .i64) .z [] 0, .v 9 tConfig .z [] 0]
noncomputable def impl_SpanOf.pts : List (Pt (denR (outTys impl_SpanOf.g.rts impl_SpanOf.g.pms))) := [⟨11, impl_SpanOf.s11, fun k x => impl_SpanOf.p11 k x.1 x.2.1 x.2.2.1 x.2.2.2.1 x.2.2.2.2.1⟩]
theorem impl_SpanOf.h11 (k : Nat) (x0 : (List Int)) (x1 : (List Int)) (x2 : Int) (x3 : Int) (x4 : Config) : (impl_SpanOf.p11 (k + 1) x0 x1 x2 x3 x4 : Option (denR (outTys impl_SpanOf.g.rts impl_SpanOf.g.pms))) = evAt (impl_SpanOf.E k) (fun κ s => lhOf k κ s impl_SpanOf.pts) 11 b69 (unproj impl_SpanOf.s11 (x0, x1, x2, x3, x4, ())) (OM.fin impl_SpanOf.g Try.f69.results.toList) := by kernel_rfl
theorem impl_SpanOf.hf (k : Nat) (a0 : Config) (a1 : (List Int)) : (impl_SpanOf.f k a0 a1 : Option (denR (outTys impl_SpanOf.g.rts impl_SpanOf.g.pms))) = evC (impl_SpanOf.E k) (fun κ s => lhOf k κ s impl_SpanOf.pts) b69 (OM.start impl_SpanOf.g.pms 0 (a0, a1, ())) (OM.fin impl_SpanOf.g Try.f69.results.toList) := by kernel_rfl
theorem impl_SpanOf.ok (k : Nat) : SmOk Try.prog (impl_SpanOf.sm k) :=
  sm_ok mixed (E := impl_SpanOf.E) (pts := impl_SpanOf.pts) (fun k => ⟨⟨tysOk, by kernel_rfl⟩, forall_cons ⟨impl_NodesOk.ok k, e68⟩ (forall_cons ⟨slices_Contains_int_int.ok k, e117⟩ (forall_nil))⟩) (fun _ => rfl) (fun _ => rfl)
    ⟨Try.func69, by kernel_rfl, by kernel_rfl, by kernel_rfl, by kernel_rfl, by kernel_rfl, by kernel_rfl⟩ (forall_cons (fun x => ⟨rfl, fun k => impl_SpanOf.h11 k x.1 x.2.1 x.2.2.1 x.2.2.2.1 x.2.2.2.2.1⟩) (forall_nil)) (fun k x => impl_SpanOf.hf k x.1 x.2.1) k
noncomputable def b25 : Code := Try.f25.body.getD .skip
theorem e25 : OM.Entry Try.prog 25 := ⟨_, Try.func25, by kernel_rfl, by kernel_rfl⟩
@[reducible] noncomputable def impl_Holds.g : Sig := ⟨[.fz tConfig, .fz (.sl (.int .i64))], [.v .bool .z], []⟩
@[reducible] noncomputable def impl_Holds.fk : Nat → denI impl_Holds.g.pms → Option (denR (outTys impl_Holds.g.rts impl_Holds.g.pms)) := fun k x => impl_Holds.f k x.1 x.2.1
@[reducible] noncomputable def impl_Holds.sm (k : Nat) : Sm := ⟨25, impl_Holds.g.pms, impl_Holds.g.rts, impl_Holds.fk k⟩
noncomputable def impl_Holds.E (k : Nat) : Env := ⟨tys, [impl_NodesOk.sm k, impl_SpanOf.sm k], [], [], []⟩
noncomputable def impl_Holds.pts : List (Pt (denR (outTys impl_Holds.g.rts impl_Holds.g.pms))) := []
theorem impl_Holds.hf (k : Nat) (a0 : Config) (a1 : (List Int)) : (impl_Holds.f k a0 a1 : Option (denR (outTys impl_Holds.g.rts impl_Holds.g.pms))) = evC (impl_Holds.E k) (fun κ s => lhOf k κ s impl_Holds.pts) b25 (OM.start impl_Holds.g.pms 0 (a0, a1, ())) (OM.fin impl_Holds.g Try.f25.results.toList) := by kernel_rfl
theorem impl_Holds.ok (k : Nat) : SmOk Try.prog (impl_Holds.sm k) :=
  sm_ok mixed (E := impl_Holds.E) (pts := impl_Holds.pts) (fun k => ⟨⟨tysOk, by kernel_rfl⟩, forall_cons ⟨impl_NodesOk.ok k, e68⟩ (forall_cons ⟨impl_SpanOf.ok k, e69⟩ (forall_nil))⟩) (fun _ => rfl) (fun _ => rfl)
    ⟨Try.func25, by kernel_rfl, by kernel_rfl, by kernel_rfl, by kernel_rfl, by kernel_rfl, by kernel_rfl⟩ (forall_nil) (fun k x => impl_Holds.hf k x.1 x.2.1) k
noncomputable def b71 : Code := Try.f71.body.getD .skip
theorem e71 : OM.Entry Try.prog 71 := ⟨_, Try.func71, by kernel_rfl, by kernel_rfl⟩
@[reducible] noncomputable def impl_flagNum.g : Sig := ⟨[.fz .bool], [.v (.int .i64) .z], []⟩
@[reducible] noncomputable def impl_flagNum.fk : Nat → denI impl_flagNum.g.pms → Option (denR (outTys impl_flagNum.g.rts impl_flagNum.g.pms)) := fun k x => impl_flagNum.f x.1
@[reducible] noncomputable def impl_flagNum.sm (k : Nat) : Sm := ⟨71, impl_flagNum.g.pms, impl_flagNum.g.rts, impl_flagNum.fk k⟩
noncomputable def impl_flagNum.E (k : Nat) : Env := ⟨tys, [], [], [], []⟩
noncomputable def impl_flagNum.pts : List (Pt (denR (outTys impl_flagNum.g.rts impl_flagNum.g.pms))) := []
theorem impl_flagNum.hf (k : Nat) (a0 : Bool) : (impl_flagNum.f a0 : Option (denR (outTys impl_flagNum.g.rts impl_flagNum.g.pms))) = evC (impl_flagNum.E k) (fun κ s => lhOf k κ s impl_flagNum.pts) b71 (OM.start impl_flagNum.g.pms 0 (a0, ())) (OM.fin impl_flagNum.g Try.f71.results.toList) := by kernel_rfl
theorem impl_flagNum.ok (k : Nat) : SmOk Try.prog (impl_flagNum.sm k) :=
  sm_ok mixed (E := impl_flagNum.E) (pts := impl_flagNum.pts) (fun k => ⟨⟨tysOk, by kernel_rfl⟩, forall_nil⟩) (fun _ => rfl) (fun _ => rfl)
    ⟨Try.func71, by kernel_rfl, by kernel_rfl, by kernel_rfl, by kernel_rfl, by kernel_rfl, by kernel_rfl⟩ (forall_nil) (fun k x => impl_flagNum.hf k x.1) k
noncomputable def b73 : Code := Try.f73.body.getD .skip
theorem e73 : OM.Entry Try.prog 73 := ⟨_, Try.func73, by kernel_rfl, by kernel_rfl⟩
@[reducible] noncomputable def impl_isEpoch.g : Sig := ⟨[.fz (.int .i64)], [.v .bool .z], []⟩
@[reducible] noncomputable def impl_isEpoch.fk : Nat → denI impl_isEpoch.g.pms → Option (denR (outTys impl_isEpoch.g.rts impl_isEpoch.g.pms)) := fun k x => impl_isEpoch.f x.1
@[reducible] noncomputable def impl_isEpoch.sm (k : Nat) : Sm := ⟨73, impl_isEpoch.g.pms, impl_isEpoch.g.rts, impl_isEpoch.fk k⟩
noncomputable def impl_isEpoch.E (k : Nat) : Env := ⟨tys, [impl_within.sm k], [], [], []⟩
noncomputable def impl_isEpoch.pts : List (Pt (denR (outTys impl_isEpoch.g.rts impl_isEpoch.g.pms))) := []
theorem impl_isEpoch.hf (k : Nat) (a0 : Int) : (impl_isEpoch.f a0 : Option (denR (outTys impl_isEpoch.g.rts impl_isEpoch.g.pms))) = evC (impl_isEpoch.E k) (fun κ s => lhOf k κ s impl_isEpoch.pts) b73 (OM.start impl_isEpoch.g.pms 0 (a0, ())) (OM.fin impl_isEpoch.g Try.f73.results.toList) := by kernel_rfl
theorem impl_isEpoch.ok (k : Nat) : SmOk Try.prog (impl_isEpoch.sm k) :=
  sm_ok mixed (E := impl_isEpoch.E) (pts := impl_isEpoch.pts) (fun k => ⟨⟨tysOk, by kernel_rfl⟩, forall_cons ⟨impl_within.ok k, e62⟩ (forall_nil)⟩) (fun _ => rfl) (fun _ => rfl)
    ⟨Try.func73, by kernel_rfl, by kernel_rfl, by kernel_rfl, by kernel_rfl, by kernel_rfl, by kernel_rfl⟩ (forall_nil) (fun k x => impl_isEpoch.hf k x.1) k
noncomputable def b28 : Code := Try.f28.body.getD .skip
theorem e28 : OM.Entry Try.prog 28 := ⟨_, Try.func28, by kernel_rfl, by kernel_rfl⟩
@[reducible] noncomputable def impl_WriterOk.g : Sig := ⟨[.fz tConfig, .fz tWriter], [.v .bool .z], []⟩
@[reducible] noncomputable def impl_WriterOk.fk : Nat → denI impl_WriterOk.g.pms → Option (denR (outTys impl_WriterOk.g.rts impl_WriterOk.g.pms)) := fun k x => impl_WriterOk.f k x.1 x.2.1
@[reducible] noncomputable def impl_WriterOk.sm (k : Nat) : Sm := ⟨28, impl_WriterOk.g.pms, impl_WriterOk.g.rts, impl_WriterOk.fk k⟩
noncomputable def impl_WriterOk.E (k : Nat) : Env := ⟨tys, [impl_dataOk.sm k, impl_ConfigOk.sm k, impl_NodesOk.sm k, impl_Holds.sm k, impl_flagNum.sm k, impl_isEpoch.sm k], [14], [], [4]⟩
@[reducible] noncomputable def impl_WriterOk.s7 : List Slot := [.r 8 9 [] tConfig, .r 12 13 [] tWriter, .v 20 (.int .i64) .z [] 0, .v 36 (.sl tWord) .z [] 0, .v 40 (.int .i64) .z [] 0, .v 44 (.int .i64) .z [] 0, .v 9 tConfig .z [] 0, .v 13 tWriter .z [] 0]
noncomputable def impl_WriterOk.pts : List (Pt (denR (outTys impl_WriterOk.g.rts impl_WriterOk.g.pms))) := [⟨7, impl_WriterOk.s7, fun k x => impl_WriterOk.p7 k x.1 x.2.1 x.2.2.1 x.2.2.2.1 x.2.2.2.2.1 x.2.2.2.2.2.1⟩]
theorem impl_WriterOk.h7 (k : Nat) (x0 : Int) (x1 : (List Word)) (x2 : Int) (x3 : Int) (x4 : Config) (x5 : Writer) : (impl_WriterOk.p7 (k + 1) x0 x1 x2 x3 x4 x5 : Option (denR (outTys impl_WriterOk.g.rts impl_WriterOk.g.pms))) = evAt (impl_WriterOk.E k) (fun κ s => lhOf k κ s impl_WriterOk.pts) 7 b28 (unproj impl_WriterOk.s7 (x0, x1, x2, x3, x4, x5, ())) (OM.fin impl_WriterOk.g Try.f28.results.toList) := by kernel_rfl
theorem impl_WriterOk.hf (k : Nat) (a0 : Config) (a1 : Writer) : (impl_WriterOk.f k a0 a1 : Option (denR (outTys impl_WriterOk.g.rts impl_WriterOk.g.pms))) = evC (impl_WriterOk.E k) (fun κ s => lhOf k κ s impl_WriterOk.pts) b28 (OM.start impl_WriterOk.g.pms 0 (a0, a1, ())) (OM.fin impl_WriterOk.g Try.f28.results.toList) := by kernel_rfl
theorem impl_WriterOk.ok (k : Nat) : SmOk Try.prog (impl_WriterOk.sm k) :=
  sm_ok mixed (E := impl_WriterOk.E) (pts := impl_WriterOk.pts) (fun k => ⟨⟨tysOk, by kernel_rfl⟩, forall_cons ⟨impl_dataOk.ok k, e70⟩ (forall_cons ⟨impl_ConfigOk.ok k, e72⟩ (forall_cons ⟨impl_NodesOk.ok k, e68⟩ (forall_cons ⟨impl_Holds.ok k, e25⟩ (forall_cons ⟨impl_flagNum.ok k, e71⟩ (forall_cons ⟨impl_isEpoch.ok k, e73⟩ (forall_nil))))))⟩) (fun _ => rfl) (fun _ => rfl)
    ⟨Try.func28, by kernel_rfl, by kernel_rfl, by kernel_rfl, by kernel_rfl, by kernel_rfl, by kernel_rfl⟩ (forall_cons (fun x => ⟨rfl, fun k => impl_WriterOk.h7 k x.1 x.2.1 x.2.2.1 x.2.2.2.1 x.2.2.2.2.1 x.2.2.2.2.2.1⟩) (forall_nil)) (fun k x => impl_WriterOk.hf k x.1 x.2.1) k
noncomputable def b105 : Code := Try.f105.body.getD .skip
theorem e105 : OM.Entry Try.prog 105 := ⟨_, Try.func105, by kernel_rfl, by kernel_rfl⟩
@[reducible] noncomputable def impl_copyInts.g : Sig := ⟨[.fz (.sl (.int .i64))], [.v (.sl (.int .i64)) (.own .z)], []⟩
@[reducible] noncomputable def impl_copyInts.fk : Nat → denI impl_copyInts.g.pms → Option (denR (outTys impl_copyInts.g.rts impl_copyInts.g.pms)) := fun k x => impl_copyInts.f x.1
@[reducible] noncomputable def impl_copyInts.sm (k : Nat) : Sm := ⟨105, impl_copyInts.g.pms, impl_copyInts.g.rts, impl_copyInts.fk k⟩
noncomputable def impl_copyInts.E (k : Nat) : Env := ⟨tys, [], [4], [], []⟩
noncomputable def impl_copyInts.pts : List (Pt (denR (outTys impl_copyInts.g.rts impl_copyInts.g.pms))) := []
theorem impl_copyInts.hf (k : Nat) (a0 : (List Int)) : (impl_copyInts.f a0 : Option (denR (outTys impl_copyInts.g.rts impl_copyInts.g.pms))) = evC (impl_copyInts.E k) (fun κ s => lhOf k κ s impl_copyInts.pts) b105 (OM.start impl_copyInts.g.pms 0 (a0, ())) (OM.fin impl_copyInts.g Try.f105.results.toList) := by kernel_rfl
theorem impl_copyInts.ok (k : Nat) : SmOk Try.prog (impl_copyInts.sm k) :=
  sm_ok mixed (E := impl_copyInts.E) (pts := impl_copyInts.pts) (fun k => ⟨⟨tysOk, by kernel_rfl⟩, forall_nil⟩) (fun _ => rfl) (fun _ => rfl)
    ⟨Try.func105, by kernel_rfl, by kernel_rfl, by kernel_rfl, by kernel_rfl, by kernel_rfl, by kernel_rfl⟩ (forall_nil) (fun k x => impl_copyInts.hf k x.1) k
noncomputable def b53 : Code := Try.f53.body.getD .skip
theorem e53 : OM.Entry Try.prog 53 := ⟨_, Try.func53, by kernel_rfl, by kernel_rfl⟩
@[reducible] noncomputable def impl_copyWriter.g : Sig := ⟨[.fz tWriter], [.v tWriter (.two .z (.two (.own (.two .z (.two (.own .z) .z))) .z))], []⟩
@[reducible] noncomputable def impl_copyWriter.fk : Nat → denI impl_copyWriter.g.pms → Option (denR (outTys impl_copyWriter.g.rts impl_copyWriter.g.pms)) := fun k x => impl_copyWriter.f k x.1
@[reducible] noncomputable def impl_copyWriter.sm (k : Nat) : Sm := ⟨53, impl_copyWriter.g.pms, impl_copyWriter.g.rts, impl_copyWriter.fk k⟩
noncomputable def impl_copyWriter.E (k : Nat) : Env := ⟨tys, [impl_copyInts.sm k], [15, 22], [], []⟩
@[reducible] noncomputable def impl_copyWriter.s7 : List Slot := [.r 8 9 [] tWriter, .r 12 13 [] tWriter, .v 40 (.sl tWord) .z [] 0, .v 44 (.int .i64) .z [] 0, .v 48 (.int .i64) .z [] 0, .v 9 tWriter (.two .z (.two (.own .a) .z)) [] 0, .v 13 tWriter (.two .z (.two (.own (.two .z (.two (.own .z) .z))) .z)) [] 0]
noncomputable def impl_copyWriter.pts : List (Pt (denR (outTys impl_copyWriter.g.rts impl_copyWriter.g.pms))) := [⟨7, impl_copyWriter.s7, fun k x => impl_copyWriter.p7 k x.1 x.2.1 x.2.2.1 x.2.2.2.1 x.2.2.2.2.1⟩]
theorem impl_copyWriter.h7 (k : Nat) (x0 : (List Word)) (x1 : Int) (x2 : Int) (x3 : Writer) (x4 : Writer) : (impl_copyWriter.p7 (k + 1) x0 x1 x2 x3 x4 : Option (denR (outTys impl_copyWriter.g.rts impl_copyWriter.g.pms))) = evAt (impl_copyWriter.E k) (fun κ s => lhOf k κ s impl_copyWriter.pts) 7 b53 (unproj impl_copyWriter.s7 (x0, x1, x2, x3, x4, ())) (OM.fin impl_copyWriter.g Try.f53.results.toList) := by kernel_rfl
theorem impl_copyWriter.hf (k : Nat) (a0 : Writer) : (impl_copyWriter.f k a0 : Option (denR (outTys impl_copyWriter.g.rts impl_copyWriter.g.pms))) = evC (impl_copyWriter.E k) (fun κ s => lhOf k κ s impl_copyWriter.pts) b53 (OM.start impl_copyWriter.g.pms 0 (a0, ())) (OM.fin impl_copyWriter.g Try.f53.results.toList) := by kernel_rfl
theorem impl_copyWriter.ok (k : Nat) : SmOk Try.prog (impl_copyWriter.sm k) :=
  sm_ok mixed (E := impl_copyWriter.E) (pts := impl_copyWriter.pts) (fun k => ⟨⟨tysOk, by kernel_rfl⟩, forall_cons ⟨impl_copyInts.ok k, e105⟩ (forall_nil)⟩) (fun _ => rfl) (fun _ => rfl)
    ⟨Try.func53, by kernel_rfl, by kernel_rfl, by kernel_rfl, by kernel_rfl, by kernel_rfl, by kernel_rfl⟩ (forall_cons (fun x => ⟨rfl, fun k => impl_copyWriter.h7 k x.1 x.2.1 x.2.2.1 x.2.2.2.1 x.2.2.2.2.1⟩) (forall_nil)) (fun k x => impl_copyWriter.hf k x.1) k
noncomputable def b63 : Code := Try.f63.body.getD .skip
theorem e63 : OM.Entry Try.prog 63 := ⟨_, Try.func63, by kernel_rfl, by kernel_rfl⟩
@[reducible] noncomputable def impl_writerAsWas.g : Sig := ⟨[.fz tConfig, .fz tWriter], [.v tWriter (.two .z (.two (.own (.two .z (.two (.own .z) .z))) .z))], []⟩
@[reducible] noncomputable def impl_writerAsWas.fk : Nat → denI impl_writerAsWas.g.pms → Option (denR (outTys impl_writerAsWas.g.rts impl_writerAsWas.g.pms)) := fun k x => impl_writerAsWas.f k x.1 x.2.1
@[reducible] noncomputable def impl_writerAsWas.sm (k : Nat) : Sm := ⟨63, impl_writerAsWas.g.pms, impl_writerAsWas.g.rts, impl_writerAsWas.fk k⟩
noncomputable def impl_writerAsWas.E (k : Nat) : Env := ⟨tys, [impl_WriterOk.sm k, impl_copyWriter.sm k], [], [], []⟩
noncomputable def impl_writerAsWas.pts : List (Pt (denR (outTys impl_writerAsWas.g.rts impl_writerAsWas.g.pms))) := []
theorem impl_writerAsWas.hf (k : Nat) (a0 : Config) (a1 : Writer) : (impl_writerAsWas.f k a0 a1 : Option (denR (outTys impl_writerAsWas.g.rts impl_writerAsWas.g.pms))) = evC (impl_writerAsWas.E k) (fun κ s => lhOf k κ s impl_writerAsWas.pts) b63 (OM.start impl_writerAsWas.g.pms 0 (a0, a1, ())) (OM.fin impl_writerAsWas.g Try.f63.results.toList) := by kernel_rfl
theorem impl_writerAsWas.ok (k : Nat) : SmOk Try.prog (impl_writerAsWas.sm k) :=
  sm_ok mixed (E := impl_writerAsWas.E) (pts := impl_writerAsWas.pts) (fun k => ⟨⟨tysOk, by kernel_rfl⟩, forall_cons ⟨impl_WriterOk.ok k, e28⟩ (forall_cons ⟨impl_copyWriter.ok k, e53⟩ (forall_nil))⟩) (fun _ => rfl) (fun _ => rfl)
    ⟨Try.func63, by kernel_rfl, by kernel_rfl, by kernel_rfl, by kernel_rfl, by kernel_rfl, by kernel_rfl⟩ (forall_nil) (fun k x => impl_writerAsWas.hf k x.1 x.2.1) k
noncomputable def b150 : Code := Try.f150.body.getD .skip
theorem e150 : OM.Entry Try.prog 150 := ⟨_, Try.func150, by kernel_rfl, by kernel_rfl⟩
@[reducible] noncomputable def cmp_isNaN_int.g : Sig := ⟨[.fz (.int .i64)], [.v .bool .z], []⟩
@[reducible] noncomputable def cmp_isNaN_int.fk : Nat → denI cmp_isNaN_int.g.pms → Option (denR (outTys cmp_isNaN_int.g.rts cmp_isNaN_int.g.pms)) := fun k x => cmp_isNaN_int.f x.1
@[reducible] noncomputable def cmp_isNaN_int.sm (k : Nat) : Sm := ⟨150, cmp_isNaN_int.g.pms, cmp_isNaN_int.g.rts, cmp_isNaN_int.fk k⟩
noncomputable def cmp_isNaN_int.E (k : Nat) : Env := ⟨tys, [], [], [], []⟩
noncomputable def cmp_isNaN_int.pts : List (Pt (denR (outTys cmp_isNaN_int.g.rts cmp_isNaN_int.g.pms))) := []
theorem cmp_isNaN_int.hf (k : Nat) (a0 : Int) : (cmp_isNaN_int.f a0 : Option (denR (outTys cmp_isNaN_int.g.rts cmp_isNaN_int.g.pms))) = evC (cmp_isNaN_int.E k) (fun κ s => lhOf k κ s cmp_isNaN_int.pts) b150 (OM.start cmp_isNaN_int.g.pms 0 (a0, ())) (OM.fin cmp_isNaN_int.g Try.f150.results.toList) := by kernel_rfl
theorem cmp_isNaN_int.ok (k : Nat) : SmOk Try.prog (cmp_isNaN_int.sm k) :=
  sm_ok mixed (E := cmp_isNaN_int.E) (pts := cmp_isNaN_int.pts) (fun k => ⟨⟨tysOk, by kernel_rfl⟩, forall_nil⟩) (fun _ => rfl) (fun _ => rfl)
    ⟨Try.func150, by kernel_rfl, by kernel_rfl, by kernel_rfl, by kernel_rfl, by kernel_rfl, by kernel_rfl⟩ (forall_nil) (fun k x => cmp_isNaN_int.hf k x.1) k
noncomputable def b138 : Code := Try.f138.body.getD .skip
theorem e138 : OM.Entry Try.prog 138 := ⟨_, Try.func138, by kernel_rfl, by kernel_rfl⟩
@[reducible] noncomputable def cmp_Less_int.g : Sig := ⟨[.fz (.int .i64), .fz (.int .i64)], [.v .bool .z], []⟩
@[reducible] noncomputable def cmp_Less_int.fk : Nat → denI cmp_Less_int.g.pms → Option (denR (outTys cmp_Less_int.g.rts cmp_Less_int.g.pms)) := fun k x => cmp_Less_int.f x.1 x.2.1
@[reducible] noncomputable def cmp_Less_int.sm (k : Nat) : Sm := ⟨138, cmp_Less_int.g.pms, cmp_Less_int.g.rts, cmp_Less_int.fk k⟩
noncomputable def cmp_Less_int.E (k : Nat) : Env := ⟨tys, [cmp_isNaN_int.sm k], [], [], []⟩
noncomputable def cmp_Less_int.pts : List (Pt (denR (outTys cmp_Less_int.g.rts cmp_Less_int.g.pms))) := []
theorem cmp_Less_int.hf (k : Nat) (a0 : Int) (a1 : Int) : (cmp_Less_int.f a0 a1 : Option (denR (outTys cmp_Less_int.g.rts cmp_Less_int.g.pms))) = evC (cmp_Less_int.E k) (fun κ s => lhOf k κ s cmp_Less_int.pts) b138 (OM.start cmp_Less_int.g.pms 0 (a0, a1, ())) (OM.fin cmp_Less_int.g Try.f138.results.toList) := by kernel_rfl
theorem cmp_Less_int.ok (k : Nat) : SmOk Try.prog (cmp_Less_int.sm k) :=
  sm_ok mixed (E := cmp_Less_int.E) (pts := cmp_Less_int.pts) (fun k => ⟨⟨tysOk, by kernel_rfl⟩, forall_cons ⟨cmp_isNaN_int.ok k, e150⟩ (forall_nil)⟩) (fun _ => rfl) (fun _ => rfl)
    ⟨Try.func138, by kernel_rfl, by kernel_rfl, by kernel_rfl, by kernel_rfl, by kernel_rfl, by kernel_rfl⟩ (forall_nil) (fun k x => cmp_Less_int.hf k x.1 x.2.1) k
noncomputable def b139 : Code := Try.f139.body.getD .skip
theorem e139 : OM.Entry Try.prog 139 := ⟨_, Try.func139, by kernel_rfl, by kernel_rfl⟩
@[reducible] noncomputable def slices_isNaN_int.g : Sig := ⟨[.fz (.int .i64)], [.v .bool .z], []⟩
@[reducible] noncomputable def slices_isNaN_int.fk : Nat → denI slices_isNaN_int.g.pms → Option (denR (outTys slices_isNaN_int.g.rts slices_isNaN_int.g.pms)) := fun k x => slices_isNaN_int.f x.1
@[reducible] noncomputable def slices_isNaN_int.sm (k : Nat) : Sm := ⟨139, slices_isNaN_int.g.pms, slices_isNaN_int.g.rts, slices_isNaN_int.fk k⟩
noncomputable def slices_isNaN_int.E (k : Nat) : Env := ⟨tys, [], [], [], []⟩
noncomputable def slices_isNaN_int.pts : List (Pt (denR (outTys slices_isNaN_int.g.rts slices_isNaN_int.g.pms))) := []
theorem slices_isNaN_int.hf (k : Nat) (a0 : Int) : (slices_isNaN_int.f a0 : Option (denR (outTys slices_isNaN_int.g.rts slices_isNaN_int.g.pms))) = evC (slices_isNaN_int.E k) (fun κ s => lhOf k κ s slices_isNaN_int.pts) b139 (OM.start slices_isNaN_int.g.pms 0 (a0, ())) (OM.fin slices_isNaN_int.g Try.f139.results.toList) := by kernel_rfl
theorem slices_isNaN_int.ok (k : Nat) : SmOk Try.prog (slices_isNaN_int.sm k) :=
  sm_ok mixed (E := slices_isNaN_int.E) (pts := slices_isNaN_int.pts) (fun k => ⟨⟨tysOk, by kernel_rfl⟩, forall_nil⟩) (fun _ => rfl) (fun _ => rfl)
    ⟨Try.func139, by kernel_rfl, by kernel_rfl, by kernel_rfl, by kernel_rfl, by kernel_rfl, by kernel_rfl⟩ (forall_nil) (fun k x => slices_isNaN_int.hf k x.1) k
noncomputable def b113 : Code := Try.f113.body.getD .skip
theorem e113 : OM.Entry Try.prog 113 := ⟨_, Try.func113, by kernel_rfl, by kernel_rfl⟩
@[reducible] noncomputable def slices_BinarySearch_int_int.g : Sig := ⟨[.fz (.sl (.int .i64)), .fz (.int .i64)], [.v (.int .i64) .z, .v .bool .z], []⟩
@[reducible] noncomputable def slices_BinarySearch_int_int.fk : Nat → denI slices_BinarySearch_int_int.g.pms → Option (denR (outTys slices_BinarySearch_int_int.g.rts slices_BinarySearch_int_int.g.pms)) := fun k x => slices_BinarySearch_int_int.f k x.1 x.2.1
@[reducible] noncomputable def slices_BinarySearch_int_int.sm (k : Nat) : Sm := ⟨113, slices_BinarySearch_int_int.g.pms, slices_BinarySearch_int_int.g.rts, slices_BinarySearch_int_int.fk k⟩
noncomputable def slices_BinarySearch_int_int.E (k : Nat) : Env := ⟨tys, [cmp_Less_int.sm k, slices_isNaN_int.sm k], [30], [], []⟩
@[reducible] noncomputable def slices_BinarySearch_int_int.s7 : List Slot := [.v 0 (.sl (.int .i64)) .z [] 0, .v 4 (.int .i64) .z [] 0, .v 24 (.int .i64) .z [] 0, .v 28 (.int .i64) .z [] 0, .v 32 (.int .i64) .z [] 0]
noncomputable def slices_BinarySearch_int_int.pts : List (Pt (denR (outTys slices_BinarySearch_int_int.g.rts slices_BinarySearch_int_int.g.pms))) := [⟨7, slices_BinarySearch_int_int.s7, fun k x => slices_BinarySearch_int_int.p7 k x.1 x.2.1 x.2.2.1 x.2.2.2.1 x.2.2.2.2.1⟩]
theorem slices_BinarySearch_int_int.h7 (k : Nat) (x0 : (List Int)) (x1 : Int) (x2 : Int) (x3 : Int) (x4 : Int) : (slices_BinarySearch_int_int.p7 (k + 1) x0 x1 x2 x3 x4 : Option (denR (outTys slices_BinarySearch_int_int.g.rts slices_BinarySearch_int_int.g.pms))) = evAt (slices_BinarySearch_int_int.E k) (fun κ s => lhOf k κ s slices_BinarySearch_int_int.pts) 7 b113 (unproj slices_BinarySearch_int_int.s7 (x0, x1, x2, x3, x4, ())) (OM.fin slices_BinarySearch_int_int.g Try.f113.results.toList) := by kernel_rfl
theorem slices_BinarySearch_int_int.hf (k : Nat) (a0 : (List Int)) (a1 : Int) : (slices_BinarySearch_int_int.f k a0 a1 : Option (denR (outTys slices_BinarySearch_int_int.g.rts slices_BinarySearch_int_int.g.pms))) = evC (slices_BinarySearch_int_int.E k) (fun κ s => lhOf k κ s slices_BinarySearch_int_int.pts) b113 (OM.start slices_BinarySearch_int_int.g.pms 0 (a0, a1, ())) (OM.fin slices_BinarySearch_int_int.g Try.f113.results.toList) := by kernel_rfl
theorem slices_BinarySearch_int_int.ok (k : Nat) : SmOk Try.prog (slices_BinarySearch_int_int.sm k) :=
  sm_ok mixed (E := slices_BinarySearch_int_int.E) (pts := slices_BinarySearch_int_int.pts) (fun k => ⟨⟨tysOk, by kernel_rfl⟩, forall_cons ⟨cmp_Less_int.ok k, e138⟩ (forall_cons ⟨slices_isNaN_int.ok k, e139⟩ (forall_nil))⟩) (fun _ => rfl) (fun _ => rfl)
    ⟨Try.func113, by kernel_rfl, by kernel_rfl, by kernel_rfl, by kernel_rfl, by kernel_rfl, by kernel_rfl⟩ (forall_cons (fun x => ⟨rfl, fun k => slices_BinarySearch_int_int.h7 k x.1 x.2.1 x.2.2.1 x.2.2.2.1 x.2.2.2.2.1⟩) (forall_nil)) (fun k x => slices_BinarySearch_int_int.hf k x.1 x.2.1) k
noncomputable def b114 : Code := Try.f114.body.getD .skip
theorem e114 : OM.Entry Try.prog 114 := ⟨_, Try.func114, by kernel_rfl, by kernel_rfl⟩
noncomputable def slices_Insert_int_int.rho : Shelf.Ren := ⟨fun n => cond (Nat.beq n 21) 114 (cond (Nat.beq n 27) 140 (cond (Nat.beq n 28) 141 (n))), fun n => cond (Nat.beq n 22) 22 (cond (Nat.beq n 0) 0 (cond (Nat.beq n 3) 3 (cond (Nat.beq n 4) 4 (n)))), fun n => n⟩
theorem slices_Insert_int_int.lay : InsF Try.prog slices_Insert_int_int.rho 3 (Ty.size (.int .i64)) 8 (.int .i64 0) := { mixed := mixed, f21 := ⟨"slices.Insert[[]int,int]", #[22, 3], by kernel_rfl, (Try.func114).trans (congrArg some (by kernel_rfl))⟩, ov := fun args w => run_callFunc_extern (P := Try.prog) (f := 140) Try.func140 (by kernel_rfl) (by kernel_rfl) (by kernel_rfl) (e := Extern.SlicesOverlaps.overlaps #[22, 22] #[4]) (by kernel_rfl) args w, t0 := Try.underlying0, a0 := Try.isAgg0, z0 := Try.sizeOf0, v0 := Try.zeroValue0, t3 := Try.underlying3, a3 := Try.isAgg3, z3 := Try.sizeOf3, v3 := Try.zeroValue3, t4 := Try.underlying4, a4 := Try.isAgg4, z4 := Try.sizeOf4, v4 := Try.zeroValue4, t22 := Try.underlying22, a22 := Try.isAgg22, z22 := Try.sizeOf22, v22 := Try.zeroValue22, ie := by kernel_rfl, ze := Try.sizeOf3 }
@[reducible] noncomputable def slices_Insert_int_int.g : Sig := ⟨[.own (.sl (.int .i64)) (.own .z), .fz (.int .i64), .fz (.sl (.int .i64))], [.v (.sl (.int .i64)) (.own .z)], []⟩
@[reducible] noncomputable def slices_Insert_int_int.fk : Nat → denI slices_Insert_int_int.g.pms → Option (denR (outTys slices_Insert_int_int.g.rts slices_Insert_int_int.g.pms)) := fun k x => slices_Insert_int_int.f x.1 x.2.1 x.2.2.1
@[reducible] noncomputable def slices_Insert_int_int.sm (k : Nat) : Sm := ⟨114, slices_Insert_int_int.g.pms, slices_Insert_int_int.g.rts, slices_Insert_int_int.fk k⟩
theorem slices_Insert_int_int.ok (k : Nat) : SmOk Try.prog (slices_Insert_int_int.sm k) :=
  ins_ok (E := ⟨tys, [], [], [], []⟩) ⟨tysOk, rfl⟩ slices_Insert_int_int.lay (by kernel_rfl) (by decide) (by kernel_rfl) (by decide)

noncomputable def b64 : Code := Try.f64.body.getD .skip
theorem e64 : OM.Entry Try.prog 64 := ⟨_, Try.func64, by kernel_rfl, by kernel_rfl⟩
@[reducible] noncomputable def impl_withNode.g : Sig := ⟨[.fz (.sl (.int .i64)), .fz (.int .i64)], [.v (.sl (.int .i64)) (.own .z)], []⟩
@[reducible] noncomputable def impl_withNode.fk : Nat → denI impl_withNode.g.pms → Option (denR (outTys impl_withNode.g.rts impl_withNode.g.pms)) := fun k x => impl_withNode.f k x.1 x.2.1
@[reducible] noncomputable def impl_withNode.sm (k : Nat) : Sm := ⟨64, impl_withNode.g.pms, impl_withNode.g.rts, impl_withNode.fk k⟩
noncomputable def impl_withNode.E (k : Nat) : Env := ⟨tys, [impl_copyInts.sm k, slices_BinarySearch_int_int.sm k, slices_Insert_int_int.sm k], [20], [], []⟩
noncomputable def impl_withNode.pts : List (Pt (denR (outTys impl_withNode.g.rts impl_withNode.g.pms))) := []
theorem impl_withNode.hf (k : Nat) (a0 : (List Int)) (a1 : Int) : (impl_withNode.f k a0 a1 : Option (denR (outTys impl_withNode.g.rts impl_withNode.g.pms))) = evC (impl_withNode.E k) (fun κ s => lhOf k κ s impl_withNode.pts) b64 (OM.start impl_withNode.g.pms 0 (a0, a1, ())) (OM.fin impl_withNode.g Try.f64.results.toList) := by kernel_rfl
theorem impl_withNode.ok (k : Nat) : SmOk Try.prog (impl_withNode.sm k) :=
  sm_ok mixed (E := impl_withNode.E) (pts := impl_withNode.pts) (fun k => ⟨⟨tysOk, by kernel_rfl⟩, forall_cons ⟨impl_copyInts.ok k, e105⟩ (forall_cons ⟨slices_BinarySearch_int_int.ok k, e113⟩ (forall_cons ⟨slices_Insert_int_int.ok k, e114⟩ (forall_nil)))⟩) (fun _ => rfl) (fun _ => rfl)
    ⟨Try.func64, by kernel_rfl, by kernel_rfl, by kernel_rfl, by kernel_rfl, by kernel_rfl, by kernel_rfl⟩ (forall_nil) (fun k x => impl_withNode.hf k x.1 x.2.1) k
noncomputable def b22 : Code := Try.f22.body.getD .skip
theorem e22 : OM.Entry Try.prog 22 := ⟨_, Try.func22, by kernel_rfl, by kernel_rfl⟩
@[reducible] noncomputable def impl_WriterAck.g : Sig := ⟨[.fz tConfig, .fz tWriter, .fz (.int .i64), .fz (.int .i64)], [.v tWriter (.two .z (.two (.own (.two .z (.two (.own .z) .z))) .z)), .v .bool .z], []⟩
@[reducible] noncomputable def impl_WriterAck.fk : Nat → denI impl_WriterAck.g.pms → Option (denR (outTys impl_WriterAck.g.rts impl_WriterAck.g.pms)) := fun k x => impl_WriterAck.f k x.1 x.2.1 x.2.2.1 x.2.2.2.1
@[reducible] noncomputable def impl_WriterAck.sm (k : Nat) : Sm := ⟨22, impl_WriterAck.g.pms, impl_WriterAck.g.rts, impl_WriterAck.fk k⟩
noncomputable def impl_WriterAck.E (k : Nat) : Env := ⟨tys, [impl_within.sm k, impl_Holds.sm k, impl_WriterOk.sm k, impl_copyWriter.sm k, impl_writerAsWas.sm k, impl_withNode.sm k], [], [], []⟩
noncomputable def impl_WriterAck.pts : List (Pt (denR (outTys impl_WriterAck.g.rts impl_WriterAck.g.pms))) := []
theorem impl_WriterAck.hf (k : Nat) (a0 : Config) (a1 : Writer) (a2 : Int) (a3 : Int) : (impl_WriterAck.f k a0 a1 a2 a3 : Option (denR (outTys impl_WriterAck.g.rts impl_WriterAck.g.pms))) = evC (impl_WriterAck.E k) (fun κ s => lhOf k κ s impl_WriterAck.pts) b22 (OM.start impl_WriterAck.g.pms 0 (a0, a1, a2, a3, ())) (OM.fin impl_WriterAck.g Try.f22.results.toList) := by kernel_rfl
theorem impl_WriterAck.ok (k : Nat) : SmOk Try.prog (impl_WriterAck.sm k) :=
  sm_ok mixed (E := impl_WriterAck.E) (pts := impl_WriterAck.pts) (fun k => ⟨⟨tysOk, by kernel_rfl⟩, forall_cons ⟨impl_within.ok k, e62⟩ (forall_cons ⟨impl_Holds.ok k, e25⟩ (forall_cons ⟨impl_WriterOk.ok k, e28⟩ (forall_cons ⟨impl_copyWriter.ok k, e53⟩ (forall_cons ⟨impl_writerAsWas.ok k, e63⟩ (forall_cons ⟨impl_withNode.ok k, e64⟩ (forall_nil))))))⟩) (fun _ => rfl) (fun _ => rfl)
    ⟨Try.func22, by kernel_rfl, by kernel_rfl, by kernel_rfl, by kernel_rfl, by kernel_rfl, by kernel_rfl⟩ (forall_nil) (fun k x => impl_WriterAck.hf k x.1 x.2.1 x.2.2.1 x.2.2.2.1) k
noncomputable def b24 : Code := Try.f24.body.getD .skip
theorem e24 : OM.Entry Try.prog 24 := ⟨_, Try.func24, by kernel_rfl, by kernel_rfl⟩
@[reducible] noncomputable def laws_within.g : Sig := ⟨[.fz (.sl (.int .i64)), .fz (.int .i64)], [.v .bool .z], []⟩
@[reducible] noncomputable def laws_within.fk : Nat → denI laws_within.g.pms → Option (denR (outTys laws_within.g.rts laws_within.g.pms)) := fun k x => laws_within.f k x.1 x.2.1
@[reducible] noncomputable def laws_within.sm (k : Nat) : Sm := ⟨24, laws_within.g.pms, laws_within.g.rts, laws_within.fk k⟩
noncomputable def laws_within.E (k : Nat) : Env := ⟨tys, [], [], [], []⟩
@[reducible] noncomputable def laws_within.s5 : List Slot := [.v 0 (.sl (.int .i64)) .z [] 0, .v 4 (.int .i64) .z [] 0, .v 20 (.int .i64) .z [] 0]
noncomputable def laws_within.pts : List (Pt (denR (outTys laws_within.g.rts laws_within.g.pms))) := [⟨5, laws_within.s5, fun k x => laws_within.p5 k x.1 x.2.1 x.2.2.1⟩]
theorem laws_within.h5 (k : Nat) (x0 : (List Int)) (x1 : Int) (x2 : Int) : (laws_within.p5 (k + 1) x0 x1 x2 : Option (denR (outTys laws_within.g.rts laws_within.g.pms))) = evAt (laws_within.E k) (fun κ s => lhOf k κ s laws_within.pts) 5 b24 (unproj laws_within.s5 (x0, x1, x2, ())) (OM.fin laws_within.g Try.f24.results.toList) := by kernel_rfl
theorem laws_within.hf (k : Nat) (a0 : (List Int)) (a1 : Int) : (laws_within.f k a0 a1 : Option (denR (outTys laws_within.g.rts laws_within.g.pms))) = evC (laws_within.E k) (fun κ s => lhOf k κ s laws_within.pts) b24 (OM.start laws_within.g.pms 0 (a0, a1, ())) (OM.fin laws_within.g Try.f24.results.toList) := by kernel_rfl
theorem laws_within.ok (k : Nat) : SmOk Try.prog (laws_within.sm k) :=
  sm_ok mixed (E := laws_within.E) (pts := laws_within.pts) (fun k => ⟨⟨tysOk, by kernel_rfl⟩, forall_nil⟩) (fun _ => rfl) (fun _ => rfl)
    ⟨Try.func24, by kernel_rfl, by kernel_rfl, by kernel_rfl, by kernel_rfl, by kernel_rfl, by kernel_rfl⟩ (forall_cons (fun x => ⟨rfl, fun k => laws_within.h5 k x.1 x.2.1 x.2.2.1⟩) (forall_nil)) (fun k x => laws_within.hf k x.1 x.2.1) k
noncomputable def b26 : Code := Try.f26.body.getD .skip
theorem e26 : OM.Entry Try.prog 26 := ⟨_, Try.func26, by kernel_rfl, by kernel_rfl⟩
@[reducible] noncomputable def impl_WriterSure.g : Sig := ⟨[.fz tWriter], [.v (.int .i64) .z], []⟩
@[reducible] noncomputable def impl_WriterSure.fk : Nat → denI impl_WriterSure.g.pms → Option (denR (outTys impl_WriterSure.g.rts impl_WriterSure.g.pms)) := fun k x => impl_WriterSure.f k x.1
@[reducible] noncomputable def impl_WriterSure.sm (k : Nat) : Sm := ⟨26, impl_WriterSure.g.pms, impl_WriterSure.g.rts, impl_WriterSure.fk k⟩
noncomputable def impl_WriterSure.E (k : Nat) : Env := ⟨tys, [], [12], [], []⟩
@[reducible] noncomputable def impl_WriterSure.s5 : List Slot := [.r 4 5 [] tWriter, .v 24 (.sl tWord) .z [] 0, .v 28 (.int .i64) .z [] 0, .v 32 (.int .i64) .z [] 0, .v 5 tWriter .z [] 0]
noncomputable def impl_WriterSure.pts : List (Pt (denR (outTys impl_WriterSure.g.rts impl_WriterSure.g.pms))) := [⟨5, impl_WriterSure.s5, fun k x => impl_WriterSure.p5 k x.1 x.2.1 x.2.2.1 x.2.2.2.1⟩]
theorem impl_WriterSure.h5 (k : Nat) (x0 : (List Word)) (x1 : Int) (x2 : Int) (x3 : Writer) : (impl_WriterSure.p5 (k + 1) x0 x1 x2 x3 : Option (denR (outTys impl_WriterSure.g.rts impl_WriterSure.g.pms))) = evAt (impl_WriterSure.E k) (fun κ s => lhOf k κ s impl_WriterSure.pts) 5 b26 (unproj impl_WriterSure.s5 (x0, x1, x2, x3, ())) (OM.fin impl_WriterSure.g Try.f26.results.toList) := by kernel_rfl
theorem impl_WriterSure.hf (k : Nat) (a0 : Writer) : (impl_WriterSure.f k a0 : Option (denR (outTys impl_WriterSure.g.rts impl_WriterSure.g.pms))) = evC (impl_WriterSure.E k) (fun κ s => lhOf k κ s impl_WriterSure.pts) b26 (OM.start impl_WriterSure.g.pms 0 (a0, ())) (OM.fin impl_WriterSure.g Try.f26.results.toList) := by kernel_rfl
theorem impl_WriterSure.ok (k : Nat) : SmOk Try.prog (impl_WriterSure.sm k) :=
  sm_ok mixed (E := impl_WriterSure.E) (pts := impl_WriterSure.pts) (fun k => ⟨⟨tysOk, by kernel_rfl⟩, forall_nil⟩) (fun _ => rfl) (fun _ => rfl)
    ⟨Try.func26, by kernel_rfl, by kernel_rfl, by kernel_rfl, by kernel_rfl, by kernel_rfl, by kernel_rfl⟩ (forall_cons (fun x => ⟨rfl, fun k => impl_WriterSure.h5 k x.1 x.2.1 x.2.2.1 x.2.2.2.1⟩) (forall_nil)) (fun k x => impl_WriterSure.hf k x.1) k
noncomputable def b27 : Code := Try.f27.body.getD .skip
theorem e27 : OM.Entry Try.prog 27 := ⟨_, Try.func27, by kernel_rfl, by kernel_rfl⟩
@[reducible] noncomputable def spec_WriterSure.g : Sig := ⟨[.fz tWriter], [.v (.int .i64) .z], []⟩
@[reducible] noncomputable def spec_WriterSure.fk : Nat → denI spec_WriterSure.g.pms → Option (denR (outTys spec_WriterSure.g.rts spec_WriterSure.g.pms)) := fun k x => spec_WriterSure.f k x.1
@[reducible] noncomputable def spec_WriterSure.sm (k : Nat) : Sm := ⟨27, spec_WriterSure.g.pms, spec_WriterSure.g.rts, spec_WriterSure.fk k⟩
noncomputable def spec_WriterSure.E (k : Nat) : Env := ⟨tys, [], [], [], []⟩
@[reducible] noncomputable def spec_WriterSure.s5 : List Slot := [.r 4 5 [] tWriter, .v 12 (.int .i64) .z [] 0, .v 5 tWriter .z [] 0]
noncomputable def spec_WriterSure.pts : List (Pt (denR (outTys spec_WriterSure.g.rts spec_WriterSure.g.pms))) := [⟨5, spec_WriterSure.s5, fun k x => spec_WriterSure.p5 k x.1 x.2.1⟩]
theorem spec_WriterSure.h5 (k : Nat) (x0 : Int) (x1 : Writer) : (spec_WriterSure.p5 (k + 1) x0 x1 : Option (denR (outTys spec_WriterSure.g.rts spec_WriterSure.g.pms))) = evAt (spec_WriterSure.E k) (fun κ s => lhOf k κ s spec_WriterSure.pts) 5 b27 (unproj spec_WriterSure.s5 (x0, x1, ())) (OM.fin spec_WriterSure.g Try.f27.results.toList) := by kernel_rfl
theorem spec_WriterSure.hf (k : Nat) (a0 : Writer) : (spec_WriterSure.f k a0 : Option (denR (outTys spec_WriterSure.g.rts spec_WriterSure.g.pms))) = evC (spec_WriterSure.E k) (fun κ s => lhOf k κ s spec_WriterSure.pts) b27 (OM.start spec_WriterSure.g.pms 0 (a0, ())) (OM.fin spec_WriterSure.g Try.f27.results.toList) := by kernel_rfl
theorem spec_WriterSure.ok (k : Nat) : SmOk Try.prog (spec_WriterSure.sm k) :=
  sm_ok mixed (E := spec_WriterSure.E) (pts := spec_WriterSure.pts) (fun k => ⟨⟨tysOk, by kernel_rfl⟩, forall_nil⟩) (fun _ => rfl) (fun _ => rfl)
    ⟨Try.func27, by kernel_rfl, by kernel_rfl, by kernel_rfl, by kernel_rfl, by kernel_rfl, by kernel_rfl⟩ (forall_cons (fun x => ⟨rfl, fun k => spec_WriterSure.h5 k x.1 x.2.1⟩) (forall_nil)) (fun k x => spec_WriterSure.hf k x.1) k
noncomputable def b4 : Code := Try.f4.body.getD .skip
theorem e4 : OM.Entry Try.prog 4 := ⟨_, Try.func4, by kernel_rfl, by kernel_rfl⟩
@[reducible] noncomputable def laws_FnAcked.g : Sig := ⟨[.fz (.sl (.int .u8))], [.v .bool .z], []⟩
@[reducible] noncomputable def laws_FnAcked.fk : Nat → denI laws_FnAcked.g.pms → Option (denR (outTys laws_FnAcked.g.rts laws_FnAcked.g.pms)) := fun k x => laws_FnAcked.f k x.1
@[reducible] noncomputable def laws_FnAcked.sm (k : Nat) : Sm := ⟨4, laws_FnAcked.g.pms, laws_FnAcked.g.rts, laws_FnAcked.fk k⟩
noncomputable def laws_FnAcked.E (k : Nat) : Env := ⟨tys, [laws_big.sm k, spec_WriterAck.sm k, spec_DrawWriterAck.sm k, impl_Holds.sm k, impl_WriterOk.sm k, impl_WriterAck.sm k, laws_within.sm k, impl_WriterSure.sm k, spec_WriterSure.sm k], [61], [], [4]⟩
@[reducible] noncomputable def laws_FnAcked.s25 : List Slot := [.r 12 13 [] tConfig, .r 16 17 [] tWriter, .v 24 (.int .i64) .z [] 0, .r 28 29 [] tWriter, .r 44 45 [] tWord, .v 48 (.int .i64) .z [] 0, .v 13 tConfig .z [] 0, .v 17 tWriter (.two .z (.two (.own .z) .z)) [] 0, .v 29 tWriter (.two .z (.two (.own (.two .z (.two (.own .z) .z))) .z)) [] 0, .v 45 tWord .z [29] 0]
noncomputable def laws_FnAcked.pts : List (Pt (denR (outTys laws_FnAcked.g.rts laws_FnAcked.g.pms))) := [⟨25, laws_FnAcked.s25, fun k x => laws_FnAcked.p25 k x.1 x.2.1 x.2.2.1 x.2.2.2.1 x.2.2.2.2.1 x.2.2.2.2.2.1⟩]
theorem laws_FnAcked.h25 (k : Nat) (x0 : Int) (x1 : Int) (x2 : Config) (x3 : Writer) (x4 : Writer) (x5 : Word) : (laws_FnAcked.p25 (k + 1) x0 x1 x2 x3 x4 x5 : Option (denR (outTys laws_FnAcked.g.rts laws_FnAcked.g.pms))) = evAt (laws_FnAcked.E k) (fun κ s => lhOf k κ s laws_FnAcked.pts) 25 b4 (unproj laws_FnAcked.s25 (x0, x1, x2, x3, x4, x5, ())) (OM.fin laws_FnAcked.g Try.f4.results.toList) := by kernel_rfl
theorem laws_FnAcked.hf (k : Nat) (a0 : (List Int)) : (laws_FnAcked.f k a0 : Option (denR (outTys laws_FnAcked.g.rts laws_FnAcked.g.pms))) = evC (laws_FnAcked.E k) (fun κ s => lhOf k κ s laws_FnAcked.pts) b4 (OM.start laws_FnAcked.g.pms 0 (a0, ())) (OM.fin laws_FnAcked.g Try.f4.results.toList) := by kernel_rfl
theorem laws_FnAcked.ok (k : Nat) : SmOk Try.prog (laws_FnAcked.sm k) :=
  sm_ok mixed (E := laws_FnAcked.E) (pts := laws_FnAcked.pts) (fun k => ⟨⟨tysOk, by kernel_rfl⟩, forall_cons ⟨laws_big.ok k, e20⟩ (forall_cons ⟨spec_WriterAck.ok k, e23⟩ (forall_cons ⟨spec_DrawWriterAck.ok k, e21⟩ (forall_cons ⟨impl_Holds.ok k, e25⟩ (forall_cons ⟨impl_WriterOk.ok k, e28⟩ (forall_cons ⟨impl_WriterAck.ok k, e22⟩ (forall_cons ⟨laws_within.ok k, e24⟩ (forall_cons ⟨impl_WriterSure.ok k, e26⟩ (forall_cons ⟨spec_WriterSure.ok k, e27⟩ (forall_nil)))))))))⟩) (fun _ => rfl) (fun _ => rfl)
    ⟨Try.func4, by kernel_rfl, by kernel_rfl, by kernel_rfl, by kernel_rfl, by kernel_rfl, by kernel_rfl⟩ (forall_cons (fun x => ⟨rfl, fun k => laws_FnAcked.h25 k x.1 x.2.1 x.2.2.1 x.2.2.2.1 x.2.2.2.2.1 x.2.2.2.2.2.1⟩) (forall_nil)) (fun k x => laws_FnAcked.hf k x.1) k
end Go.Proofs.Ytllmifioelbleab.OmFnAcked
