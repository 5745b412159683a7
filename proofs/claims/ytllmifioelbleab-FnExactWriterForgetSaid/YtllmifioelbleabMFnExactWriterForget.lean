import Derived.Test.YtllmifioelbleabFFnExactWriterForget
import Derived.Test.YtllmifioelbleabChecked
set_option maxRecDepth 1000000
set_option linter.unusedVariables false
namespace Go.Proofs.Ytllmifioelbleab.OmFnExactWriterForget
open Go Go.OM
noncomputable def tys : List (Option Ty) := [none, none, some (.int .i64), some (.int .i64), some .bool, some (.int .u8), some (.int .u8), some (.pair (.int .i64) (.pair (.int .i64) (.pair .bool (.pair (.int .u8) .unit)))), some (.pair (.int .i64) (.pair (.int .i64) (.pair .bool (.pair (.int .u8) .unit)))), some .str, some .str, some .str, some (.int .u64), some (.pair .str (.pair (.int .u64) .unit)), some (.pair .str (.pair (.int .u64) .unit)), none, none, none, none, none, none, some (.int .i32), some (.sl (.int .i64)), some tConfig, some tConfig, some (.sl tWord), some tWriter, some tWriter, none, none, some (.sl tWord), some tWriter, some tWriter, none, none, some tConfig, none, none, none, none, none, none, none, some (.sl (.int .u8)), none, none, none, none, some tWord, some tWord, none, none, none, none, none, some (.sl tEntry), some (.sl (.sl (.int .i64))), some tMend, some tMend, none, some (.sl tEntry), some tMend, some tMend, none, none, none, none, none, none, none, none, none, none, none, none, none, none, none, none, none, none, none, none, none, none, none, none, none, none, none, none, none, none, none, none, none, none, none, none, none, none, none, none, none, none, none, none, none, none, some tEntry, some tEntry, none, some tEntry, none, none, none, none, none, some tWord, none, none, none, some tl1Cur, some tl1Cur, none, none, none, none, none, none, none, none, none, none, none, none, none, none, none, none, none, none, none, some (.sl .str), none, some (.int .u64), none, none, some (.sl .bool), none, none, none, none, none, none, none, none, none, none, none, none, some (.int .u32), some (.int .u8), some (.int .u8), none, none, some (.int .i32), some (.int .i32), none, none, none]
theorem tysOk : okTys Try.prog tys 0 tys = true := by kernel_rfl
theorem mixed : Try.prog.follows .mixedOrders = true := by kernel_rfl
noncomputable def b47 : Code := Try.f47.body.getD .skip
theorem e47 : OM.Entry Try.prog 47 := ⟨_, Try.func47, by kernel_rfl, by kernel_rfl⟩
@[reducible] noncomputable def laws_szIntS.g : Sig := ⟨[.fz (.sl (.int .i64)), .fz (.int .i64)], [.v (.int .i64) .z], []⟩
@[reducible] noncomputable def laws_szIntS.fk : Nat → denI laws_szIntS.g.pms → Option (denR (outTys laws_szIntS.g.rts laws_szIntS.g.pms)) := fun k x => laws_szIntS.f x.1 x.2.1
@[reducible] noncomputable def laws_szIntS.sm (k : Nat) : Sm := ⟨47, laws_szIntS.g.pms, laws_szIntS.g.rts, laws_szIntS.fk k⟩
noncomputable def laws_szIntS.E (k : Nat) : Env := ⟨tys, [], [], [], []⟩
noncomputable def laws_szIntS.pts : List (Pt (denR (outTys laws_szIntS.g.rts laws_szIntS.g.pms))) := []
theorem laws_szIntS.hf (k : Nat) (a0 : (List Int)) (a1 : Int) : (laws_szIntS.f a0 a1 : Option (denR (outTys laws_szIntS.g.rts laws_szIntS.g.pms))) = evC (laws_szIntS.E k) (fun κ s => lhOf k κ s laws_szIntS.pts) b47 (OM.start laws_szIntS.g.pms 0 (a0, a1, ())) (OM.fin laws_szIntS.g Try.f47.results.toList) := by kernel_rfl
theorem laws_szIntS.ok (k : Nat) : SmOk Try.prog (laws_szIntS.sm k) :=
  sm_ok mixed (E := laws_szIntS.E) (pts := laws_szIntS.pts) (fun k => ⟨⟨tysOk, by kernel_rfl⟩, forall_nil⟩) (fun _ => rfl) (fun _ => rfl)
    ⟨Try.func47, by kernel_rfl, by kernel_rfl, by kernel_rfl, by kernel_rfl, by kernel_rfl, by kernel_rfl⟩ (forall_nil) (fun k x => laws_szIntS.hf k x.1 x.2.1) k
noncomputable def b9 : Code := Try.f9.body.getD .skip
theorem e9 : OM.Entry Try.prog 9 := ⟨_, Try.func9, by kernel_rfl, by kernel_rfl⟩
@[reducible] noncomputable def laws_szConfig.g : Sig := ⟨[.fz tConfig, .fz (.int .i64)], [.v (.int .i64) .z], []⟩
@[reducible] noncomputable def laws_szConfig.fk : Nat → denI laws_szConfig.g.pms → Option (denR (outTys laws_szConfig.g.rts laws_szConfig.g.pms)) := fun k x => laws_szConfig.f x.1 x.2.1
@[reducible] noncomputable def laws_szConfig.sm (k : Nat) : Sm := ⟨9, laws_szConfig.g.pms, laws_szConfig.g.rts, laws_szConfig.fk k⟩
noncomputable def laws_szConfig.E (k : Nat) : Env := ⟨tys, [laws_szIntS.sm k], [], [], []⟩
noncomputable def laws_szConfig.pts : List (Pt (denR (outTys laws_szConfig.g.rts laws_szConfig.g.pms))) := []
theorem laws_szConfig.hf (k : Nat) (a0 : Config) (a1 : Int) : (laws_szConfig.f a0 a1 : Option (denR (outTys laws_szConfig.g.rts laws_szConfig.g.pms))) = evC (laws_szConfig.E k) (fun κ s => lhOf k κ s laws_szConfig.pts) b9 (OM.start laws_szConfig.g.pms 0 (a0, a1, ())) (OM.fin laws_szConfig.g Try.f9.results.toList) := by kernel_rfl
theorem laws_szConfig.ok (k : Nat) : SmOk Try.prog (laws_szConfig.sm k) :=
  sm_ok mixed (E := laws_szConfig.E) (pts := laws_szConfig.pts) (fun k => ⟨⟨tysOk, by kernel_rfl⟩, forall_cons ⟨laws_szIntS.ok k, e47⟩ (forall_nil)⟩) (fun _ => rfl) (fun _ => rfl)
    ⟨Try.func9, by kernel_rfl, by kernel_rfl, by kernel_rfl, by kernel_rfl, by kernel_rfl, by kernel_rfl⟩ (forall_nil) (fun k x => laws_szConfig.hf k x.1 x.2.1) k
noncomputable def b100 : Code := Try.f100.body.getD .skip
theorem e100 : OM.Entry Try.prog 100 := ⟨_, Try.func100, by kernel_rfl, by kernel_rfl⟩
@[reducible] noncomputable def laws_szWord.g : Sig := ⟨[.fz tWord, .fz (.int .i64)], [.v (.int .i64) .z], []⟩
@[reducible] noncomputable def laws_szWord.fk : Nat → denI laws_szWord.g.pms → Option (denR (outTys laws_szWord.g.rts laws_szWord.g.pms)) := fun k x => laws_szWord.f x.1 x.2.1
@[reducible] noncomputable def laws_szWord.sm (k : Nat) : Sm := ⟨100, laws_szWord.g.pms, laws_szWord.g.rts, laws_szWord.fk k⟩
noncomputable def laws_szWord.E (k : Nat) : Env := ⟨tys, [laws_szIntS.sm k], [], [], []⟩
noncomputable def laws_szWord.pts : List (Pt (denR (outTys laws_szWord.g.rts laws_szWord.g.pms))) := []
theorem laws_szWord.hf (k : Nat) (a0 : Word) (a1 : Int) : (laws_szWord.f a0 a1 : Option (denR (outTys laws_szWord.g.rts laws_szWord.g.pms))) = evC (laws_szWord.E k) (fun κ s => lhOf k κ s laws_szWord.pts) b100 (OM.start laws_szWord.g.pms 0 (a0, a1, ())) (OM.fin laws_szWord.g Try.f100.results.toList) := by kernel_rfl
theorem laws_szWord.ok (k : Nat) : SmOk Try.prog (laws_szWord.sm k) :=
  sm_ok mixed (E := laws_szWord.E) (pts := laws_szWord.pts) (fun k => ⟨⟨tysOk, by kernel_rfl⟩, forall_cons ⟨laws_szIntS.ok k, e47⟩ (forall_nil)⟩) (fun _ => rfl) (fun _ => rfl)
    ⟨Try.func100, by kernel_rfl, by kernel_rfl, by kernel_rfl, by kernel_rfl, by kernel_rfl, by kernel_rfl⟩ (forall_nil) (fun k x => laws_szWord.hf k x.1 x.2.1) k
noncomputable def b48 : Code := Try.f48.body.getD .skip
theorem e48 : OM.Entry Try.prog 48 := ⟨_, Try.func48, by kernel_rfl, by kernel_rfl⟩
@[reducible] noncomputable def laws_szWordS.g : Sig := ⟨[.fz (.sl tWord), .fz (.int .i64)], [.v (.int .i64) .z], []⟩
@[reducible] noncomputable def laws_szWordS.fk : Nat → denI laws_szWordS.g.pms → Option (denR (outTys laws_szWordS.g.rts laws_szWordS.g.pms)) := fun k x => laws_szWordS.f k x.1 x.2.1
@[reducible] noncomputable def laws_szWordS.sm (k : Nat) : Sm := ⟨48, laws_szWordS.g.pms, laws_szWordS.g.rts, laws_szWordS.fk k⟩
noncomputable def laws_szWordS.E (k : Nat) : Env := ⟨tys, [laws_szWord.sm k], [], [], []⟩
@[reducible] noncomputable def laws_szWordS.s11 : List Slot := [.v 0 (.sl tWord) .z [] 0, .v 4 (.int .i64) .z [] 0, .v 20 (.int .i64) .z [] 0]
noncomputable def laws_szWordS.pts : List (Pt (denR (outTys laws_szWordS.g.rts laws_szWordS.g.pms))) := [⟨11, laws_szWordS.s11, fun k x => laws_szWordS.p11 k x.1 x.2.1 x.2.2.1⟩]
theorem laws_szWordS.h11 (k : Nat) (x0 : (List Word)) (x1 : Int) (x2 : Int) : (laws_szWordS.p11 (k + 1) x0 x1 x2 : Option (denR (outTys laws_szWordS.g.rts laws_szWordS.g.pms))) = evAt (laws_szWordS.E k) (fun κ s => lhOf k κ s laws_szWordS.pts) 11 b48 (unproj laws_szWordS.s11 (x0, x1, x2, ())) (OM.fin laws_szWordS.g Try.f48.results.toList) := by kernel_rfl
theorem laws_szWordS.hf (k : Nat) (a0 : (List Word)) (a1 : Int) : (laws_szWordS.f k a0 a1 : Option (denR (outTys laws_szWordS.g.rts laws_szWordS.g.pms))) = evC (laws_szWordS.E k) (fun κ s => lhOf k κ s laws_szWordS.pts) b48 (OM.start laws_szWordS.g.pms 0 (a0, a1, ())) (OM.fin laws_szWordS.g Try.f48.results.toList) := by kernel_rfl
theorem laws_szWordS.ok (k : Nat) : SmOk Try.prog (laws_szWordS.sm k) :=
  sm_ok mixed (E := laws_szWordS.E) (pts := laws_szWordS.pts) (fun k => ⟨⟨tysOk, by kernel_rfl⟩, forall_cons ⟨laws_szWord.ok k, e100⟩ (forall_nil)⟩) (fun _ => rfl) (fun _ => rfl)
    ⟨Try.func48, by kernel_rfl, by kernel_rfl, by kernel_rfl, by kernel_rfl, by kernel_rfl, by kernel_rfl⟩ (forall_cons (fun x => ⟨rfl, fun k => laws_szWordS.h11 k x.1 x.2.1 x.2.2.1⟩) (forall_nil)) (fun k x => laws_szWordS.hf k x.1 x.2.1) k
noncomputable def b10 : Code := Try.f10.body.getD .skip
theorem e10 : OM.Entry Try.prog 10 := ⟨_, Try.func10, by kernel_rfl, by kernel_rfl⟩
@[reducible] noncomputable def laws_szWriter.g : Sig := ⟨[.fz tWriter, .fz (.int .i64)], [.v (.int .i64) .z], []⟩
@[reducible] noncomputable def laws_szWriter.fk : Nat → denI laws_szWriter.g.pms → Option (denR (outTys laws_szWriter.g.rts laws_szWriter.g.pms)) := fun k x => laws_szWriter.f k x.1 x.2.1
@[reducible] noncomputable def laws_szWriter.sm (k : Nat) : Sm := ⟨10, laws_szWriter.g.pms, laws_szWriter.g.rts, laws_szWriter.fk k⟩
noncomputable def laws_szWriter.E (k : Nat) : Env := ⟨tys, [laws_szWordS.sm k], [], [], []⟩
noncomputable def laws_szWriter.pts : List (Pt (denR (outTys laws_szWriter.g.rts laws_szWriter.g.pms))) := []
theorem laws_szWriter.hf (k : Nat) (a0 : Writer) (a1 : Int) : (laws_szWriter.f k a0 a1 : Option (denR (outTys laws_szWriter.g.rts laws_szWriter.g.pms))) = evC (laws_szWriter.E k) (fun κ s => lhOf k κ s laws_szWriter.pts) b10 (OM.start laws_szWriter.g.pms 0 (a0, a1, ())) (OM.fin laws_szWriter.g Try.f10.results.toList) := by kernel_rfl
theorem laws_szWriter.ok (k : Nat) : SmOk Try.prog (laws_szWriter.sm k) :=
  sm_ok mixed (E := laws_szWriter.E) (pts := laws_szWriter.pts) (fun k => ⟨⟨tysOk, by kernel_rfl⟩, forall_cons ⟨laws_szWordS.ok k, e48⟩ (forall_nil)⟩) (fun _ => rfl) (fun _ => rfl)
    ⟨Try.func10, by kernel_rfl, by kernel_rfl, by kernel_rfl, by kernel_rfl, by kernel_rfl, by kernel_rfl⟩ (forall_nil) (fun k x => laws_szWriter.hf k x.1 x.2.1) k
noncomputable def b32 : Code := Try.f32.body.getD .skip
theorem e32 : OM.Entry Try.prog 32 := ⟨_, Try.func32, by kernel_rfl, by kernel_rfl⟩
@[reducible] noncomputable def laws_toIntS.g : Sig := ⟨[.fz (.sl (.int .i64))], [.v (.sl (.int .i64)) (.own .z)], []⟩
@[reducible] noncomputable def laws_toIntS.fk : Nat → denI laws_toIntS.g.pms → Option (denR (outTys laws_toIntS.g.rts laws_toIntS.g.pms)) := fun k x => laws_toIntS.f k x.1
@[reducible] noncomputable def laws_toIntS.sm (k : Nat) : Sm := ⟨32, laws_toIntS.g.pms, laws_toIntS.g.rts, laws_toIntS.fk k⟩
noncomputable def laws_toIntS.E (k : Nat) : Env := ⟨tys, [], [19], [], []⟩
@[reducible] noncomputable def laws_toIntS.s7 : List Slot := [.v 0 (.sl (.int .i64)) .z [] 0, .v 12 (.sl (.int .i64)) (.own .z) [] 0, .v 16 (.int .i64) .z [] 0]
noncomputable def laws_toIntS.pts : List (Pt (denR (outTys laws_toIntS.g.rts laws_toIntS.g.pms))) := [⟨7, laws_toIntS.s7, fun k x => laws_toIntS.p7 k x.1 x.2.1 x.2.2.1⟩]
theorem laws_toIntS.h7 (k : Nat) (x0 : (List Int)) (x1 : (List Int)) (x2 : Int) : (laws_toIntS.p7 (k + 1) x0 x1 x2 : Option (denR (outTys laws_toIntS.g.rts laws_toIntS.g.pms))) = evAt (laws_toIntS.E k) (fun κ s => lhOf k κ s laws_toIntS.pts) 7 b32 (unproj laws_toIntS.s7 (x0, x1, x2, ())) (OM.fin laws_toIntS.g Try.f32.results.toList) := by kernel_rfl
theorem laws_toIntS.hf (k : Nat) (a0 : (List Int)) : (laws_toIntS.f k a0 : Option (denR (outTys laws_toIntS.g.rts laws_toIntS.g.pms))) = evC (laws_toIntS.E k) (fun κ s => lhOf k κ s laws_toIntS.pts) b32 (OM.start laws_toIntS.g.pms 0 (a0, ())) (OM.fin laws_toIntS.g Try.f32.results.toList) := by kernel_rfl
theorem laws_toIntS.ok (k : Nat) : SmOk Try.prog (laws_toIntS.sm k) :=
  sm_ok mixed (E := laws_toIntS.E) (pts := laws_toIntS.pts) (fun k => ⟨⟨tysOk, by kernel_rfl⟩, forall_nil⟩) (fun _ => rfl) (fun _ => rfl)
    ⟨Try.func32, by kernel_rfl, by kernel_rfl, by kernel_rfl, by kernel_rfl, by kernel_rfl, by kernel_rfl⟩ (forall_cons (fun x => ⟨rfl, fun k => laws_toIntS.h7 k x.1 x.2.1 x.2.2.1⟩) (forall_nil)) (fun k x => laws_toIntS.hf k x.1) k
noncomputable def b12 : Code := Try.f12.body.getD .skip
theorem e12 : OM.Entry Try.prog 12 := ⟨_, Try.func12, by kernel_rfl, by kernel_rfl⟩
@[reducible] noncomputable def laws_toConfig.g : Sig := ⟨[.fz tConfig], [.v tConfig (.two (.own .z) .z)], []⟩
@[reducible] noncomputable def laws_toConfig.fk : Nat → denI laws_toConfig.g.pms → Option (denR (outTys laws_toConfig.g.rts laws_toConfig.g.pms)) := fun k x => laws_toConfig.f k x.1
@[reducible] noncomputable def laws_toConfig.sm (k : Nat) : Sm := ⟨12, laws_toConfig.g.pms, laws_toConfig.g.rts, laws_toConfig.fk k⟩
noncomputable def laws_toConfig.E (k : Nat) : Env := ⟨tys, [laws_toIntS.sm k], [9], [], []⟩
noncomputable def laws_toConfig.pts : List (Pt (denR (outTys laws_toConfig.g.rts laws_toConfig.g.pms))) := []
theorem laws_toConfig.hf (k : Nat) (a0 : Config) : (laws_toConfig.f k a0 : Option (denR (outTys laws_toConfig.g.rts laws_toConfig.g.pms))) = evC (laws_toConfig.E k) (fun κ s => lhOf k κ s laws_toConfig.pts) b12 (OM.start laws_toConfig.g.pms 0 (a0, ())) (OM.fin laws_toConfig.g Try.f12.results.toList) := by kernel_rfl
theorem laws_toConfig.ok (k : Nat) : SmOk Try.prog (laws_toConfig.sm k) :=
  sm_ok mixed (E := laws_toConfig.E) (pts := laws_toConfig.pts) (fun k => ⟨⟨tysOk, by kernel_rfl⟩, forall_cons ⟨laws_toIntS.ok k, e32⟩ (forall_nil)⟩) (fun _ => rfl) (fun _ => rfl)
    ⟨Try.func12, by kernel_rfl, by kernel_rfl, by kernel_rfl, by kernel_rfl, by kernel_rfl, by kernel_rfl⟩ (forall_nil) (fun k x => laws_toConfig.hf k x.1) k
noncomputable def b104 : Code := Try.f104.body.getD .skip
theorem e104 : OM.Entry Try.prog 104 := ⟨_, Try.func104, by kernel_rfl, by kernel_rfl⟩
@[reducible] noncomputable def laws_toWord.g : Sig := ⟨[.fz tWord], [.v tWord (.two .z (.two (.own .z) .z))], []⟩
@[reducible] noncomputable def laws_toWord.fk : Nat → denI laws_toWord.g.pms → Option (denR (outTys laws_toWord.g.rts laws_toWord.g.pms)) := fun k x => laws_toWord.f k x.1
@[reducible] noncomputable def laws_toWord.sm (k : Nat) : Sm := ⟨104, laws_toWord.g.pms, laws_toWord.g.rts, laws_toWord.fk k⟩
noncomputable def laws_toWord.E (k : Nat) : Env := ⟨tys, [laws_toIntS.sm k], [12], [], []⟩
noncomputable def laws_toWord.pts : List (Pt (denR (outTys laws_toWord.g.rts laws_toWord.g.pms))) := []
theorem laws_toWord.hf (k : Nat) (a0 : Word) : (laws_toWord.f k a0 : Option (denR (outTys laws_toWord.g.rts laws_toWord.g.pms))) = evC (laws_toWord.E k) (fun κ s => lhOf k κ s laws_toWord.pts) b104 (OM.start laws_toWord.g.pms 0 (a0, ())) (OM.fin laws_toWord.g Try.f104.results.toList) := by kernel_rfl
theorem laws_toWord.ok (k : Nat) : SmOk Try.prog (laws_toWord.sm k) :=
  sm_ok mixed (E := laws_toWord.E) (pts := laws_toWord.pts) (fun k => ⟨⟨tysOk, by kernel_rfl⟩, forall_cons ⟨laws_toIntS.ok k, e32⟩ (forall_nil)⟩) (fun _ => rfl) (fun _ => rfl)
    ⟨Try.func104, by kernel_rfl, by kernel_rfl, by kernel_rfl, by kernel_rfl, by kernel_rfl, by kernel_rfl⟩ (forall_nil) (fun k x => laws_toWord.hf k x.1) k
noncomputable def b52 : Code := Try.f52.body.getD .skip
theorem e52 : OM.Entry Try.prog 52 := ⟨_, Try.func52, by kernel_rfl, by kernel_rfl⟩
@[reducible] noncomputable def laws_toWordS.g : Sig := ⟨[.fz (.sl tWord)], [.v (.sl tWord) (.own (.two .z (.two (.own .z) .z)))], []⟩
@[reducible] noncomputable def laws_toWordS.fk : Nat → denI laws_toWordS.g.pms → Option (denR (outTys laws_toWordS.g.rts laws_toWordS.g.pms)) := fun k x => laws_toWordS.f k x.1
@[reducible] noncomputable def laws_toWordS.sm (k : Nat) : Sm := ⟨52, laws_toWordS.g.pms, laws_toWordS.g.rts, laws_toWordS.fk k⟩
noncomputable def laws_toWordS.E (k : Nat) : Env := ⟨tys, [laws_toWord.sm k], [], [], []⟩
@[reducible] noncomputable def laws_toWordS.s7 : List Slot := [.v 0 (.sl tWord) .z [] 0, .v 12 (.sl tWord) (.own (.two .z (.two (.own .z) .z))) [] 0, .v 16 (.int .i64) .z [] 0]
noncomputable def laws_toWordS.pts : List (Pt (denR (outTys laws_toWordS.g.rts laws_toWordS.g.pms))) := [⟨7, laws_toWordS.s7, fun k x => laws_toWordS.p7 k x.1 x.2.1 x.2.2.1⟩]
theorem laws_toWordS.h7 (k : Nat) (x0 : (List Word)) (x1 : (List Word)) (x2 : Int) : (laws_toWordS.p7 (k + 1) x0 x1 x2 : Option (denR (outTys laws_toWordS.g.rts laws_toWordS.g.pms))) = evAt (laws_toWordS.E k) (fun κ s => lhOf k κ s laws_toWordS.pts) 7 b52 (unproj laws_toWordS.s7 (x0, x1, x2, ())) (OM.fin laws_toWordS.g Try.f52.results.toList) := by kernel_rfl
theorem laws_toWordS.hf (k : Nat) (a0 : (List Word)) : (laws_toWordS.f k a0 : Option (denR (outTys laws_toWordS.g.rts laws_toWordS.g.pms))) = evC (laws_toWordS.E k) (fun κ s => lhOf k κ s laws_toWordS.pts) b52 (OM.start laws_toWordS.g.pms 0 (a0, ())) (OM.fin laws_toWordS.g Try.f52.results.toList) := by kernel_rfl
theorem laws_toWordS.ok (k : Nat) : SmOk Try.prog (laws_toWordS.sm k) :=
  sm_ok mixed (E := laws_toWordS.E) (pts := laws_toWordS.pts) (fun k => ⟨⟨tysOk, by kernel_rfl⟩, forall_cons ⟨laws_toWord.ok k, e104⟩ (forall_nil)⟩) (fun _ => rfl) (fun _ => rfl)
    ⟨Try.func52, by kernel_rfl, by kernel_rfl, by kernel_rfl, by kernel_rfl, by kernel_rfl, by kernel_rfl⟩ (forall_cons (fun x => ⟨rfl, fun k => laws_toWordS.h7 k x.1 x.2.1 x.2.2.1⟩) (forall_nil)) (fun k x => laws_toWordS.hf k x.1) k
noncomputable def b13 : Code := Try.f13.body.getD .skip
theorem e13 : OM.Entry Try.prog 13 := ⟨_, Try.func13, by kernel_rfl, by kernel_rfl⟩
@[reducible] noncomputable def laws_toWriter.g : Sig := ⟨[.fz tWriter], [.v tWriter (.two .z (.two (.own (.two .z (.two (.own .z) .z))) .z))], []⟩
@[reducible] noncomputable def laws_toWriter.fk : Nat → denI laws_toWriter.g.pms → Option (denR (outTys laws_toWriter.g.rts laws_toWriter.g.pms)) := fun k x => laws_toWriter.f k x.1
@[reducible] noncomputable def laws_toWriter.sm (k : Nat) : Sm := ⟨13, laws_toWriter.g.pms, laws_toWriter.g.rts, laws_toWriter.fk k⟩
noncomputable def laws_toWriter.E (k : Nat) : Env := ⟨tys, [laws_toWordS.sm k], [], [], []⟩
noncomputable def laws_toWriter.pts : List (Pt (denR (outTys laws_toWriter.g.rts laws_toWriter.g.pms))) := []
theorem laws_toWriter.hf (k : Nat) (a0 : Writer) : (laws_toWriter.f k a0 : Option (denR (outTys laws_toWriter.g.rts laws_toWriter.g.pms))) = evC (laws_toWriter.E k) (fun κ s => lhOf k κ s laws_toWriter.pts) b13 (OM.start laws_toWriter.g.pms 0 (a0, ())) (OM.fin laws_toWriter.g Try.f13.results.toList) := by kernel_rfl
theorem laws_toWriter.ok (k : Nat) : SmOk Try.prog (laws_toWriter.sm k) :=
  sm_ok mixed (E := laws_toWriter.E) (pts := laws_toWriter.pts) (fun k => ⟨⟨tysOk, by kernel_rfl⟩, forall_cons ⟨laws_toWordS.ok k, e52⟩ (forall_nil)⟩) (fun _ => rfl) (fun _ => rfl)
    ⟨Try.func13, by kernel_rfl, by kernel_rfl, by kernel_rfl, by kernel_rfl, by kernel_rfl, by kernel_rfl⟩ (forall_nil) (fun k x => laws_toWriter.hf k x.1) k
noncomputable def b65 : Code := Try.f65.body.getD .skip
theorem e65 : OM.Entry Try.prog 65 := ⟨_, Try.func65, by kernel_rfl, by kernel_rfl⟩
@[reducible] noncomputable def spec_l1In.g : Sig := ⟨[.fz (.int .i64), .fz (.int .i64), .fz (.int .i64)], [.v .bool .z], []⟩
@[reducible] noncomputable def spec_l1In.fk : Nat → denI spec_l1In.g.pms → Option (denR (outTys spec_l1In.g.rts spec_l1In.g.pms)) := fun k x => spec_l1In.f x.1 x.2.1 x.2.2.1
@[reducible] noncomputable def spec_l1In.sm (k : Nat) : Sm := ⟨65, spec_l1In.g.pms, spec_l1In.g.rts, spec_l1In.fk k⟩
noncomputable def spec_l1In.E (k : Nat) : Env := ⟨tys, [], [], [], []⟩
noncomputable def spec_l1In.pts : List (Pt (denR (outTys spec_l1In.g.rts spec_l1In.g.pms))) := []
theorem spec_l1In.hf (k : Nat) (a0 : Int) (a1 : Int) (a2 : Int) : (spec_l1In.f a0 a1 a2 : Option (denR (outTys spec_l1In.g.rts spec_l1In.g.pms))) = evC (spec_l1In.E k) (fun κ s => lhOf k κ s spec_l1In.pts) b65 (OM.start spec_l1In.g.pms 0 (a0, a1, a2, ())) (OM.fin spec_l1In.g Try.f65.results.toList) := by kernel_rfl
theorem spec_l1In.ok (k : Nat) : SmOk Try.prog (spec_l1In.sm k) :=
  sm_ok mixed (E := spec_l1In.E) (pts := spec_l1In.pts) (fun k => ⟨⟨tysOk, by kernel_rfl⟩, forall_nil⟩) (fun _ => rfl) (fun _ => rfl)
    ⟨Try.func65, by kernel_rfl, by kernel_rfl, by kernel_rfl, by kernel_rfl, by kernel_rfl, by kernel_rfl⟩ (forall_nil) (fun k x => spec_l1In.hf k x.1 x.2.1 x.2.2.1) k
noncomputable def b101 : Code := Try.f101.body.getD .skip
theorem e101 : OM.Entry Try.prog 101 := ⟨_, Try.func101, by kernel_rfl, by kernel_rfl⟩
@[reducible] noncomputable def spec_ConfigOk.g : Sig := ⟨[.fz tConfig], [.v .bool .z], []⟩
@[reducible] noncomputable def spec_ConfigOk.fk : Nat → denI spec_ConfigOk.g.pms → Option (denR (outTys spec_ConfigOk.g.rts spec_ConfigOk.g.pms)) := fun k x => spec_ConfigOk.f k x.1
@[reducible] noncomputable def spec_ConfigOk.sm (k : Nat) : Sm := ⟨101, spec_ConfigOk.g.pms, spec_ConfigOk.g.rts, spec_ConfigOk.fk k⟩
noncomputable def spec_ConfigOk.E (k : Nat) : Env := ⟨tys, [spec_l1In.sm k], [], [], []⟩
@[reducible] noncomputable def spec_ConfigOk.s9 : List Slot := [.r 4 5 [] tConfig, .v 12 (.int .i64) .z [] 0, .v 5 tConfig .z [] 0]
noncomputable def spec_ConfigOk.pts : List (Pt (denR (outTys spec_ConfigOk.g.rts spec_ConfigOk.g.pms))) := [⟨9, spec_ConfigOk.s9, fun k x => spec_ConfigOk.p9 k x.1 x.2.1⟩]
theorem spec_ConfigOk.h9 (k : Nat) (x0 : Int) (x1 : Config) : (spec_ConfigOk.p9 (k + 1) x0 x1 : Option (denR (outTys spec_ConfigOk.g.rts spec_ConfigOk.g.pms))) = evAt (spec_ConfigOk.E k) (fun κ s => lhOf k κ s spec_ConfigOk.pts) 9 b101 (unproj spec_ConfigOk.s9 (x0, x1, ())) (OM.fin spec_ConfigOk.g Try.f101.results.toList) := by kernel_rfl
theorem spec_ConfigOk.hf (k : Nat) (a0 : Config) : (spec_ConfigOk.f k a0 : Option (denR (outTys spec_ConfigOk.g.rts spec_ConfigOk.g.pms))) = evC (spec_ConfigOk.E k) (fun κ s => lhOf k κ s spec_ConfigOk.pts) b101 (OM.start spec_ConfigOk.g.pms 0 (a0, ())) (OM.fin spec_ConfigOk.g Try.f101.results.toList) := by kernel_rfl
theorem spec_ConfigOk.ok (k : Nat) : SmOk Try.prog (spec_ConfigOk.sm k) :=
  sm_ok mixed (E := spec_ConfigOk.E) (pts := spec_ConfigOk.pts) (fun k => ⟨⟨tysOk, by kernel_rfl⟩, forall_cons ⟨spec_l1In.ok k, e65⟩ (forall_nil)⟩) (fun _ => rfl) (fun _ => rfl)
    ⟨Try.func101, by kernel_rfl, by kernel_rfl, by kernel_rfl, by kernel_rfl, by kernel_rfl, by kernel_rfl⟩ (forall_cons (fun x => ⟨rfl, fun k => spec_ConfigOk.h9 k x.1 x.2.1⟩) (forall_nil)) (fun k x => spec_ConfigOk.hf k x.1) k
noncomputable def b132 : Code := Try.f132.body.getD .skip
theorem e132 : OM.Entry Try.prog 132 := ⟨_, Try.func132, by kernel_rfl, by kernel_rfl⟩
@[reducible] noncomputable def spec_l4Asc.g : Sig := ⟨[.fz (.sl (.int .i64)), .fz (.int .i64), .fz (.int .i64)], [.v .bool .z], []⟩
@[reducible] noncomputable def spec_l4Asc.fk : Nat → denI spec_l4Asc.g.pms → Option (denR (outTys spec_l4Asc.g.rts spec_l4Asc.g.pms)) := fun k x => spec_l4Asc.f k x.1 x.2.1 x.2.2.1
@[reducible] noncomputable def spec_l4Asc.sm (k : Nat) : Sm := ⟨132, spec_l4Asc.g.pms, spec_l4Asc.g.rts, spec_l4Asc.fk k⟩
noncomputable def spec_l4Asc.E (k : Nat) : Env := ⟨tys, [spec_l1In.sm k], [], [], []⟩
@[reducible] noncomputable def spec_l4Asc.s5 : List Slot := [.v 0 (.sl (.int .i64)) .z [] 0, .v 4 (.int .i64) .z [] 0, .v 8 (.int .i64) .z [] 0, .v 28 (.int .i64) .z [] 0]
noncomputable def spec_l4Asc.pts : List (Pt (denR (outTys spec_l4Asc.g.rts spec_l4Asc.g.pms))) := [⟨5, spec_l4Asc.s5, fun k x => spec_l4Asc.p5 k x.1 x.2.1 x.2.2.1 x.2.2.2.1⟩]
theorem spec_l4Asc.h5 (k : Nat) (x0 : (List Int)) (x1 : Int) (x2 : Int) (x3 : Int) : (spec_l4Asc.p5 (k + 1) x0 x1 x2 x3 : Option (denR (outTys spec_l4Asc.g.rts spec_l4Asc.g.pms))) = evAt (spec_l4Asc.E k) (fun κ s => lhOf k κ s spec_l4Asc.pts) 5 b132 (unproj spec_l4Asc.s5 (x0, x1, x2, x3, ())) (OM.fin spec_l4Asc.g Try.f132.results.toList) := by kernel_rfl
theorem spec_l4Asc.hf (k : Nat) (a0 : (List Int)) (a1 : Int) (a2 : Int) : (spec_l4Asc.f k a0 a1 a2 : Option (denR (outTys spec_l4Asc.g.rts spec_l4Asc.g.pms))) = evC (spec_l4Asc.E k) (fun κ s => lhOf k κ s spec_l4Asc.pts) b132 (OM.start spec_l4Asc.g.pms 0 (a0, a1, a2, ())) (OM.fin spec_l4Asc.g Try.f132.results.toList) := by kernel_rfl
theorem spec_l4Asc.ok (k : Nat) : SmOk Try.prog (spec_l4Asc.sm k) :=
  sm_ok mixed (E := spec_l4Asc.E) (pts := spec_l4Asc.pts) (fun k => ⟨⟨tysOk, by kernel_rfl⟩, forall_cons ⟨spec_l1In.ok k, e65⟩ (forall_nil)⟩) (fun _ => rfl) (fun _ => rfl)
    ⟨Try.func132, by kernel_rfl, by kernel_rfl, by kernel_rfl, by kernel_rfl, by kernel_rfl, by kernel_rfl⟩ (forall_cons (fun x => ⟨rfl, fun k => spec_l4Asc.h5 k x.1 x.2.1 x.2.2.1 x.2.2.2.1⟩) (forall_nil)) (fun k x => spec_l4Asc.hf k x.1 x.2.1 x.2.2.1) k
noncomputable def b102 : Code := Try.f102.body.getD .skip
theorem e102 : OM.Entry Try.prog 102 := ⟨_, Try.func102, by kernel_rfl, by kernel_rfl⟩
@[reducible] noncomputable def spec_NodesOk.g : Sig := ⟨[.fz tConfig, .fz (.sl (.int .i64))], [.v .bool .z], []⟩
@[reducible] noncomputable def spec_NodesOk.fk : Nat → denI spec_NodesOk.g.pms → Option (denR (outTys spec_NodesOk.g.rts spec_NodesOk.g.pms)) := fun k x => spec_NodesOk.f k x.1 x.2.1
@[reducible] noncomputable def spec_NodesOk.sm (k : Nat) : Sm := ⟨102, spec_NodesOk.g.pms, spec_NodesOk.g.rts, spec_NodesOk.fk k⟩
noncomputable def spec_NodesOk.E (k : Nat) : Env := ⟨tys, [spec_ConfigOk.sm k, spec_l4Asc.sm k], [], [], []⟩
noncomputable def spec_NodesOk.pts : List (Pt (denR (outTys spec_NodesOk.g.rts spec_NodesOk.g.pms))) := []
theorem spec_NodesOk.hf (k : Nat) (a0 : Config) (a1 : (List Int)) : (spec_NodesOk.f k a0 a1 : Option (denR (outTys spec_NodesOk.g.rts spec_NodesOk.g.pms))) = evC (spec_NodesOk.E k) (fun κ s => lhOf k κ s spec_NodesOk.pts) b102 (OM.start spec_NodesOk.g.pms 0 (a0, a1, ())) (OM.fin spec_NodesOk.g Try.f102.results.toList) := by kernel_rfl
theorem spec_NodesOk.ok (k : Nat) : SmOk Try.prog (spec_NodesOk.sm k) :=
  sm_ok mixed (E := spec_NodesOk.E) (pts := spec_NodesOk.pts) (fun k => ⟨⟨tysOk, by kernel_rfl⟩, forall_cons ⟨spec_ConfigOk.ok k, e101⟩ (forall_cons ⟨spec_l4Asc.ok k, e132⟩ (forall_nil))⟩) (fun _ => rfl) (fun _ => rfl)
    ⟨Try.func102, by kernel_rfl, by kernel_rfl, by kernel_rfl, by kernel_rfl, by kernel_rfl, by kernel_rfl⟩ (forall_nil) (fun k x => spec_NodesOk.hf k x.1 x.2.1) k
noncomputable def b115 : Code := Try.f115.body.getD .skip
theorem e115 : OM.Entry Try.prog 115 := ⟨_, Try.func115, by kernel_rfl, by kernel_rfl⟩
@[reducible] noncomputable def spec_l4Span.g : Sig := ⟨[.fz tConfig, .fz (.sl (.int .i64))], [.v (.int .i64) .z], []⟩
@[reducible] noncomputable def spec_l4Span.fk : Nat → denI spec_l4Span.g.pms → Option (denR (outTys spec_l4Span.g.rts spec_l4Span.g.pms)) := fun k x => spec_l4Span.f k x.1 x.2.1
@[reducible] noncomputable def spec_l4Span.sm (k : Nat) : Sm := ⟨115, spec_l4Span.g.pms, spec_l4Span.g.rts, spec_l4Span.fk k⟩
noncomputable def spec_l4Span.E (k : Nat) : Env := ⟨tys, [], [23], [], []⟩
@[reducible] noncomputable def spec_l4Span.s9 : List Slot := [.v 4 (.sl (.int .i64)) .z [] 0, .r 8 9 [] tConfig, .v 20 (.sl .bool) (.own .z) [] 0, .v 24 (.int .i64) .z [] 0, .v 28 (.int .i64) .z [] 0, .v 9 tConfig .z [] 0]
noncomputable def spec_l4Span.pts : List (Pt (denR (outTys spec_l4Span.g.rts spec_l4Span.g.pms))) := [⟨9, spec_l4Span.s9, fun k x => spec_l4Span.p9 k x.1 x.2.1 x.2.2.1 x.2.2.2.1 x.2.2.2.2.1⟩]
theorem spec_l4Span.h9 (k : Nat) (x0 : (List Int)) (x1 : (List Bool)) (x2 : Int) (x3 : Int) (x4 : Config) : (spec_l4Span.p9 (k + 1) x0 x1 x2 x3 x4 : Option (denR (outTys spec_l4Span.g.rts spec_l4Span.g.pms))) = evAt (spec_l4Span.E k) (fun κ s => lhOf k κ s spec_l4Span.pts) 9 b115 (unproj spec_l4Span.s9 (x0, x1, x2, x3, x4, ())) (OM.fin spec_l4Span.g Try.f115.results.toList) := by kernel_rfl
theorem spec_l4Span.hf (k : Nat) (a0 : Config) (a1 : (List Int)) : (spec_l4Span.f k a0 a1 : Option (denR (outTys spec_l4Span.g.rts spec_l4Span.g.pms))) = evC (spec_l4Span.E k) (fun κ s => lhOf k κ s spec_l4Span.pts) b115 (OM.start spec_l4Span.g.pms 0 (a0, a1, ())) (OM.fin spec_l4Span.g Try.f115.results.toList) := by kernel_rfl
theorem spec_l4Span.ok (k : Nat) : SmOk Try.prog (spec_l4Span.sm k) :=
  sm_ok mixed (E := spec_l4Span.E) (pts := spec_l4Span.pts) (fun k => ⟨⟨tysOk, by kernel_rfl⟩, forall_nil⟩) (fun _ => rfl) (fun _ => rfl)
    ⟨Try.func115, by kernel_rfl, by kernel_rfl, by kernel_rfl, by kernel_rfl, by kernel_rfl, by kernel_rfl⟩ (forall_cons (fun x => ⟨rfl, fun k => spec_l4Span.h9 k x.1 x.2.1 x.2.2.1 x.2.2.2.1 x.2.2.2.2.1⟩) (forall_nil)) (fun k x => spec_l4Span.hf k x.1 x.2.1) k
noncomputable def b67 : Code := Try.f67.body.getD .skip
theorem e67 : OM.Entry Try.prog 67 := ⟨_, Try.func67, by kernel_rfl, by kernel_rfl⟩
@[reducible] noncomputable def spec_Holds.g : Sig := ⟨[.fz tConfig, .fz (.sl (.int .i64))], [.v .bool .z], []⟩
@[reducible] noncomputable def spec_Holds.fk : Nat → denI spec_Holds.g.pms → Option (denR (outTys spec_Holds.g.rts spec_Holds.g.pms)) := fun k x => spec_Holds.f k x.1 x.2.1
@[reducible] noncomputable def spec_Holds.sm (k : Nat) : Sm := ⟨67, spec_Holds.g.pms, spec_Holds.g.rts, spec_Holds.fk k⟩
noncomputable def spec_Holds.E (k : Nat) : Env := ⟨tys, [spec_NodesOk.sm k, spec_l4Span.sm k], [], [], []⟩
noncomputable def spec_Holds.pts : List (Pt (denR (outTys spec_Holds.g.rts spec_Holds.g.pms))) := []
theorem spec_Holds.hf (k : Nat) (a0 : Config) (a1 : (List Int)) : (spec_Holds.f k a0 a1 : Option (denR (outTys spec_Holds.g.rts spec_Holds.g.pms))) = evC (spec_Holds.E k) (fun κ s => lhOf k κ s spec_Holds.pts) b67 (OM.start spec_Holds.g.pms 0 (a0, a1, ())) (OM.fin spec_Holds.g Try.f67.results.toList) := by kernel_rfl
theorem spec_Holds.ok (k : Nat) : SmOk Try.prog (spec_Holds.sm k) :=
  sm_ok mixed (E := spec_Holds.E) (pts := spec_Holds.pts) (fun k => ⟨⟨tysOk, by kernel_rfl⟩, forall_cons ⟨spec_NodesOk.ok k, e102⟩ (forall_cons ⟨spec_l4Span.ok k, e115⟩ (forall_nil))⟩) (fun _ => rfl) (fun _ => rfl)
    ⟨Try.func67, by kernel_rfl, by kernel_rfl, by kernel_rfl, by kernel_rfl, by kernel_rfl, by kernel_rfl⟩ (forall_nil) (fun k x => spec_Holds.hf k x.1 x.2.1) k
noncomputable def b49 : Code := Try.f49.body.getD .skip
theorem e49 : OM.Entry Try.prog 49 := ⟨_, Try.func49, by kernel_rfl, by kernel_rfl⟩
@[reducible] noncomputable def spec_WriterOk.g : Sig := ⟨[.fz tConfig, .fz tWriter], [.v .bool .z], []⟩
@[reducible] noncomputable def spec_WriterOk.fk : Nat → denI spec_WriterOk.g.pms → Option (denR (outTys spec_WriterOk.g.rts spec_WriterOk.g.pms)) := fun k x => spec_WriterOk.f k x.1 x.2.1
@[reducible] noncomputable def spec_WriterOk.sm (k : Nat) : Sm := ⟨49, spec_WriterOk.g.pms, spec_WriterOk.g.rts, spec_WriterOk.fk k⟩
noncomputable def spec_WriterOk.E (k : Nat) : Env := ⟨tys, [spec_l1In.sm k, spec_ConfigOk.sm k, spec_NodesOk.sm k, spec_Holds.sm k], [34], [], [4]⟩
@[reducible] noncomputable def spec_WriterOk.s11 : List Slot := [.r 8 9 [] tConfig, .r 12 13 [] tWriter, .v 20 (.int .i64) .z [] 0, .v 24 (.int .i64) .z [] 0, .v 9 tConfig .z [] 0, .v 13 tWriter .z [] 0]
noncomputable def spec_WriterOk.pts : List (Pt (denR (outTys spec_WriterOk.g.rts spec_WriterOk.g.pms))) := [⟨11, spec_WriterOk.s11, fun k x => spec_WriterOk.p11 k x.1 x.2.1 x.2.2.1 x.2.2.2.1⟩]
theorem spec_WriterOk.h11 (k : Nat) (x0 : Int) (x1 : Int) (x2 : Config) (x3 : Writer) : (spec_WriterOk.p11 (k + 1) x0 x1 x2 x3 : Option (denR (outTys spec_WriterOk.g.rts spec_WriterOk.g.pms))) = evAt (spec_WriterOk.E k) (fun κ s => lhOf k κ s spec_WriterOk.pts) 11 b49 (unproj spec_WriterOk.s11 (x0, x1, x2, x3, ())) (OM.fin spec_WriterOk.g Try.f49.results.toList) := by kernel_rfl
theorem spec_WriterOk.hf (k : Nat) (a0 : Config) (a1 : Writer) : (spec_WriterOk.f k a0 a1 : Option (denR (outTys spec_WriterOk.g.rts spec_WriterOk.g.pms))) = evC (spec_WriterOk.E k) (fun κ s => lhOf k κ s spec_WriterOk.pts) b49 (OM.start spec_WriterOk.g.pms 0 (a0, a1, ())) (OM.fin spec_WriterOk.g Try.f49.results.toList) := by kernel_rfl
theorem spec_WriterOk.ok (k : Nat) : SmOk Try.prog (spec_WriterOk.sm k) :=
  sm_ok mixed (E := spec_WriterOk.E) (pts := spec_WriterOk.pts) (fun k => ⟨⟨tysOk, by kernel_rfl⟩, forall_cons ⟨spec_l1In.ok k, e65⟩ (forall_cons ⟨spec_ConfigOk.ok k, e101⟩ (forall_cons ⟨spec_NodesOk.ok k, e102⟩ (forall_cons ⟨spec_Holds.ok k, e67⟩ (forall_nil))))⟩) (fun _ => rfl) (fun _ => rfl)
    ⟨Try.func49, by kernel_rfl, by kernel_rfl, by kernel_rfl, by kernel_rfl, by kernel_rfl, by kernel_rfl⟩ (forall_cons (fun x => ⟨rfl, fun k => spec_WriterOk.h11 k x.1 x.2.1 x.2.2.1 x.2.2.2.1⟩) (forall_nil)) (fun k x => spec_WriterOk.hf k x.1 x.2.1) k
noncomputable def b50 : Code := Try.f50.body.getD .skip
theorem e50 : OM.Entry Try.prog 50 := ⟨_, Try.func50, by kernel_rfl, by kernel_rfl⟩
@[reducible] noncomputable def spec_l8Copy.g : Sig := ⟨[.fz tWriter], [.v tWriter (.two .z (.two (.own (.two .z (.two (.own .z) .z))) .z))], []⟩
@[reducible] noncomputable def spec_l8Copy.fk : Nat → denI spec_l8Copy.g.pms → Option (denR (outTys spec_l8Copy.g.rts spec_l8Copy.g.pms)) := fun k x => spec_l8Copy.f k x.1
@[reducible] noncomputable def spec_l8Copy.sm (k : Nat) : Sm := ⟨50, spec_l8Copy.g.pms, spec_l8Copy.g.rts, spec_l8Copy.fk k⟩
noncomputable def spec_l8Copy.E (k : Nat) : Env := ⟨tys, [], [20, 28], [], []⟩
@[reducible] noncomputable def spec_l8Copy.s7 : List Slot := [.r 4 5 [] tWriter, .r 8 9 [] tWriter, .r 12 13 [] tWriter, .v 16 (.int .i64) .z [] 0, .v 5 tWriter .z [] 0, .v 9 tWriter (.two .z (.two (.own .a) .z)) [] 0, .v 13 tWriter (.two .z (.two (.own (.two .z (.two (.own .z) .z))) .z)) [] 0]
noncomputable def spec_l8Copy.pts : List (Pt (denR (outTys spec_l8Copy.g.rts spec_l8Copy.g.pms))) := [⟨7, spec_l8Copy.s7, fun k x => spec_l8Copy.p7 k x.1 x.2.1 x.2.2.1 x.2.2.2.1⟩]
theorem spec_l8Copy.h7 (k : Nat) (x0 : Int) (x1 : Writer) (x2 : Writer) (x3 : Writer) : (spec_l8Copy.p7 (k + 1) x0 x1 x2 x3 : Option (denR (outTys spec_l8Copy.g.rts spec_l8Copy.g.pms))) = evAt (spec_l8Copy.E k) (fun κ s => lhOf k κ s spec_l8Copy.pts) 7 b50 (unproj spec_l8Copy.s7 (x0, x1, x2, x3, ())) (OM.fin spec_l8Copy.g Try.f50.results.toList) := by kernel_rfl
theorem spec_l8Copy.hf (k : Nat) (a0 : Writer) : (spec_l8Copy.f k a0 : Option (denR (outTys spec_l8Copy.g.rts spec_l8Copy.g.pms))) = evC (spec_l8Copy.E k) (fun κ s => lhOf k κ s spec_l8Copy.pts) b50 (OM.start spec_l8Copy.g.pms 0 (a0, ())) (OM.fin spec_l8Copy.g Try.f50.results.toList) := by kernel_rfl
theorem spec_l8Copy.ok (k : Nat) : SmOk Try.prog (spec_l8Copy.sm k) :=
  sm_ok mixed (E := spec_l8Copy.E) (pts := spec_l8Copy.pts) (fun k => ⟨⟨tysOk, by kernel_rfl⟩, forall_nil⟩) (fun _ => rfl) (fun _ => rfl)
    ⟨Try.func50, by kernel_rfl, by kernel_rfl, by kernel_rfl, by kernel_rfl, by kernel_rfl, by kernel_rfl⟩ (forall_cons (fun x => ⟨rfl, fun k => spec_l8Copy.h7 k x.1 x.2.1 x.2.2.1 x.2.2.2.1⟩) (forall_nil)) (fun k x => spec_l8Copy.hf k x.1) k
noncomputable def b103 : Code := Try.f103.body.getD .skip
theorem e103 : OM.Entry Try.prog 103 := ⟨_, Try.func103, by kernel_rfl, by kernel_rfl⟩
@[reducible] noncomputable def spec_l4Has.g : Sig := ⟨[.fz (.sl (.int .i64)), .fz (.int .i64)], [.v .bool .z], []⟩
@[reducible] noncomputable def spec_l4Has.fk : Nat → denI spec_l4Has.g.pms → Option (denR (outTys spec_l4Has.g.rts spec_l4Has.g.pms)) := fun k x => spec_l4Has.f k x.1 x.2.1
@[reducible] noncomputable def spec_l4Has.sm (k : Nat) : Sm := ⟨103, spec_l4Has.g.pms, spec_l4Has.g.rts, spec_l4Has.fk k⟩
noncomputable def spec_l4Has.E (k : Nat) : Env := ⟨tys, [], [], [], []⟩
@[reducible] noncomputable def spec_l4Has.s5 : List Slot := [.v 0 (.sl (.int .i64)) .z [] 0, .v 4 (.int .i64) .z [] 0, .v 20 (.int .i64) .z [] 0]
noncomputable def spec_l4Has.pts : List (Pt (denR (outTys spec_l4Has.g.rts spec_l4Has.g.pms))) := [⟨5, spec_l4Has.s5, fun k x => spec_l4Has.p5 k x.1 x.2.1 x.2.2.1⟩]
theorem spec_l4Has.h5 (k : Nat) (x0 : (List Int)) (x1 : Int) (x2 : Int) : (spec_l4Has.p5 (k + 1) x0 x1 x2 : Option (denR (outTys spec_l4Has.g.rts spec_l4Has.g.pms))) = evAt (spec_l4Has.E k) (fun κ s => lhOf k κ s spec_l4Has.pts) 5 b103 (unproj spec_l4Has.s5 (x0, x1, x2, ())) (OM.fin spec_l4Has.g Try.f103.results.toList) := by kernel_rfl
theorem spec_l4Has.hf (k : Nat) (a0 : (List Int)) (a1 : Int) : (spec_l4Has.f k a0 a1 : Option (denR (outTys spec_l4Has.g.rts spec_l4Has.g.pms))) = evC (spec_l4Has.E k) (fun κ s => lhOf k κ s spec_l4Has.pts) b103 (OM.start spec_l4Has.g.pms 0 (a0, a1, ())) (OM.fin spec_l4Has.g Try.f103.results.toList) := by kernel_rfl
theorem spec_l4Has.ok (k : Nat) : SmOk Try.prog (spec_l4Has.sm k) :=
  sm_ok mixed (E := spec_l4Has.E) (pts := spec_l4Has.pts) (fun k => ⟨⟨tysOk, by kernel_rfl⟩, forall_nil⟩) (fun _ => rfl) (fun _ => rfl)
    ⟨Try.func103, by kernel_rfl, by kernel_rfl, by kernel_rfl, by kernel_rfl, by kernel_rfl, by kernel_rfl⟩ (forall_cons (fun x => ⟨rfl, fun k => spec_l4Has.h5 k x.1 x.2.1 x.2.2.1⟩) (forall_nil)) (fun k x => spec_l4Has.hf k x.1 x.2.1) k
noncomputable def b51 : Code := Try.f51.body.getD .skip
theorem e51 : OM.Entry Try.prog 51 := ⟨_, Try.func51, by kernel_rfl, by kernel_rfl⟩
@[reducible] noncomputable def spec_l4Less.g : Sig := ⟨[.fz (.sl (.int .i64)), .fz (.sl (.int .i64))], [.v (.sl (.int .i64)) (.own .z)], []⟩
@[reducible] noncomputable def spec_l4Less.fk : Nat → denI spec_l4Less.g.pms → Option (denR (outTys spec_l4Less.g.rts spec_l4Less.g.pms)) := fun k x => spec_l4Less.f k x.1 x.2.1
@[reducible] noncomputable def spec_l4Less.sm (k : Nat) : Sm := ⟨51, spec_l4Less.g.pms, spec_l4Less.g.rts, spec_l4Less.fk k⟩
noncomputable def spec_l4Less.E (k : Nat) : Env := ⟨tys, [spec_l4Has.sm k], [25], [], []⟩
@[reducible] noncomputable def spec_l4Less.s7 : List Slot := [.v 0 (.sl (.int .i64)) .z [] 0, .v 4 (.sl (.int .i64)) .z [] 0, .v 20 (.sl (.int .i64)) (.own .z) [] 0, .v 24 (.int .i64) .z [] 0]
noncomputable def spec_l4Less.pts : List (Pt (denR (outTys spec_l4Less.g.rts spec_l4Less.g.pms))) := [⟨7, spec_l4Less.s7, fun k x => spec_l4Less.p7 k x.1 x.2.1 x.2.2.1 x.2.2.2.1⟩]
theorem spec_l4Less.h7 (k : Nat) (x0 : (List Int)) (x1 : (List Int)) (x2 : (List Int)) (x3 : Int) : (spec_l4Less.p7 (k + 1) x0 x1 x2 x3 : Option (denR (outTys spec_l4Less.g.rts spec_l4Less.g.pms))) = evAt (spec_l4Less.E k) (fun κ s => lhOf k κ s spec_l4Less.pts) 7 b51 (unproj spec_l4Less.s7 (x0, x1, x2, x3, ())) (OM.fin spec_l4Less.g Try.f51.results.toList) := by kernel_rfl
theorem spec_l4Less.hf (k : Nat) (a0 : (List Int)) (a1 : (List Int)) : (spec_l4Less.f k a0 a1 : Option (denR (outTys spec_l4Less.g.rts spec_l4Less.g.pms))) = evC (spec_l4Less.E k) (fun κ s => lhOf k κ s spec_l4Less.pts) b51 (OM.start spec_l4Less.g.pms 0 (a0, a1, ())) (OM.fin spec_l4Less.g Try.f51.results.toList) := by kernel_rfl
theorem spec_l4Less.ok (k : Nat) : SmOk Try.prog (spec_l4Less.sm k) :=
  sm_ok mixed (E := spec_l4Less.E) (pts := spec_l4Less.pts) (fun k => ⟨⟨tysOk, by kernel_rfl⟩, forall_cons ⟨spec_l4Has.ok k, e103⟩ (forall_nil)⟩) (fun _ => rfl) (fun _ => rfl)
    ⟨Try.func51, by kernel_rfl, by kernel_rfl, by kernel_rfl, by kernel_rfl, by kernel_rfl, by kernel_rfl⟩ (forall_cons (fun x => ⟨rfl, fun k => spec_l4Less.h7 k x.1 x.2.1 x.2.2.1 x.2.2.2.1⟩) (forall_nil)) (fun k x => spec_l4Less.hf k x.1 x.2.1) k
noncomputable def b11 : Code := Try.f11.body.getD .skip
theorem e11 : OM.Entry Try.prog 11 := ⟨_, Try.func11, by kernel_rfl, by kernel_rfl⟩
@[reducible] noncomputable def spec_WriterForget.g : Sig := ⟨[.fz tConfig, .fz tWriter, .fz (.int .i64)], [.v tWriter (.two .z (.two (.own (.two .z (.two (.own .z) .z))) .z)), .v .bool .z], []⟩
@[reducible] noncomputable def spec_WriterForget.fk : Nat → denI spec_WriterForget.g.pms → Option (denR (outTys spec_WriterForget.g.rts spec_WriterForget.g.pms)) := fun k x => spec_WriterForget.f k x.1 x.2.1 x.2.2.1
@[reducible] noncomputable def spec_WriterForget.sm (k : Nat) : Sm := ⟨11, spec_WriterForget.g.pms, spec_WriterForget.g.rts, spec_WriterForget.fk k⟩
noncomputable def spec_WriterForget.E (k : Nat) : Env := ⟨tys, [spec_WriterOk.sm k, spec_l8Copy.sm k, spec_l4Less.sm k], [], [], []⟩
@[reducible] noncomputable def spec_WriterForget.s11 : List Slot := [.v 8 (.int .i64) .z [] 0, .r 24 25 [] tWriter, .r 32 33 [] tWriter, .v 36 (.int .i64) .z [] 0, .v 25 tWriter (.two .z (.two (.own .a) .z)) [] 0, .v 33 tWriter (.two .z (.two (.own (.two .z (.two (.own .z) .z))) .z)) [] 0]
noncomputable def spec_WriterForget.pts : List (Pt (denR (outTys spec_WriterForget.g.rts spec_WriterForget.g.pms))) := [⟨11, spec_WriterForget.s11, fun k x => spec_WriterForget.p11 k x.1 x.2.1 x.2.2.1 x.2.2.2.1⟩]
theorem spec_WriterForget.h11 (k : Nat) (x0 : Int) (x1 : Int) (x2 : Writer) (x3 : Writer) : (spec_WriterForget.p11 (k + 1) x0 x1 x2 x3 : Option (denR (outTys spec_WriterForget.g.rts spec_WriterForget.g.pms))) = evAt (spec_WriterForget.E k) (fun κ s => lhOf k κ s spec_WriterForget.pts) 11 b11 (unproj spec_WriterForget.s11 (x0, x1, x2, x3, ())) (OM.fin spec_WriterForget.g Try.f11.results.toList) := by kernel_rfl
theorem spec_WriterForget.hf (k : Nat) (a0 : Config) (a1 : Writer) (a2 : Int) : (spec_WriterForget.f k a0 a1 a2 : Option (denR (outTys spec_WriterForget.g.rts spec_WriterForget.g.pms))) = evC (spec_WriterForget.E k) (fun κ s => lhOf k κ s spec_WriterForget.pts) b11 (OM.start spec_WriterForget.g.pms 0 (a0, a1, a2, ())) (OM.fin spec_WriterForget.g Try.f11.results.toList) := by kernel_rfl
theorem spec_WriterForget.ok (k : Nat) : SmOk Try.prog (spec_WriterForget.sm k) :=
  sm_ok mixed (E := spec_WriterForget.E) (pts := spec_WriterForget.pts) (fun k => ⟨⟨tysOk, by kernel_rfl⟩, forall_cons ⟨spec_WriterOk.ok k, e49⟩ (forall_cons ⟨spec_l8Copy.ok k, e50⟩ (forall_cons ⟨spec_l4Less.ok k, e51⟩ (forall_nil)))⟩) (fun _ => rfl) (fun _ => rfl)
    ⟨Try.func11, by kernel_rfl, by kernel_rfl, by kernel_rfl, by kernel_rfl, by kernel_rfl, by kernel_rfl⟩ (forall_cons (fun x => ⟨rfl, fun k => spec_WriterForget.h11 k x.1 x.2.1 x.2.2.1 x.2.2.2.1⟩) (forall_nil)) (fun k x => spec_WriterForget.hf k x.1 x.2.1 x.2.2.1) k
noncomputable def b70 : Code := Try.f70.body.getD .skip
theorem e70 : OM.Entry Try.prog 70 := ⟨_, Try.func70, by kernel_rfl, by kernel_rfl⟩
@[reducible] noncomputable def impl_dataOk.g : Sig := ⟨[.fz .str], [.v .bool .z], []⟩
@[reducible] noncomputable def impl_dataOk.fk : Nat → denI impl_dataOk.g.pms → Option (denR (outTys impl_dataOk.g.rts impl_dataOk.g.pms)) := fun k x => impl_dataOk.f x.1
@[reducible] noncomputable def impl_dataOk.sm (k : Nat) : Sm := ⟨70, impl_dataOk.g.pms, impl_dataOk.g.rts, impl_dataOk.fk k⟩
noncomputable def impl_dataOk.E (k : Nat) : Env := ⟨tys, [], [], [], []⟩
noncomputable def impl_dataOk.pts : List (Pt (denR (outTys impl_dataOk.g.rts impl_dataOk.g.pms))) := []
theorem impl_dataOk.hf (k : Nat) (a0 : ByteArray) : (impl_dataOk.f a0 : Option (denR (outTys impl_dataOk.g.rts impl_dataOk.g.pms))) = evC (impl_dataOk.E k) (fun κ s => lhOf k κ s impl_dataOk.pts) b70 (OM.start impl_dataOk.g.pms 0 (a0, ())) (OM.fin impl_dataOk.g Try.f70.results.toList) := by kernel_rfl
theorem impl_dataOk.ok (k : Nat) : SmOk Try.prog (impl_dataOk.sm k) :=
  sm_ok mixed (E := impl_dataOk.E) (pts := impl_dataOk.pts) (fun k => ⟨⟨tysOk, by kernel_rfl⟩, forall_nil⟩) (fun _ => rfl) (fun _ => rfl)
    ⟨Try.func70, by kernel_rfl, by kernel_rfl, by kernel_rfl, by kernel_rfl, by kernel_rfl, by kernel_rfl⟩ (forall_nil) (fun k x => impl_dataOk.hf k x.1) k
noncomputable def b62 : Code := Try.f62.body.getD .skip
theorem e62 : OM.Entry Try.prog 62 := ⟨_, Try.func62, by kernel_rfl, by kernel_rfl⟩
@[reducible] noncomputable def impl_within.g : Sig := ⟨[.fz (.int .i64), .fz (.int .i64), .fz (.int .i64)], [.v .bool .z], []⟩
@[reducible] noncomputable def impl_within.fk : Nat → denI impl_within.g.pms → Option (denR (outTys impl_within.g.rts impl_within.g.pms)) := fun k x => impl_within.f x.1 x.2.1 x.2.2.1
@[reducible] noncomputable def impl_within.sm (k : Nat) : Sm := ⟨62, impl_within.g.pms, impl_within.g.rts, impl_within.fk k⟩
noncomputable def impl_within.E (k : Nat) : Env := ⟨tys, [], [], [], []⟩
noncomputable def impl_within.pts : List (Pt (denR (outTys impl_within.g.rts impl_within.g.pms))) := []
theorem impl_within.hf (k : Nat) (a0 : Int) (a1 : Int) (a2 : Int) : (impl_within.f a0 a1 a2 : Option (denR (outTys impl_within.g.rts impl_within.g.pms))) = evC (impl_within.E k) (fun κ s => lhOf k κ s impl_within.pts) b62 (OM.start impl_within.g.pms 0 (a0, a1, a2, ())) (OM.fin impl_within.g Try.f62.results.toList) := by kernel_rfl
theorem impl_within.ok (k : Nat) : SmOk Try.prog (impl_within.sm k) :=
  sm_ok mixed (E := impl_within.E) (pts := impl_within.pts) (fun k => ⟨⟨tysOk, by kernel_rfl⟩, forall_nil⟩) (fun _ => rfl) (fun _ => rfl)
    ⟨Try.func62, by kernel_rfl, by kernel_rfl, by kernel_rfl, by kernel_rfl, by kernel_rfl, by kernel_rfl⟩ (forall_nil) (fun k x => impl_within.hf k x.1 x.2.1 x.2.2.1) k
noncomputable def b72 : Code := Try.f72.body.getD .skip
theorem e72 : OM.Entry Try.prog 72 := ⟨_, Try.func72, by kernel_rfl, by kernel_rfl⟩
@[reducible] noncomputable def impl_ConfigOk.g : Sig := ⟨[.fz tConfig], [.v .bool .z], []⟩
@[reducible] noncomputable def impl_ConfigOk.fk : Nat → denI impl_ConfigOk.g.pms → Option (denR (outTys impl_ConfigOk.g.rts impl_ConfigOk.g.pms)) := fun k x => impl_ConfigOk.f k x.1
@[reducible] noncomputable def impl_ConfigOk.sm (k : Nat) : Sm := ⟨72, impl_ConfigOk.g.pms, impl_ConfigOk.g.rts, impl_ConfigOk.fk k⟩
noncomputable def impl_ConfigOk.E (k : Nat) : Env := ⟨tys, [impl_within.sm k], [11], [], []⟩
@[reducible] noncomputable def impl_ConfigOk.s5 : List Slot := [.r 4 5 [] tConfig, .v 24 (.sl (.int .i64)) .z [] 0, .v 28 (.int .i64) .z [] 0, .v 32 (.int .i64) .z [] 0, .v 5 tConfig .z [] 0]
noncomputable def impl_ConfigOk.pts : List (Pt (denR (outTys impl_ConfigOk.g.rts impl_ConfigOk.g.pms))) := [⟨5, impl_ConfigOk.s5, fun k x => impl_ConfigOk.p5 k x.1 x.2.1 x.2.2.1 x.2.2.2.1⟩]
theorem impl_ConfigOk.h5 (k : Nat) (x0 : (List Int)) (x1 : Int) (x2 : Int) (x3 : Config) : (impl_ConfigOk.p5 (k + 1) x0 x1 x2 x3 : Option (denR (outTys impl_ConfigOk.g.rts impl_ConfigOk.g.pms))) = evAt (impl_ConfigOk.E k) (fun κ s => lhOf k κ s impl_ConfigOk.pts) 5 b72 (unproj impl_ConfigOk.s5 (x0, x1, x2, x3, ())) (OM.fin impl_ConfigOk.g Try.f72.results.toList) := by kernel_rfl
theorem impl_ConfigOk.hf (k : Nat) (a0 : Config) : (impl_ConfigOk.f k a0 : Option (denR (outTys impl_ConfigOk.g.rts impl_ConfigOk.g.pms))) = evC (impl_ConfigOk.E k) (fun κ s => lhOf k κ s impl_ConfigOk.pts) b72 (OM.start impl_ConfigOk.g.pms 0 (a0, ())) (OM.fin impl_ConfigOk.g Try.f72.results.toList) := by kernel_rfl
theorem impl_ConfigOk.ok (k : Nat) : SmOk Try.prog (impl_ConfigOk.sm k) :=
  sm_ok mixed (E := impl_ConfigOk.E) (pts := impl_ConfigOk.pts) (fun k => ⟨⟨tysOk, by kernel_rfl⟩, forall_cons ⟨impl_within.ok k, e62⟩ (forall_nil)⟩) (fun _ => rfl) (fun _ => rfl)
    ⟨Try.func72, by kernel_rfl, by kernel_rfl, by kernel_rfl, by kernel_rfl, by kernel_rfl, by kernel_rfl⟩ (forall_cons (fun x => ⟨rfl, fun k => impl_ConfigOk.h5 k x.1 x.2.1 x.2.2.1 x.2.2.2.1⟩) (forall_nil)) (fun k x => impl_ConfigOk.hf k x.1) k
noncomputable def b116 : Code := Try.f116.body.getD .skip
theorem e116 : OM.Entry Try.prog 116 := ⟨_, Try.func116, by kernel_rfl, by kernel_rfl⟩
@[reducible] noncomputable def impl_ascends.g : Sig := ⟨[.fz (.sl (.int .i64)), .fz (.int .i64)], [.v .bool .z], []⟩
@[reducible] noncomputable def impl_ascends.fk : Nat → denI impl_ascends.g.pms → Option (denR (outTys impl_ascends.g.rts impl_ascends.g.pms)) := fun k x => impl_ascends.f k x.1 x.2.1
@[reducible] noncomputable def impl_ascends.sm (k : Nat) : Sm := ⟨116, impl_ascends.g.pms, impl_ascends.g.rts, impl_ascends.fk k⟩
noncomputable def impl_ascends.E (k : Nat) : Env := ⟨tys, [impl_within.sm k], [13], [], []⟩
@[reducible] noncomputable def impl_ascends.s5 : List Slot := [.v 0 (.sl (.int .i64)) .z [] 0, .v 4 (.int .i64) .z [] 0, .v 28 (.sl (.int .i64)) .z [] 0, .v 32 (.int .i64) .z [] 0, .v 36 (.int .i64) .z [] 0]
noncomputable def impl_ascends.pts : List (Pt (denR (outTys impl_ascends.g.rts impl_ascends.g.pms))) := [⟨5, impl_ascends.s5, fun k x => impl_ascends.p5 k x.1 x.2.1 x.2.2.1 x.2.2.2.1 x.2.2.2.2.1⟩]
theorem impl_ascends.h5 (k : Nat) (x0 : (List Int)) (x1 : Int) (x2 : (List Int)) (x3 : Int) (x4 : Int) : (impl_ascends.p5 (k + 1) x0 x1 x2 x3 x4 : Option (denR (outTys impl_ascends.g.rts impl_ascends.g.pms))) = evAt (impl_ascends.E k) (fun κ s => lhOf k κ s impl_ascends.pts) 5 b116 (unproj impl_ascends.s5 (x0, x1, x2, x3, x4, ())) (OM.fin impl_ascends.g Try.f116.results.toList) := by kernel_rfl
theorem impl_ascends.hf (k : Nat) (a0 : (List Int)) (a1 : Int) : (impl_ascends.f k a0 a1 : Option (denR (outTys impl_ascends.g.rts impl_ascends.g.pms))) = evC (impl_ascends.E k) (fun κ s => lhOf k κ s impl_ascends.pts) b116 (OM.start impl_ascends.g.pms 0 (a0, a1, ())) (OM.fin impl_ascends.g Try.f116.results.toList) := by kernel_rfl
theorem impl_ascends.ok (k : Nat) : SmOk Try.prog (impl_ascends.sm k) :=
  sm_ok mixed (E := impl_ascends.E) (pts := impl_ascends.pts) (fun k => ⟨⟨tysOk, by kernel_rfl⟩, forall_cons ⟨impl_within.ok k, e62⟩ (forall_nil)⟩) (fun _ => rfl) (fun _ => rfl)
    ⟨Try.func116, by kernel_rfl, by kernel_rfl, by kernel_rfl, by kernel_rfl, by kernel_rfl, by kernel_rfl⟩ (forall_cons (fun x => ⟨rfl, fun k => impl_ascends.h5 k x.1 x.2.1 x.2.2.1 x.2.2.2.1 x.2.2.2.2.1⟩) (forall_nil)) (fun k x => impl_ascends.hf k x.1 x.2.1) k
noncomputable def b68 : Code := Try.f68.body.getD .skip
theorem e68 : OM.Entry Try.prog 68 := ⟨_, Try.func68, by kernel_rfl, by kernel_rfl⟩
@[reducible] noncomputable def impl_NodesOk.g : Sig := ⟨[.fz tConfig, .fz (.sl (.int .i64))], [.v .bool .z], []⟩
@[reducible] noncomputable def impl_NodesOk.fk : Nat → denI impl_NodesOk.g.pms → Option (denR (outTys impl_NodesOk.g.rts impl_NodesOk.g.pms)) := fun k x => impl_NodesOk.f k x.1 x.2.1
@[reducible] noncomputable def impl_NodesOk.sm (k : Nat) : Sm := ⟨68, impl_NodesOk.g.pms, impl_NodesOk.g.rts, impl_NodesOk.fk k⟩
noncomputable def impl_NodesOk.E (k : Nat) : Env := ⟨tys, [impl_ConfigOk.sm k, impl_ascends.sm k], [], [], []⟩
noncomputable def impl_NodesOk.pts : List (Pt (denR (outTys impl_NodesOk.g.rts impl_NodesOk.g.pms))) := []
theorem impl_NodesOk.hf (k : Nat) (a0 : Config) (a1 : (List Int)) : (impl_NodesOk.f k a0 a1 : Option (denR (outTys impl_NodesOk.g.rts impl_NodesOk.g.pms))) = evC (impl_NodesOk.E k) (fun κ s => lhOf k κ s impl_NodesOk.pts) b68 (OM.start impl_NodesOk.g.pms 0 (a0, a1, ())) (OM.fin impl_NodesOk.g Try.f68.results.toList) := by kernel_rfl
theorem impl_NodesOk.ok (k : Nat) : SmOk Try.prog (impl_NodesOk.sm k) :=
  sm_ok mixed (E := impl_NodesOk.E) (pts := impl_NodesOk.pts) (fun k => ⟨⟨tysOk, by kernel_rfl⟩, forall_cons ⟨impl_ConfigOk.ok k, e72⟩ (forall_cons ⟨impl_ascends.ok k, e116⟩ (forall_nil))⟩) (fun _ => rfl) (fun _ => rfl)
    ⟨Try.func68, by kernel_rfl, by kernel_rfl, by kernel_rfl, by kernel_rfl, by kernel_rfl, by kernel_rfl⟩ (forall_nil) (fun k x => impl_NodesOk.hf k x.1 x.2.1) k
noncomputable def b142 : Code := Try.f142.body.getD .skip
theorem e142 : OM.Entry Try.prog 142 := ⟨_, Try.func142, by kernel_rfl, by kernel_rfl⟩
@[reducible] noncomputable def slices_Index_int_int.g : Sig := ⟨[.fz (.sl (.int .i64)), .fz (.int .i64)], [.v (.int .i64) .z], []⟩
@[reducible] noncomputable def slices_Index_int_int.fk : Nat → denI slices_Index_int_int.g.pms → Option (denR (outTys slices_Index_int_int.g.rts slices_Index_int_int.g.pms)) := fun k x => slices_Index_int_int.f k x.1 x.2.1
@[reducible] noncomputable def slices_Index_int_int.sm (k : Nat) : Sm := ⟨142, slices_Index_int_int.g.pms, slices_Index_int_int.g.rts, slices_Index_int_int.fk k⟩
noncomputable def slices_Index_int_int.E (k : Nat) : Env := ⟨tys, [], [], [], []⟩
@[reducible] noncomputable def slices_Index_int_int.s5 : List Slot := [.v 0 (.sl (.int .i64)) .z [] 0, .v 4 (.int .i64) .z [] 0, .v 28 (.int .i64) .z [] 0, .v 32 (.int .i64) .z [] 0]
noncomputable def slices_Index_int_int.pts : List (Pt (denR (outTys slices_Index_int_int.g.rts slices_Index_int_int.g.pms))) := [⟨5, slices_Index_int_int.s5, fun k x => slices_Index_int_int.p5 k x.1 x.2.1 x.2.2.1 x.2.2.2.1⟩]
theorem slices_Index_int_int.h5 (k : Nat) (x0 : (List Int)) (x1 : Int) (x2 : Int) (x3 : Int) : (slices_Index_int_int.p5 (k + 1) x0 x1 x2 x3 : Option (denR (outTys slices_Index_int_int.g.rts slices_Index_int_int.g.pms))) = evAt (slices_Index_int_int.E k) (fun κ s => lhOf k κ s slices_Index_int_int.pts) 5 b142 (unproj slices_Index_int_int.s5 (x0, x1, x2, x3, ())) (OM.fin slices_Index_int_int.g Try.f142.results.toList) := by kernel_rfl
theorem slices_Index_int_int.hf (k : Nat) (a0 : (List Int)) (a1 : Int) : (slices_Index_int_int.f k a0 a1 : Option (denR (outTys slices_Index_int_int.g.rts slices_Index_int_int.g.pms))) = evC (slices_Index_int_int.E k) (fun κ s => lhOf k κ s slices_Index_int_int.pts) b142 (OM.start slices_Index_int_int.g.pms 0 (a0, a1, ())) (OM.fin slices_Index_int_int.g Try.f142.results.toList) := by kernel_rfl
theorem slices_Index_int_int.ok (k : Nat) : SmOk Try.prog (slices_Index_int_int.sm k) :=
  sm_ok mixed (E := slices_Index_int_int.E) (pts := slices_Index_int_int.pts) (fun k => ⟨⟨tysOk, by kernel_rfl⟩, forall_nil⟩) (fun _ => rfl) (fun _ => rfl)
    ⟨Try.func142, by kernel_rfl, by kernel_rfl, by kernel_rfl, by kernel_rfl, by kernel_rfl, by kernel_rfl⟩ (forall_cons (fun x => ⟨rfl, fun k => slices_Index_int_int.h5 k x.1 x.2.1 x.2.2.1 x.2.2.2.1⟩) (forall_nil)) (fun k x => slices_Index_int_int.hf k x.1 x.2.1) k
noncomputable def b117 : Code := Try.f117.body.getD .skip
theorem e117 : OM.Entry Try.prog 117 := ⟨_, Try.func117, by kernel_rfl, by kernel_rfl⟩
@[reducible] noncomputable def slices_Contains_int_int.g : Sig := ⟨[.fz (.sl (.int .i64)), .fz (.int .i64)], [.v .bool .z], []⟩
@[reducible] noncomputable def slices_Contains_int_int.fk : Nat → denI slices_Contains_int_int.g.pms → Option (denR (outTys slices_Contains_int_int.g.rts slices_Contains_int_int.g.pms)) := fun k x => slices_Contains_int_int.f k x.1 x.2.1
@[reducible] noncomputable def slices_Contains_int_int.sm (k : Nat) : Sm := ⟨117, slices_Contains_int_int.g.pms, slices_Contains_int_int.g.rts, slices_Contains_int_int.fk k⟩
noncomputable def slices_Contains_int_int.E (k : Nat) : Env := ⟨tys, [slices_Index_int_int.sm k], [], [], []⟩
noncomputable def slices_Contains_int_int.pts : List (Pt (denR (outTys slices_Contains_int_int.g.rts slices_Contains_int_int.g.pms))) := []
theorem slices_Contains_int_int.hf (k : Nat) (a0 : (List Int)) (a1 : Int) : (slices_Contains_int_int.f k a0 a1 : Option (denR (outTys slices_Contains_int_int.g.rts slices_Contains_int_int.g.pms))) = evC (slices_Contains_int_int.E k) (fun κ s => lhOf k κ s slices_Contains_int_int.pts) b117 (OM.start slices_Contains_int_int.g.pms 0 (a0, a1, ())) (OM.fin slices_Contains_int_int.g Try.f117.results.toList) := by kernel_rfl
theorem slices_Contains_int_int.ok (k : Nat) : SmOk Try.prog (slices_Contains_int_int.sm k) :=
  sm_ok mixed (E := slices_Contains_int_int.E) (pts := slices_Contains_int_int.pts) (fun k => ⟨⟨tysOk, by kernel_rfl⟩, forall_cons ⟨slices_Index_int_int.ok k, e142⟩ (forall_nil)⟩) (fun _ => rfl) (fun _ => rfl)
    ⟨Try.func117, by kernel_rfl, by kernel_rfl, by kernel_rfl, by kernel_rfl, by kernel_rfl, by kernel_rfl⟩ (forall_nil) (fun k x => slices_Contains_int_int.hf k x.1 x.2.1) k
noncomputable def b69 : Code := Try.f69.body.getD .skip
theorem e69 : OM.Entry Try.prog 69 := ⟨_, Try.func69, by kernel_rfl, by kernel_rfl⟩
@[reducible] noncomputable def impl_SpanOf.g : Sig := ⟨[.fz tConfig, .fz (.sl (.int .i64))], [.v (.int .i64) .z], []⟩
@[reducible] noncomputable def impl_SpanOf.fk : Nat → denI impl_SpanOf.g.pms → Option (denR (outTys impl_SpanOf.g.rts impl_SpanOf.g.pms)) := fun k x => impl_SpanOf.f k x.1 x.2.1
@[reducible] noncomputable def impl_SpanOf.sm (k : Nat) : Sm := ⟨69, impl_SpanOf.g.pms, impl_SpanOf.g.rts, impl_SpanOf.fk k⟩
noncomputable def impl_SpanOf.E (k : Nat) : Env := ⟨tys, [impl_NodesOk.sm k, slices_Contains_int_int.sm k], [18, 32], [], []⟩
@[reducible] noncomputable def impl_SpanOf.s11 : List Slot := [.r 8 9 [] tConfig, .v 20 (.sl (.int .i64)) (.own .z) [] 0, .v 52 (.sl (.int .i64)) .z [] 0, .v 56 (.int .i64) .z [] 0, .v 60 (.int .i64) .z [] 0, .v 9 tConfig .z [] 0]
noncomputable def impl_SpanOf.pts : List (Pt (denR (outTys impl_SpanOf.g.rts impl_SpanOf.g.pms))) := [⟨11, impl_SpanOf.s11, fun k x => impl_SpanOf.p11 k x.1 x.2.1 x.2.2.1 x.2.2.2.1 x.2.2.2.2.1⟩]
theorem impl_SpanOf.h11 (k : Nat) (x0 : (List Int)) (x1 : (List Int)) (x2 : Int) (x3 : Int) (x4 : Config) : (impl_SpanOf.p11 (k + 1) x0 x1 x2 x3 x4 : Option (denR (outTys impl_SpanOf.g.rts impl_SpanOf.g.pms))) = evAt (impl_SpanOf.E k) (fun κ s => lhOf k κ s impl_SpanOf.pts) 11 b69 (unproj impl_SpanOf.s11 (x0, x1, x2, x3, x4, ())) (OM.fin impl_SpanOf.g Try.f69.results.toList) := by kernel_rfl
theorem impl_SpanOf.hf (k : Nat) (a0 : Config) (a1 : (List Int)) : (impl_SpanOf.f k a0 a1 : Option (denR (outTys impl_SpanOf.g.rts impl_SpanOf.g.pms))) = evC (impl_SpanOf.E k) (fun κ s => lhOf k κ s impl_SpanOf.pts) b69 (OM.start impl_SpanOf.g.pms 0 (a0, a1, ())) (OM.fin impl_SpanOf.g Try.f69.results.toList) := by kernel_rfl
theorem impl_SpanOf.ok (k : Nat) : SmOk Try.prog (impl_SpanOf.sm k) :=
  sm_ok mixed (E := impl_SpanOf.E) (pts := impl_SpanOf.pts) (fun k => ⟨⟨tysOk, by kernel_rfl⟩, forall_cons ⟨impl_NodesOk.ok k, e68⟩ (forall_cons ⟨slices_Contains_int_int.ok k, e117⟩ (forall_nil))⟩) (fun _ => rfl) (fun _ => rfl)
    ⟨Try.func69, by kernel_rfl, by kernel_rfl, by kernel_rfl, by kernel_rfl, by kernel_rfl, by kernel_rfl⟩ (forall_cons (fun x => ⟨rfl, fun k => impl_SpanOf.h11 k x.1 x.2.1 x.2.2.1 x.2.2.2.1 x.2.2.2.2.1⟩) (forall_nil)) (fun k x => impl_SpanOf.hf k x.1 x.2.1) k
noncomputable def b25 : Code := Try.f25.body.getD .skip
theorem e25 : OM.Entry Try.prog 25 := ⟨_, Try.func25, by kernel_rfl, by kernel_rfl⟩
@[reducible] noncomputable def impl_Holds.g : Sig := ⟨[.fz tConfig, .fz (.sl (.int .i64))], [.v .bool .z], []⟩
@[reducible] noncomputable def impl_Holds.fk : Nat → denI impl_Holds.g.pms → Option (denR (outTys impl_Holds.g.rts impl_Holds.g.pms)) := fun k x => impl_Holds.f k x.1 x.2.1
@[reducible] noncomputable def impl_Holds.sm (k : Nat) : Sm := ⟨25, impl_Holds.g.pms, impl_Holds.g.rts, impl_Holds.fk k⟩
noncomputable def impl_Holds.E (k : Nat) : Env := ⟨tys, [impl_NodesOk.sm k, impl_SpanOf.sm k], [], [], []⟩
noncomputable def impl_Holds.pts : List (Pt (denR (outTys impl_Holds.g.rts impl_Holds.g.pms))) := []
theorem impl_Holds.hf (k : Nat) (a0 : Config) (a1 : (List Int)) : (impl_Holds.f k a0 a1 : Option (denR (outTys impl_Holds.g.rts impl_Holds.g.pms))) = evC (impl_Holds.E k) (fun κ s => lhOf k κ s impl_Holds.pts) b25 (OM.start impl_Holds.g.pms 0 (a0, a1, ())) (OM.fin impl_Holds.g Try.f25.results.toList) := by kernel_rfl
theorem impl_Holds.ok (k : Nat) : SmOk Try.prog (impl_Holds.sm k) :=
  sm_ok mixed (E := impl_Holds.E) (pts := impl_Holds.pts) (fun k => ⟨⟨tysOk, by kernel_rfl⟩, forall_cons ⟨impl_NodesOk.ok k, e68⟩ (forall_cons ⟨impl_SpanOf.ok k, e69⟩ (forall_nil))⟩) (fun _ => rfl) (fun _ => rfl)
    ⟨Try.func25, by kernel_rfl, by kernel_rfl, by kernel_rfl, by kernel_rfl, by kernel_rfl, by kernel_rfl⟩ (forall_nil) (fun k x => impl_Holds.hf k x.1 x.2.1) k
noncomputable def b71 : Code := Try.f71.body.getD .skip
theorem e71 : OM.Entry Try.prog 71 := ⟨_, Try.func71, by kernel_rfl, by kernel_rfl⟩
@[reducible] noncomputable def impl_flagNum.g : Sig := ⟨[.fz .bool], [.v (.int .i64) .z], []⟩
@[reducible] noncomputable def impl_flagNum.fk : Nat → denI impl_flagNum.g.pms → Option (denR (outTys impl_flagNum.g.rts impl_flagNum.g.pms)) := fun k x => impl_flagNum.f x.1
@[reducible] noncomputable def impl_flagNum.sm (k : Nat) : Sm := ⟨71, impl_flagNum.g.pms, impl_flagNum.g.rts, impl_flagNum.fk k⟩
noncomputable def impl_flagNum.E (k : Nat) : Env := ⟨tys, [], [], [], []⟩
noncomputable def impl_flagNum.pts : List (Pt (denR (outTys impl_flagNum.g.rts impl_flagNum.g.pms))) := []
theorem impl_flagNum.hf (k : Nat) (a0 : Bool) : (impl_flagNum.f a0 : Option (denR (outTys impl_flagNum.g.rts impl_flagNum.g.pms))) = evC (impl_flagNum.E k) (fun κ s => lhOf k κ s impl_flagNum.pts) b71 (OM.start impl_flagNum.g.pms 0 (a0, ())) (OM.fin impl_flagNum.g Try.f71.results.toList) := by kernel_rfl
theorem impl_flagNum.ok (k : Nat) : SmOk Try.prog (impl_flagNum.sm k) :=
  sm_ok mixed (E := impl_flagNum.E) (pts := impl_flagNum.pts) (fun k => ⟨⟨tysOk, by kernel_rfl⟩, forall_nil⟩) (fun _ => rfl) (fun _ => rfl)
    ⟨Try.func71, by kernel_rfl, by kernel_rfl, by kernel_rfl, by kernel_rfl, by kernel_rfl, by kernel_rfl⟩ (forall_nil) (fun k x => impl_flagNum.hf k x.1) k
noncomputable def b73 : Code := Try.f73.body.getD .skip
theorem e73 : OM.Entry Try.prog 73 := ⟨_, Try.func73, by kernel_rfl, by kernel_rfl⟩
@[reducible] noncomputable def impl_isEpoch.g : Sig := ⟨[.fz (.int .i64)], [.v .bool .z], []⟩
@[reducible] noncomputable def impl_isEpoch.fk : Nat → denI impl_isEpoch.g.pms → Option (denR (outTys impl_isEpoch.g.rts impl_isEpoch.g.pms)) := fun k x => impl_isEpoch.f x.1
@[reducible] noncomputable def impl_isEpoch.sm (k : Nat) : Sm := ⟨73, impl_isEpoch.g.pms, impl_isEpoch.g.rts, impl_isEpoch.fk k⟩
noncomputable def impl_isEpoch.E (k : Nat) : Env := ⟨tys, [impl_within.sm k], [], [], []⟩
noncomputable def impl_isEpoch.pts : List (Pt (denR (outTys impl_isEpoch.g.rts impl_isEpoch.g.pms))) := []
theorem impl_isEpoch.hf (k : Nat) (a0 : Int) : (impl_isEpoch.f a0 : Option (denR (outTys impl_isEpoch.g.rts impl_isEpoch.g.pms))) = evC (impl_isEpoch.E k) (fun κ s => lhOf k κ s impl_isEpoch.pts) b73 (OM.start impl_isEpoch.g.pms 0 (a0, ())) (OM.fin impl_isEpoch.g Try.f73.results.toList) := by kernel_rfl
theorem impl_isEpoch.ok (k : Nat) : SmOk Try.prog (impl_isEpoch.sm k) :=
  sm_ok mixed (E := impl_isEpoch.E) (pts := impl_isEpoch.pts) (fun k => ⟨⟨tysOk, by kernel_rfl⟩, forall_cons ⟨impl_within.ok k, e62⟩ (forall_nil)⟩) (fun _ => rfl) (fun _ => rfl)
    ⟨Try.func73, by kernel_rfl, by kernel_rfl, by kernel_rfl, by kernel_rfl, by kernel_rfl, by kernel_rfl⟩ (forall_nil) (fun k x => impl_isEpoch.hf k x.1) k
noncomputable def b28 : Code := Try.f28.body.getD .skip
theorem e28 : OM.Entry Try.prog 28 := ⟨_, Try.func28, by kernel_rfl, by kernel_rfl⟩
@[reducible] noncomputable def impl_WriterOk.g : Sig := ⟨[.fz tConfig, .fz tWriter], [.v .bool .z], []⟩
@[reducible] noncomputable def impl_WriterOk.fk : Nat → denI impl_WriterOk.g.pms → Option (denR (outTys impl_WriterOk.g.rts impl_WriterOk.g.pms)) := fun k x => impl_WriterOk.f k x.1 x.2.1
@[reducible] noncomputable def impl_WriterOk.sm (k : Nat) : Sm := ⟨28, impl_WriterOk.g.pms, impl_WriterOk.g.rts, impl_WriterOk.fk k⟩
noncomputable def impl_WriterOk.E (k : Nat) : Env := ⟨tys, [impl_dataOk.sm k, impl_ConfigOk.sm k, impl_NodesOk.sm k, impl_Holds.sm k, impl_flagNum.sm k, impl_isEpoch.sm k], [14], [], [4]⟩
@[reducible] noncomputable def impl_WriterOk.s7 : List Slot := [.r 8 9 [] tConfig, .r 12 13 [] tWriter, .v 20 (.int .i64) .z [] 0, .v 36 (.sl tWord) .z [] 0, .v 40 (.int .i64) .z [] 0, .v 44 (.int .i64) .z [] 0, .v 9 tConfig .z [] 0, .v 13 tWriter .z [] 0]
noncomputable def impl_WriterOk.pts : List (Pt (denR (outTys impl_WriterOk.g.rts impl_WriterOk.g.pms))) := [⟨7, impl_WriterOk.s7, fun k x => impl_WriterOk.p7 k x.1 x.2.1 x.2.2.1 x.2.2.2.1 x.2.2.2.2.1 x.2.2.2.2.2.1⟩]
theorem impl_WriterOk.h7 (k : Nat) (x0 : Int) (x1 : (List Word)) (x2 : Int) (x3 : Int) (x4 : Config) (x5 : Writer) : (impl_WriterOk.p7 (k + 1) x0 x1 x2 x3 x4 x5 : Option (denR (outTys impl_WriterOk.g.rts impl_WriterOk.g.pms))) = evAt (impl_WriterOk.E k) (fun κ s => lhOf k κ s impl_WriterOk.pts) 7 b28 (unproj impl_WriterOk.s7 (x0, x1, x2, x3, x4, x5, ())) (OM.fin impl_WriterOk.g Try.f28.results.toList) := by kernel_rfl
theorem impl_WriterOk.hf (k : Nat) (a0 : Config) (a1 : Writer) : (impl_WriterOk.f k a0 a1 : Option (denR (outTys impl_WriterOk.g.rts impl_WriterOk.g.pms))) = evC (impl_WriterOk.E k) (fun κ s => lhOf k κ s impl_WriterOk.pts) b28 (OM.start impl_WriterOk.g.pms 0 (a0, a1, ())) (OM.fin impl_WriterOk.g Try.f28.results.toList) := by kernel_rfl
theorem impl_WriterOk.ok (k : Nat) : SmOk Try.prog (impl_WriterOk.sm k) :=
  sm_ok mixed (E := impl_WriterOk.E) (pts := impl_WriterOk.pts) (fun k => ⟨⟨tysOk, by kernel_rfl⟩, forall_cons ⟨impl_dataOk.ok k, e70⟩ (forall_cons ⟨impl_ConfigOk.ok k, e72⟩ (forall_cons ⟨impl_NodesOk.ok k, e68⟩ (forall_cons ⟨impl_Holds.ok k, e25⟩ (forall_cons ⟨impl_flagNum.ok k, e71⟩ (forall_cons ⟨impl_isEpoch.ok k, e73⟩ (forall_nil))))))⟩) (fun _ => rfl) (fun _ => rfl)
    ⟨Try.func28, by kernel_rfl, by kernel_rfl, by kernel_rfl, by kernel_rfl, by kernel_rfl, by kernel_rfl⟩ (forall_cons (fun x => ⟨rfl, fun k => impl_WriterOk.h7 k x.1 x.2.1 x.2.2.1 x.2.2.2.1 x.2.2.2.2.1 x.2.2.2.2.2.1⟩) (forall_nil)) (fun k x => impl_WriterOk.hf k x.1 x.2.1) k
noncomputable def b105 : Code := Try.f105.body.getD .skip
theorem e105 : OM.Entry Try.prog 105 := ⟨_, Try.func105, by kernel_rfl, by kernel_rfl⟩
@[reducible] noncomputable def impl_copyInts.g : Sig := ⟨[.fz (.sl (.int .i64))], [.v (.sl (.int .i64)) (.own .z)], []⟩
@[reducible] noncomputable def impl_copyInts.fk : Nat → denI impl_copyInts.g.pms → Option (denR (outTys impl_copyInts.g.rts impl_copyInts.g.pms)) := fun k x => impl_copyInts.f x.1
@[reducible] noncomputable def impl_copyInts.sm (k : Nat) : Sm := ⟨105, impl_copyInts.g.pms, impl_copyInts.g.rts, impl_copyInts.fk k⟩
noncomputable def impl_copyInts.E (k : Nat) : Env := ⟨tys, [], [4], [], []⟩
noncomputable def impl_copyInts.pts : List (Pt (denR (outTys impl_copyInts.g.rts impl_copyInts.g.pms))) := []
theorem impl_copyInts.hf (k : Nat) (a0 : (List Int)) : (impl_copyInts.f a0 : Option (denR (outTys impl_copyInts.g.rts impl_copyInts.g.pms))) = evC (impl_copyInts.E k) (fun κ s => lhOf k κ s impl_copyInts.pts) b105 (OM.start impl_copyInts.g.pms 0 (a0, ())) (OM.fin impl_copyInts.g Try.f105.results.toList) := by kernel_rfl
theorem impl_copyInts.ok (k : Nat) : SmOk Try.prog (impl_copyInts.sm k) :=
  sm_ok mixed (E := impl_copyInts.E) (pts := impl_copyInts.pts) (fun k => ⟨⟨tysOk, by kernel_rfl⟩, forall_nil⟩) (fun _ => rfl) (fun _ => rfl)
    ⟨Try.func105, by kernel_rfl, by kernel_rfl, by kernel_rfl, by kernel_rfl, by kernel_rfl, by kernel_rfl⟩ (forall_nil) (fun k x => impl_copyInts.hf k x.1) k
noncomputable def b53 : Code := Try.f53.body.getD .skip
theorem e53 : OM.Entry Try.prog 53 := ⟨_, Try.func53, by kernel_rfl, by kernel_rfl⟩
@[reducible] noncomputable def impl_copyWriter.g : Sig := ⟨[.fz tWriter], [.v tWriter (.two .z (.two (.own (.two .z (.two (.own .z) .z))) .z))], []⟩
@[reducible] noncomputable def impl_copyWriter.fk : Nat → denI impl_copyWriter.g.pms → Option (denR (outTys impl_copyWriter.g.rts impl_copyWriter.g.pms)) := fun k x => impl_copyWriter.f k x.1
@[reducible] noncomputable def impl_copyWriter.sm (k : Nat) : Sm := ⟨53, impl_copyWriter.g.pms, impl_copyWriter.g.rts, impl_copyWriter.fk k⟩
noncomputable def impl_copyWriter.E (k : Nat) : Env := ⟨tys, [impl_copyInts.sm k], [15, 22], [], []⟩
@[reducible] noncomputable def impl_copyWriter.s7 : List Slot := [.r 8 9 [] tWriter, .r 12 13 [] tWriter, .v 40 (.sl tWord) .z [] 0, .v 44 (.int .i64) .z [] 0, .v 48 (.int .i64) .z [] 0, .v 9 tWriter (.two .z (.two (.own .a) .z)) [] 0, .v 13 tWriter (.two .z (.two (.own (.two .z (.two (.own .z) .z))) .z)) [] 0]
noncomputable def impl_copyWriter.pts : List (Pt (denR (outTys impl_copyWriter.g.rts impl_copyWriter.g.pms))) := [⟨7, impl_copyWriter.s7, fun k x => impl_copyWriter.p7 k x.1 x.2.1 x.2.2.1 x.2.2.2.1 x.2.2.2.2.1⟩]
theorem impl_copyWriter.h7 (k : Nat) (x0 : (List Word)) (x1 : Int) (x2 : Int) (x3 : Writer) (x4 : Writer) : (impl_copyWriter.p7 (k + 1) x0 x1 x2 x3 x4 : Option (denR (outTys impl_copyWriter.g.rts impl_copyWriter.g.pms))) = evAt (impl_copyWriter.E k) (fun κ s => lhOf k κ s impl_copyWriter.pts) 7 b53 (unproj impl_copyWriter.s7 (x0, x1, x2, x3, x4, ())) (OM.fin impl_copyWriter.g Try.f53.results.toList) := by kernel_rfl
theorem impl_copyWriter.hf (k : Nat) (a0 : Writer) : (impl_copyWriter.f k a0 : Option (denR (outTys impl_copyWriter.g.rts impl_copyWriter.g.pms))) = evC (impl_copyWriter.E k) (fun κ s => lhOf k κ s impl_copyWriter.pts) b53 (OM.start impl_copyWriter.g.pms 0 (a0, ())) (OM.fin impl_copyWriter.g Try.f53.results.toList) := by kernel_rfl
theorem impl_copyWriter.ok (k : Nat) : SmOk Try.prog (impl_copyWriter.sm k) :=
  sm_ok mixed (E := impl_copyWriter.E) (pts := impl_copyWriter.pts) (fun k => ⟨⟨tysOk, by kernel_rfl⟩, forall_cons ⟨impl_copyInts.ok k, e105⟩ (forall_nil)⟩) (fun _ => rfl) (fun _ => rfl)
    ⟨Try.func53, by kernel_rfl, by kernel_rfl, by kernel_rfl, by kernel_rfl, by kernel_rfl, by kernel_rfl⟩ (forall_cons (fun x => ⟨rfl, fun k => impl_copyWriter.h7 k x.1 x.2.1 x.2.2.1 x.2.2.2.1 x.2.2.2.2.1⟩) (forall_nil)) (fun k x => impl_copyWriter.hf k x.1) k
noncomputable def b106 : Code := Try.f106.body.getD .skip
theorem e106 : OM.Entry Try.prog 106 := ⟨_, Try.func106, by kernel_rfl, by kernel_rfl⟩
noncomputable def slices_DeleteFunc_int_int_impl_withoutNode_1.rho : Shelf.Ren := ⟨fun n => cond (Nat.beq n 6) 133 (cond (Nat.beq n 10) 106 (n)), fun n => cond (Nat.beq n 22) 22 (cond (Nat.beq n 23) 3 (cond (Nat.beq n 25) 99 (cond (Nat.beq n 0) 0 (cond (Nat.beq n 3) 3 (cond (Nat.beq n 4) 4 (n)))))), fun n => n⟩
theorem slices_DeleteFunc_int_int_impl_withoutNode_1.lay : Proofs.SlLaysH.n10 Try.prog slices_DeleteFunc_int_int_impl_withoutNode_1.rho := { mixed := mixed, f6 := ⟨"slices.IndexFunc[[]int,int]", by kernel_rfl, (Try.func133).trans (congrArg some (by kernel_rfl))⟩, f10 := ⟨"slices.DeleteFunc[[]int,int]", by kernel_rfl, (Try.func106).trans (congrArg some (by kernel_rfl))⟩, t0 := Try.underlying0, a0 := Try.isAgg0, z0 := Try.sizeOf0, v0 := Try.zeroValue0, t3 := Try.underlying3, a3 := Try.isAgg3, z3 := Try.sizeOf3, v3 := Try.zeroValue3, t4 := Try.underlying4, a4 := Try.isAgg4, z4 := Try.sizeOf4, v4 := Try.zeroValue4, t22 := Try.underlying22, a22 := Try.isAgg22, z22 := Try.sizeOf22, v22 := Try.zeroValue22, a23 := Try.isAgg3, z23 := Try.sizeOf3, t25 := Try.underlying99, a25 := Try.isAgg99, z25 := Try.sizeOf99, v25 := Try.zeroValue99 }
theorem slices_DeleteFunc_int_int_impl_withoutNode_1.gives (w : World) (S : Nat → Prop) (y : (Int × Unit)) (cap : List Value) (x : Int) (hy : slices_DeleteFunc_int_int_impl_withoutNode_1.okp y) (h : Rp w S (.pair (.fp (.int .i64)) .unit) .z y cap (fun _ => False)) : Proofs.FnGives Try.prog 107 cap.toArray #[.int .i64 x] (.bool (slices_DeleteFunc_int_int_impl_withoutNode_1.pred y x)) w := by
  obtain ⟨b, off, c1, rfl, h1, h2⟩ := cap_one h
  have hcell := intAt h1 h2
  unfold slices_DeleteFunc_int_int_impl_withoutNode_1.pred
  generalize y.1 = u at hcell ⊢
  clear h h1 h2 hy
  show Calls Try.prog 107 #[.int .i64 x, .pointer (some ⟨b, off, none⟩)] w _
  go_enter Try.func107, Try.ntmps107
  go_wp2
  all_goals (go_ret; exact ⟨by first | (simp_all; done) | (by_cases h : x = u <;> simp [h]; done) | (simp; by_cases h : x = u <;> simp [h]), 0, rfl⟩)
@[reducible] noncomputable def slices_DeleteFunc_int_int_impl_withoutNode_1.g : Sig := ⟨[.own (.sl (.int .i64)) (.own .z), .fz (.fn 107 (.pair (.fp (.int .i64)) .unit))], [.v (.sl (.int .i64)) (.own .z)], []⟩
@[reducible] noncomputable def slices_DeleteFunc_int_int_impl_withoutNode_1.fk : Nat → denI slices_DeleteFunc_int_int_impl_withoutNode_1.g.pms → Option (denR (outTys slices_DeleteFunc_int_int_impl_withoutNode_1.g.rts slices_DeleteFunc_int_int_impl_withoutNode_1.g.pms)) := fun k x => slices_DeleteFunc_int_int_impl_withoutNode_1.f x.1 x.2.1
@[reducible] noncomputable def slices_DeleteFunc_int_int_impl_withoutNode_1.sm (k : Nat) : Sm := ⟨106, slices_DeleteFunc_int_int_impl_withoutNode_1.g.pms, slices_DeleteFunc_int_int_impl_withoutNode_1.g.rts, slices_DeleteFunc_int_int_impl_withoutNode_1.fk k⟩
theorem slices_DeleteFunc_int_int_impl_withoutNode_1.ok (k : Nat) : SmOk Try.prog (slices_DeleteFunc_int_int_impl_withoutNode_1.sm k) :=
  del_ok (t := (.pair (.fp (.int .i64)) .unit)) slices_DeleteFunc_int_int_impl_withoutNode_1.lay Try.zeroValue3 (Proofs.enters_of Try.func107 (by kernel_rfl) rfl) slices_DeleteFunc_int_int_impl_withoutNode_1.pred slices_DeleteFunc_int_int_impl_withoutNode_1.okp slices_DeleteFunc_int_int_impl_withoutNode_1.gives

noncomputable def b54 : Code := Try.f54.body.getD .skip
theorem e54 : OM.Entry Try.prog 54 := ⟨_, Try.func54, by kernel_rfl, by kernel_rfl⟩
@[reducible] noncomputable def impl_withoutNode.g : Sig := ⟨[.fz (.sl (.int .i64)), .fz (.int .i64)], [.v (.sl (.int .i64)) (.own .z)], []⟩
@[reducible] noncomputable def impl_withoutNode.fk : Nat → denI impl_withoutNode.g.pms → Option (denR (outTys impl_withoutNode.g.rts impl_withoutNode.g.pms)) := fun k x => impl_withoutNode.f x.1 x.2.1
@[reducible] noncomputable def impl_withoutNode.sm (k : Nat) : Sm := ⟨54, impl_withoutNode.g.pms, impl_withoutNode.g.rts, impl_withoutNode.fk k⟩
noncomputable def impl_withoutNode.E (k : Nat) : Env := ⟨tys, [impl_copyInts.sm k, slices_DeleteFunc_int_int_impl_withoutNode_1.sm k], [], [], []⟩
noncomputable def impl_withoutNode.pts : List (Pt (denR (outTys impl_withoutNode.g.rts impl_withoutNode.g.pms))) := []
theorem impl_withoutNode.hf (k : Nat) (a0 : (List Int)) (a1 : Int) : (impl_withoutNode.f a0 a1 : Option (denR (outTys impl_withoutNode.g.rts impl_withoutNode.g.pms))) = evC (impl_withoutNode.E k) (fun κ s => lhOf k κ s impl_withoutNode.pts) b54 (OM.start impl_withoutNode.g.pms 0 (a0, a1, ())) (OM.fin impl_withoutNode.g Try.f54.results.toList) := by kernel_rfl
theorem impl_withoutNode.ok (k : Nat) : SmOk Try.prog (impl_withoutNode.sm k) :=
  sm_ok mixed (E := impl_withoutNode.E) (pts := impl_withoutNode.pts) (fun k => ⟨⟨tysOk, by kernel_rfl⟩, forall_cons ⟨impl_copyInts.ok k, e105⟩ (forall_cons ⟨slices_DeleteFunc_int_int_impl_withoutNode_1.ok k, e106⟩ (forall_nil))⟩) (fun _ => rfl) (fun _ => rfl)
    ⟨Try.func54, by kernel_rfl, by kernel_rfl, by kernel_rfl, by kernel_rfl, by kernel_rfl, by kernel_rfl⟩ (forall_nil) (fun k x => impl_withoutNode.hf k x.1 x.2.1) k
noncomputable def b14 : Code := Try.f14.body.getD .skip
theorem e14 : OM.Entry Try.prog 14 := ⟨_, Try.func14, by kernel_rfl, by kernel_rfl⟩
@[reducible] noncomputable def impl_WriterForget.g : Sig := ⟨[.fz tConfig, .fz tWriter, .fz (.int .i64)], [.v tWriter (.two .z (.two (.own (.two .z (.two (.own .z) .z))) .z)), .v .bool .z], []⟩
@[reducible] noncomputable def impl_WriterForget.fk : Nat → denI impl_WriterForget.g.pms → Option (denR (outTys impl_WriterForget.g.rts impl_WriterForget.g.pms)) := fun k x => impl_WriterForget.f k x.1 x.2.1 x.2.2.1
@[reducible] noncomputable def impl_WriterForget.sm (k : Nat) : Sm := ⟨14, impl_WriterForget.g.pms, impl_WriterForget.g.rts, impl_WriterForget.fk k⟩
noncomputable def impl_WriterForget.E (k : Nat) : Env := ⟨tys, [impl_WriterOk.sm k, impl_copyWriter.sm k, impl_withoutNode.sm k], [25], [], []⟩
@[reducible] noncomputable def impl_WriterForget.s11 : List Slot := [.v 8 (.int .i64) .z [] 0, .r 24 25 [] tWriter, .r 32 33 [] tWriter, .v 76 (.sl tWord) .z [] 0, .v 80 (.int .i64) .z [] 0, .v 84 (.int .i64) .z [] 0, .v 25 tWriter (.two .z (.two (.own .a) .z)) [] 0, .v 33 tWriter (.two .z (.two (.own (.two .z (.two (.own .z) .z))) .z)) [] 0]
noncomputable def impl_WriterForget.pts : List (Pt (denR (outTys impl_WriterForget.g.rts impl_WriterForget.g.pms))) := [⟨11, impl_WriterForget.s11, fun k x => impl_WriterForget.p11 k x.1 x.2.1 x.2.2.1 x.2.2.2.1 x.2.2.2.2.1 x.2.2.2.2.2.1⟩]
theorem impl_WriterForget.h11 (k : Nat) (x0 : Int) (x1 : (List Word)) (x2 : Int) (x3 : Int) (x4 : Writer) (x5 : Writer) : (impl_WriterForget.p11 (k + 1) x0 x1 x2 x3 x4 x5 : Option (denR (outTys impl_WriterForget.g.rts impl_WriterForget.g.pms))) = evAt (impl_WriterForget.E k) (fun κ s => lhOf k κ s impl_WriterForget.pts) 11 b14 (unproj impl_WriterForget.s11 (x0, x1, x2, x3, x4, x5, ())) (OM.fin impl_WriterForget.g Try.f14.results.toList) := by kernel_rfl
theorem impl_WriterForget.hf (k : Nat) (a0 : Config) (a1 : Writer) (a2 : Int) : (impl_WriterForget.f k a0 a1 a2 : Option (denR (outTys impl_WriterForget.g.rts impl_WriterForget.g.pms))) = evC (impl_WriterForget.E k) (fun κ s => lhOf k κ s impl_WriterForget.pts) b14 (OM.start impl_WriterForget.g.pms 0 (a0, a1, a2, ())) (OM.fin impl_WriterForget.g Try.f14.results.toList) := by kernel_rfl
theorem impl_WriterForget.ok (k : Nat) : SmOk Try.prog (impl_WriterForget.sm k) :=
  sm_ok mixed (E := impl_WriterForget.E) (pts := impl_WriterForget.pts) (fun k => ⟨⟨tysOk, by kernel_rfl⟩, forall_cons ⟨impl_WriterOk.ok k, e28⟩ (forall_cons ⟨impl_copyWriter.ok k, e53⟩ (forall_cons ⟨impl_withoutNode.ok k, e54⟩ (forall_nil)))⟩) (fun _ => rfl) (fun _ => rfl)
    ⟨Try.func14, by kernel_rfl, by kernel_rfl, by kernel_rfl, by kernel_rfl, by kernel_rfl, by kernel_rfl⟩ (forall_cons (fun x => ⟨rfl, fun k => impl_WriterForget.h11 k x.1 x.2.1 x.2.2.1 x.2.2.2.1 x.2.2.2.2.1 x.2.2.2.2.2.1⟩) (forall_nil)) (fun k x => impl_WriterForget.hf k x.1 x.2.1 x.2.2.1) k
noncomputable def b35 : Code := Try.f35.body.getD .skip
theorem e35 : OM.Entry Try.prog 35 := ⟨_, Try.func35, by kernel_rfl, by kernel_rfl⟩
@[reducible] noncomputable def laws_eqIntS.g : Sig := ⟨[.fz (.sl (.int .i64)), .fz (.sl (.int .i64))], [.v .bool .z], []⟩
@[reducible] noncomputable def laws_eqIntS.fk : Nat → denI laws_eqIntS.g.pms → Option (denR (outTys laws_eqIntS.g.rts laws_eqIntS.g.pms)) := fun k x => laws_eqIntS.f k x.1 x.2.1
@[reducible] noncomputable def laws_eqIntS.sm (k : Nat) : Sm := ⟨35, laws_eqIntS.g.pms, laws_eqIntS.g.rts, laws_eqIntS.fk k⟩
noncomputable def laws_eqIntS.E (k : Nat) : Env := ⟨tys, [], [], [], []⟩
@[reducible] noncomputable def laws_eqIntS.s9 : List Slot := [.v 0 (.sl (.int .i64)) .z [] 0, .v 4 (.sl (.int .i64)) .z [] 0, .v 20 (.int .i64) .z [] 0]
noncomputable def laws_eqIntS.pts : List (Pt (denR (outTys laws_eqIntS.g.rts laws_eqIntS.g.pms))) := [⟨9, laws_eqIntS.s9, fun k x => laws_eqIntS.p9 k x.1 x.2.1 x.2.2.1⟩]
theorem laws_eqIntS.h9 (k : Nat) (x0 : (List Int)) (x1 : (List Int)) (x2 : Int) : (laws_eqIntS.p9 (k + 1) x0 x1 x2 : Option (denR (outTys laws_eqIntS.g.rts laws_eqIntS.g.pms))) = evAt (laws_eqIntS.E k) (fun κ s => lhOf k κ s laws_eqIntS.pts) 9 b35 (unproj laws_eqIntS.s9 (x0, x1, x2, ())) (OM.fin laws_eqIntS.g Try.f35.results.toList) := by kernel_rfl
theorem laws_eqIntS.hf (k : Nat) (a0 : (List Int)) (a1 : (List Int)) : (laws_eqIntS.f k a0 a1 : Option (denR (outTys laws_eqIntS.g.rts laws_eqIntS.g.pms))) = evC (laws_eqIntS.E k) (fun κ s => lhOf k κ s laws_eqIntS.pts) b35 (OM.start laws_eqIntS.g.pms 0 (a0, a1, ())) (OM.fin laws_eqIntS.g Try.f35.results.toList) := by kernel_rfl
theorem laws_eqIntS.ok (k : Nat) : SmOk Try.prog (laws_eqIntS.sm k) :=
  sm_ok mixed (E := laws_eqIntS.E) (pts := laws_eqIntS.pts) (fun k => ⟨⟨tysOk, by kernel_rfl⟩, forall_nil⟩) (fun _ => rfl) (fun _ => rfl)
    ⟨Try.func35, by kernel_rfl, by kernel_rfl, by kernel_rfl, by kernel_rfl, by kernel_rfl, by kernel_rfl⟩ (forall_cons (fun x => ⟨rfl, fun k => laws_eqIntS.h9 k x.1 x.2.1 x.2.2.1⟩) (forall_nil)) (fun k x => laws_eqIntS.hf k x.1 x.2.1) k
noncomputable def b108 : Code := Try.f108.body.getD .skip
theorem e108 : OM.Entry Try.prog 108 := ⟨_, Try.func108, by kernel_rfl, by kernel_rfl⟩
@[reducible] noncomputable def laws_eqWord.g : Sig := ⟨[.fz tWord, .fz tWord], [.v .bool .z], []⟩
@[reducible] noncomputable def laws_eqWord.fk : Nat → denI laws_eqWord.g.pms → Option (denR (outTys laws_eqWord.g.rts laws_eqWord.g.pms)) := fun k x => laws_eqWord.f k x.1 x.2.1
@[reducible] noncomputable def laws_eqWord.sm (k : Nat) : Sm := ⟨108, laws_eqWord.g.pms, laws_eqWord.g.rts, laws_eqWord.fk k⟩
noncomputable def laws_eqWord.E (k : Nat) : Env := ⟨tys, [laws_eqIntS.sm k], [], [], [4]⟩
noncomputable def laws_eqWord.pts : List (Pt (denR (outTys laws_eqWord.g.rts laws_eqWord.g.pms))) := []
theorem laws_eqWord.hf (k : Nat) (a0 : Word) (a1 : Word) : (laws_eqWord.f k a0 a1 : Option (denR (outTys laws_eqWord.g.rts laws_eqWord.g.pms))) = evC (laws_eqWord.E k) (fun κ s => lhOf k κ s laws_eqWord.pts) b108 (OM.start laws_eqWord.g.pms 0 (a0, a1, ())) (OM.fin laws_eqWord.g Try.f108.results.toList) := by kernel_rfl
theorem laws_eqWord.ok (k : Nat) : SmOk Try.prog (laws_eqWord.sm k) :=
  sm_ok mixed (E := laws_eqWord.E) (pts := laws_eqWord.pts) (fun k => ⟨⟨tysOk, by kernel_rfl⟩, forall_cons ⟨laws_eqIntS.ok k, e35⟩ (forall_nil)⟩) (fun _ => rfl) (fun _ => rfl)
    ⟨Try.func108, by kernel_rfl, by kernel_rfl, by kernel_rfl, by kernel_rfl, by kernel_rfl, by kernel_rfl⟩ (forall_nil) (fun k x => laws_eqWord.hf k x.1 x.2.1) k
noncomputable def b55 : Code := Try.f55.body.getD .skip
theorem e55 : OM.Entry Try.prog 55 := ⟨_, Try.func55, by kernel_rfl, by kernel_rfl⟩
@[reducible] noncomputable def laws_eqWordS.g : Sig := ⟨[.fz (.sl tWord), .fz (.sl tWord)], [.v .bool .z], []⟩
@[reducible] noncomputable def laws_eqWordS.fk : Nat → denI laws_eqWordS.g.pms → Option (denR (outTys laws_eqWordS.g.rts laws_eqWordS.g.pms)) := fun k x => laws_eqWordS.f k x.1 x.2.1
@[reducible] noncomputable def laws_eqWordS.sm (k : Nat) : Sm := ⟨55, laws_eqWordS.g.pms, laws_eqWordS.g.rts, laws_eqWordS.fk k⟩
noncomputable def laws_eqWordS.E (k : Nat) : Env := ⟨tys, [laws_eqWord.sm k], [], [], []⟩
@[reducible] noncomputable def laws_eqWordS.s9 : List Slot := [.v 0 (.sl tWord) .z [] 0, .v 4 (.sl tWord) .z [] 0, .v 20 (.int .i64) .z [] 0]
noncomputable def laws_eqWordS.pts : List (Pt (denR (outTys laws_eqWordS.g.rts laws_eqWordS.g.pms))) := [⟨9, laws_eqWordS.s9, fun k x => laws_eqWordS.p9 k x.1 x.2.1 x.2.2.1⟩]
theorem laws_eqWordS.h9 (k : Nat) (x0 : (List Word)) (x1 : (List Word)) (x2 : Int) : (laws_eqWordS.p9 (k + 1) x0 x1 x2 : Option (denR (outTys laws_eqWordS.g.rts laws_eqWordS.g.pms))) = evAt (laws_eqWordS.E k) (fun κ s => lhOf k κ s laws_eqWordS.pts) 9 b55 (unproj laws_eqWordS.s9 (x0, x1, x2, ())) (OM.fin laws_eqWordS.g Try.f55.results.toList) := by kernel_rfl
theorem laws_eqWordS.hf (k : Nat) (a0 : (List Word)) (a1 : (List Word)) : (laws_eqWordS.f k a0 a1 : Option (denR (outTys laws_eqWordS.g.rts laws_eqWordS.g.pms))) = evC (laws_eqWordS.E k) (fun κ s => lhOf k κ s laws_eqWordS.pts) b55 (OM.start laws_eqWordS.g.pms 0 (a0, a1, ())) (OM.fin laws_eqWordS.g Try.f55.results.toList) := by kernel_rfl
theorem laws_eqWordS.ok (k : Nat) : SmOk Try.prog (laws_eqWordS.sm k) :=
  sm_ok mixed (E := laws_eqWordS.E) (pts := laws_eqWordS.pts) (fun k => ⟨⟨tysOk, by kernel_rfl⟩, forall_cons ⟨laws_eqWord.ok k, e108⟩ (forall_nil)⟩) (fun _ => rfl) (fun _ => rfl)
    ⟨Try.func55, by kernel_rfl, by kernel_rfl, by kernel_rfl, by kernel_rfl, by kernel_rfl, by kernel_rfl⟩ (forall_cons (fun x => ⟨rfl, fun k => laws_eqWordS.h9 k x.1 x.2.1 x.2.2.1⟩) (forall_nil)) (fun k x => laws_eqWordS.hf k x.1 x.2.1) k
noncomputable def b15 : Code := Try.f15.body.getD .skip
theorem e15 : OM.Entry Try.prog 15 := ⟨_, Try.func15, by kernel_rfl, by kernel_rfl⟩
@[reducible] noncomputable def laws_eqWriter.g : Sig := ⟨[.fz tWriter, .fz tWriter], [.v .bool .z], []⟩
@[reducible] noncomputable def laws_eqWriter.fk : Nat → denI laws_eqWriter.g.pms → Option (denR (outTys laws_eqWriter.g.rts laws_eqWriter.g.pms)) := fun k x => laws_eqWriter.f k x.1 x.2.1
@[reducible] noncomputable def laws_eqWriter.sm (k : Nat) : Sm := ⟨15, laws_eqWriter.g.pms, laws_eqWriter.g.rts, laws_eqWriter.fk k⟩
noncomputable def laws_eqWriter.E (k : Nat) : Env := ⟨tys, [laws_eqWordS.sm k], [], [], []⟩
noncomputable def laws_eqWriter.pts : List (Pt (denR (outTys laws_eqWriter.g.rts laws_eqWriter.g.pms))) := []
theorem laws_eqWriter.hf (k : Nat) (a0 : Writer) (a1 : Writer) : (laws_eqWriter.f k a0 a1 : Option (denR (outTys laws_eqWriter.g.rts laws_eqWriter.g.pms))) = evC (laws_eqWriter.E k) (fun κ s => lhOf k κ s laws_eqWriter.pts) b15 (OM.start laws_eqWriter.g.pms 0 (a0, a1, ())) (OM.fin laws_eqWriter.g Try.f15.results.toList) := by kernel_rfl
theorem laws_eqWriter.ok (k : Nat) : SmOk Try.prog (laws_eqWriter.sm k) :=
  sm_ok mixed (E := laws_eqWriter.E) (pts := laws_eqWriter.pts) (fun k => ⟨⟨tysOk, by kernel_rfl⟩, forall_cons ⟨laws_eqWordS.ok k, e55⟩ (forall_nil)⟩) (fun _ => rfl) (fun _ => rfl)
    ⟨Try.func15, by kernel_rfl, by kernel_rfl, by kernel_rfl, by kernel_rfl, by kernel_rfl, by kernel_rfl⟩ (forall_nil) (fun k x => laws_eqWriter.hf k x.1 x.2.1) k
noncomputable def b16 : Code := Try.f16.body.getD .skip
theorem e16 : OM.Entry Try.prog 16 := ⟨_, Try.func16, by kernel_rfl, by kernel_rfl⟩
@[reducible] noncomputable def laws_eqConfig.g : Sig := ⟨[.fz tConfig, .fz tConfig], [.v .bool .z], []⟩
@[reducible] noncomputable def laws_eqConfig.fk : Nat → denI laws_eqConfig.g.pms → Option (denR (outTys laws_eqConfig.g.rts laws_eqConfig.g.pms)) := fun k x => laws_eqConfig.f k x.1 x.2.1
@[reducible] noncomputable def laws_eqConfig.sm (k : Nat) : Sm := ⟨16, laws_eqConfig.g.pms, laws_eqConfig.g.rts, laws_eqConfig.fk k⟩
noncomputable def laws_eqConfig.E (k : Nat) : Env := ⟨tys, [laws_eqIntS.sm k], [], [], []⟩
noncomputable def laws_eqConfig.pts : List (Pt (denR (outTys laws_eqConfig.g.rts laws_eqConfig.g.pms))) := []
theorem laws_eqConfig.hf (k : Nat) (a0 : Config) (a1 : Config) : (laws_eqConfig.f k a0 a1 : Option (denR (outTys laws_eqConfig.g.rts laws_eqConfig.g.pms))) = evC (laws_eqConfig.E k) (fun κ s => lhOf k κ s laws_eqConfig.pts) b16 (OM.start laws_eqConfig.g.pms 0 (a0, a1, ())) (OM.fin laws_eqConfig.g Try.f16.results.toList) := by kernel_rfl
theorem laws_eqConfig.ok (k : Nat) : SmOk Try.prog (laws_eqConfig.sm k) :=
  sm_ok mixed (E := laws_eqConfig.E) (pts := laws_eqConfig.pts) (fun k => ⟨⟨tysOk, by kernel_rfl⟩, forall_cons ⟨laws_eqIntS.ok k, e35⟩ (forall_nil)⟩) (fun _ => rfl) (fun _ => rfl)
    ⟨Try.func16, by kernel_rfl, by kernel_rfl, by kernel_rfl, by kernel_rfl, by kernel_rfl, by kernel_rfl⟩ (forall_nil) (fun k x => laws_eqConfig.hf k x.1 x.2.1) k
noncomputable def b37 : Code := Try.f37.body.getD .skip
theorem e37 : OM.Entry Try.prog 37 := ⟨_, Try.func37, by kernel_rfl, by kernel_rfl⟩
@[reducible] noncomputable def laws_markIntS.g : Sig := ⟨[.mut (.sl (.int .i64)) (.own .z), .fz (.int .i64)], [.v (.int .i64) .z], [0]⟩
@[reducible] noncomputable def laws_markIntS.fk : Nat → denI laws_markIntS.g.pms → Option (denR (outTys laws_markIntS.g.rts laws_markIntS.g.pms)) := fun k x => laws_markIntS.f k x.1 x.2.1
@[reducible] noncomputable def laws_markIntS.sm (k : Nat) : Sm := ⟨37, laws_markIntS.g.pms, laws_markIntS.g.rts, laws_markIntS.fk k⟩
noncomputable def laws_markIntS.E (k : Nat) : Env := ⟨tys, [], [], [], []⟩
@[reducible] noncomputable def laws_markIntS.s5 : List Slot := [.v 0 (.sl (.int .i64)) (.own .z) [] 1, .v 4 (.int .i64) .z [] 0, .v 20 (.int .i64) .z [] 0]
noncomputable def laws_markIntS.pts : List (Pt (denR (outTys laws_markIntS.g.rts laws_markIntS.g.pms))) := [⟨5, laws_markIntS.s5, fun k x => laws_markIntS.p5 k x.1 x.2.1 x.2.2.1⟩]
theorem laws_markIntS.h5 (k : Nat) (x0 : (List Int)) (x1 : Int) (x2 : Int) : (laws_markIntS.p5 (k + 1) x0 x1 x2 : Option (denR (outTys laws_markIntS.g.rts laws_markIntS.g.pms))) = evAt (laws_markIntS.E k) (fun κ s => lhOf k κ s laws_markIntS.pts) 5 b37 (unproj laws_markIntS.s5 (x0, x1, x2, ())) (OM.fin laws_markIntS.g Try.f37.results.toList) := by kernel_rfl
theorem laws_markIntS.hf (k : Nat) (a0 : (List Int)) (a1 : Int) : (laws_markIntS.f k a0 a1 : Option (denR (outTys laws_markIntS.g.rts laws_markIntS.g.pms))) = evC (laws_markIntS.E k) (fun κ s => lhOf k κ s laws_markIntS.pts) b37 (OM.start laws_markIntS.g.pms 0 (a0, a1, ())) (OM.fin laws_markIntS.g Try.f37.results.toList) := by kernel_rfl
theorem laws_markIntS.ok (k : Nat) : SmOk Try.prog (laws_markIntS.sm k) :=
  sm_ok mixed (E := laws_markIntS.E) (pts := laws_markIntS.pts) (fun k => ⟨⟨tysOk, by kernel_rfl⟩, forall_nil⟩) (fun _ => rfl) (fun _ => rfl)
    ⟨Try.func37, by kernel_rfl, by kernel_rfl, by kernel_rfl, by kernel_rfl, by kernel_rfl, by kernel_rfl⟩ (forall_cons (fun x => ⟨rfl, fun k => laws_markIntS.h5 k x.1 x.2.1 x.2.2.1⟩) (forall_nil)) (fun k x => laws_markIntS.hf k x.1 x.2.1) k
noncomputable def b17 : Code := Try.f17.body.getD .skip
theorem e17 : OM.Entry Try.prog 17 := ⟨_, Try.func17, by kernel_rfl, by kernel_rfl⟩
@[reducible] noncomputable def laws_markConfig.g : Sig := ⟨[.mut tConfig (.two (.own .z) .z), .fz (.int .i64)], [.v (.int .i64) .z], [9]⟩
@[reducible] noncomputable def laws_markConfig.fk : Nat → denI laws_markConfig.g.pms → Option (denR (outTys laws_markConfig.g.rts laws_markConfig.g.pms)) := fun k x => laws_markConfig.f k x.1 x.2.1
@[reducible] noncomputable def laws_markConfig.sm (k : Nat) : Sm := ⟨17, laws_markConfig.g.pms, laws_markConfig.g.rts, laws_markConfig.fk k⟩
noncomputable def laws_markConfig.E (k : Nat) : Env := ⟨tys, [laws_markIntS.sm k], [], [], []⟩
noncomputable def laws_markConfig.pts : List (Pt (denR (outTys laws_markConfig.g.rts laws_markConfig.g.pms))) := []
theorem laws_markConfig.hf (k : Nat) (a0 : Config) (a1 : Int) : (laws_markConfig.f k a0 a1 : Option (denR (outTys laws_markConfig.g.rts laws_markConfig.g.pms))) = evC (laws_markConfig.E k) (fun κ s => lhOf k κ s laws_markConfig.pts) b17 (OM.start laws_markConfig.g.pms 0 (a0, a1, ())) (OM.fin laws_markConfig.g Try.f17.results.toList) := by kernel_rfl
theorem laws_markConfig.ok (k : Nat) : SmOk Try.prog (laws_markConfig.sm k) :=
  sm_ok mixed (E := laws_markConfig.E) (pts := laws_markConfig.pts) (fun k => ⟨⟨tysOk, by kernel_rfl⟩, forall_cons ⟨laws_markIntS.ok k, e37⟩ (forall_nil)⟩) (fun _ => rfl) (fun _ => rfl)
    ⟨Try.func17, by kernel_rfl, by kernel_rfl, by kernel_rfl, by kernel_rfl, by kernel_rfl, by kernel_rfl⟩ (forall_nil) (fun k x => laws_markConfig.hf k x.1 x.2.1) k
noncomputable def b99 : Code := Try.f99.body.getD .skip
theorem e99 : OM.Entry Try.prog 99 := ⟨_, Try.func99, by kernel_rfl, by kernel_rfl⟩
@[reducible] noncomputable def laws_markText.g : Sig := ⟨[.fz (.int .i64)], [.v .str .z], []⟩
@[reducible] noncomputable def laws_markText.fk : Nat → denI laws_markText.g.pms → Option (denR (outTys laws_markText.g.rts laws_markText.g.pms)) := fun k x => laws_markText.f k x.1
@[reducible] noncomputable def laws_markText.sm (k : Nat) : Sm := ⟨99, laws_markText.g.pms, laws_markText.g.rts, laws_markText.fk k⟩
noncomputable def laws_markText.E (k : Nat) : Env := ⟨tys, [], [], [], []⟩
@[reducible] noncomputable def laws_markText.s9 : List Slot := [.v 0 (.int .i64) .z [] 0, .v 12 .str .z [] 0]
noncomputable def laws_markText.pts : List (Pt (denR (outTys laws_markText.g.rts laws_markText.g.pms))) := [⟨9, laws_markText.s9, fun k x => laws_markText.p9 k x.1 x.2.1⟩]
theorem laws_markText.h9 (k : Nat) (x0 : Int) (x1 : ByteArray) : (laws_markText.p9 (k + 1) x0 x1 : Option (denR (outTys laws_markText.g.rts laws_markText.g.pms))) = evAt (laws_markText.E k) (fun κ s => lhOf k κ s laws_markText.pts) 9 b99 (unproj laws_markText.s9 (x0, x1, ())) (OM.fin laws_markText.g Try.f99.results.toList) := by kernel_rfl
theorem laws_markText.hf (k : Nat) (a0 : Int) : (laws_markText.f k a0 : Option (denR (outTys laws_markText.g.rts laws_markText.g.pms))) = evC (laws_markText.E k) (fun κ s => lhOf k κ s laws_markText.pts) b99 (OM.start laws_markText.g.pms 0 (a0, ())) (OM.fin laws_markText.g Try.f99.results.toList) := by kernel_rfl
theorem laws_markText.ok (k : Nat) : SmOk Try.prog (laws_markText.sm k) :=
  sm_ok mixed (E := laws_markText.E) (pts := laws_markText.pts) (fun k => ⟨⟨tysOk, by kernel_rfl⟩, forall_nil⟩) (fun _ => rfl) (fun _ => rfl)
    ⟨Try.func99, by kernel_rfl, by kernel_rfl, by kernel_rfl, by kernel_rfl, by kernel_rfl, by kernel_rfl⟩ (forall_cons (fun x => ⟨rfl, fun k => laws_markText.h9 k x.1 x.2.1⟩) (forall_nil)) (fun k x => laws_markText.hf k x.1) k
noncomputable def b56 : Code := Try.f56.body.getD .skip
theorem e56 : OM.Entry Try.prog 56 := ⟨_, Try.func56, by kernel_rfl, by kernel_rfl⟩
@[reducible] noncomputable def laws_markWordS.g : Sig := ⟨[.mut (.sl tWord) (.own (.two .z (.two (.own .z) .z))), .fz (.int .i64)], [.v (.int .i64) .z], [0]⟩
@[reducible] noncomputable def laws_markWordS.fk : Nat → denI laws_markWordS.g.pms → Option (denR (outTys laws_markWordS.g.rts laws_markWordS.g.pms)) := fun k x => laws_markWordS.f k x.1 x.2.1
@[reducible] noncomputable def laws_markWordS.sm (k : Nat) : Sm := ⟨56, laws_markWordS.g.pms, laws_markWordS.g.rts, laws_markWordS.fk k⟩
noncomputable def laws_markWordS.E (k : Nat) : Env := ⟨tys, [laws_markIntS.sm k, laws_markText.sm k], [], [], []⟩
@[reducible] noncomputable def laws_markWordS.s5 : List Slot := [.v 0 (.sl tWord) (.own (.two .z (.two (.own .z) .z))) [] 1, .v 4 (.int .i64) .z [] 0, .v 20 (.int .i64) .z [] 0]
noncomputable def laws_markWordS.pts : List (Pt (denR (outTys laws_markWordS.g.rts laws_markWordS.g.pms))) := [⟨5, laws_markWordS.s5, fun k x => laws_markWordS.p5 k x.1 x.2.1 x.2.2.1⟩]
theorem laws_markWordS.h5 (k : Nat) (x0 : (List Word)) (x1 : Int) (x2 : Int) : (laws_markWordS.p5 (k + 1) x0 x1 x2 : Option (denR (outTys laws_markWordS.g.rts laws_markWordS.g.pms))) = evAt (laws_markWordS.E k) (fun κ s => lhOf k κ s laws_markWordS.pts) 5 b56 (unproj laws_markWordS.s5 (x0, x1, x2, ())) (OM.fin laws_markWordS.g Try.f56.results.toList) := by kernel_rfl
theorem laws_markWordS.hf (k : Nat) (a0 : (List Word)) (a1 : Int) : (laws_markWordS.f k a0 a1 : Option (denR (outTys laws_markWordS.g.rts laws_markWordS.g.pms))) = evC (laws_markWordS.E k) (fun κ s => lhOf k κ s laws_markWordS.pts) b56 (OM.start laws_markWordS.g.pms 0 (a0, a1, ())) (OM.fin laws_markWordS.g Try.f56.results.toList) := by kernel_rfl
theorem laws_markWordS.ok (k : Nat) : SmOk Try.prog (laws_markWordS.sm k) :=
  sm_ok mixed (E := laws_markWordS.E) (pts := laws_markWordS.pts) (fun k => ⟨⟨tysOk, by kernel_rfl⟩, forall_cons ⟨laws_markIntS.ok k, e37⟩ (forall_cons ⟨laws_markText.ok k, e99⟩ (forall_nil))⟩) (fun _ => rfl) (fun _ => rfl)
    ⟨Try.func56, by kernel_rfl, by kernel_rfl, by kernel_rfl, by kernel_rfl, by kernel_rfl, by kernel_rfl⟩ (forall_cons (fun x => ⟨rfl, fun k => laws_markWordS.h5 k x.1 x.2.1 x.2.2.1⟩) (forall_nil)) (fun k x => laws_markWordS.hf k x.1 x.2.1) k
noncomputable def b18 : Code := Try.f18.body.getD .skip
theorem e18 : OM.Entry Try.prog 18 := ⟨_, Try.func18, by kernel_rfl, by kernel_rfl⟩
@[reducible] noncomputable def laws_markWriter.g : Sig := ⟨[.mut tWriter (.two .z (.two (.own (.two .z (.two (.own .z) .z))) .z)), .fz (.int .i64)], [.v (.int .i64) .z], [9]⟩
@[reducible] noncomputable def laws_markWriter.fk : Nat → denI laws_markWriter.g.pms → Option (denR (outTys laws_markWriter.g.rts laws_markWriter.g.pms)) := fun k x => laws_markWriter.f k x.1 x.2.1
@[reducible] noncomputable def laws_markWriter.sm (k : Nat) : Sm := ⟨18, laws_markWriter.g.pms, laws_markWriter.g.rts, laws_markWriter.fk k⟩
noncomputable def laws_markWriter.E (k : Nat) : Env := ⟨tys, [laws_markWordS.sm k], [], [], []⟩
noncomputable def laws_markWriter.pts : List (Pt (denR (outTys laws_markWriter.g.rts laws_markWriter.g.pms))) := []
theorem laws_markWriter.hf (k : Nat) (a0 : Writer) (a1 : Int) : (laws_markWriter.f k a0 a1 : Option (denR (outTys laws_markWriter.g.rts laws_markWriter.g.pms))) = evC (laws_markWriter.E k) (fun κ s => lhOf k κ s laws_markWriter.pts) b18 (OM.start laws_markWriter.g.pms 0 (a0, a1, ())) (OM.fin laws_markWriter.g Try.f18.results.toList) := by kernel_rfl
theorem laws_markWriter.ok (k : Nat) : SmOk Try.prog (laws_markWriter.sm k) :=
  sm_ok mixed (E := laws_markWriter.E) (pts := laws_markWriter.pts) (fun k => ⟨⟨tysOk, by kernel_rfl⟩, forall_cons ⟨laws_markWordS.ok k, e56⟩ (forall_nil)⟩) (fun _ => rfl) (fun _ => rfl)
    ⟨Try.func18, by kernel_rfl, by kernel_rfl, by kernel_rfl, by kernel_rfl, by kernel_rfl, by kernel_rfl⟩ (forall_nil) (fun k x => laws_markWriter.hf k x.1 x.2.1) k
noncomputable def b89 : Code := Try.f89.body.getD .skip
theorem e89 : OM.Entry Try.prog 89 := ⟨_, Try.func89, by kernel_rfl, by kernel_rfl⟩
@[reducible] noncomputable def laws_heldIntS.g : Sig := ⟨[.fz (.sl (.int .i64)), .fz (.int .i64)], [.v (.int .i64) .z], []⟩
@[reducible] noncomputable def laws_heldIntS.fk : Nat → denI laws_heldIntS.g.pms → Option (denR (outTys laws_heldIntS.g.rts laws_heldIntS.g.pms)) := fun k x => laws_heldIntS.f k x.1 x.2.1
@[reducible] noncomputable def laws_heldIntS.sm (k : Nat) : Sm := ⟨89, laws_heldIntS.g.pms, laws_heldIntS.g.rts, laws_heldIntS.fk k⟩
noncomputable def laws_heldIntS.E (k : Nat) : Env := ⟨tys, [], [], [], []⟩
@[reducible] noncomputable def laws_heldIntS.s5 : List Slot := [.v 0 (.sl (.int .i64)) .z [] 0, .v 4 (.int .i64) .z [] 0, .v 20 (.int .i64) .z [] 0]
noncomputable def laws_heldIntS.pts : List (Pt (denR (outTys laws_heldIntS.g.rts laws_heldIntS.g.pms))) := [⟨5, laws_heldIntS.s5, fun k x => laws_heldIntS.p5 k x.1 x.2.1 x.2.2.1⟩]
theorem laws_heldIntS.h5 (k : Nat) (x0 : (List Int)) (x1 : Int) (x2 : Int) : (laws_heldIntS.p5 (k + 1) x0 x1 x2 : Option (denR (outTys laws_heldIntS.g.rts laws_heldIntS.g.pms))) = evAt (laws_heldIntS.E k) (fun κ s => lhOf k κ s laws_heldIntS.pts) 5 b89 (unproj laws_heldIntS.s5 (x0, x1, x2, ())) (OM.fin laws_heldIntS.g Try.f89.results.toList) := by kernel_rfl
theorem laws_heldIntS.hf (k : Nat) (a0 : (List Int)) (a1 : Int) : (laws_heldIntS.f k a0 a1 : Option (denR (outTys laws_heldIntS.g.rts laws_heldIntS.g.pms))) = evC (laws_heldIntS.E k) (fun κ s => lhOf k κ s laws_heldIntS.pts) b89 (OM.start laws_heldIntS.g.pms 0 (a0, a1, ())) (OM.fin laws_heldIntS.g Try.f89.results.toList) := by kernel_rfl
theorem laws_heldIntS.ok (k : Nat) : SmOk Try.prog (laws_heldIntS.sm k) :=
  sm_ok mixed (E := laws_heldIntS.E) (pts := laws_heldIntS.pts) (fun k => ⟨⟨tysOk, by kernel_rfl⟩, forall_nil⟩) (fun _ => rfl) (fun _ => rfl)
    ⟨Try.func89, by kernel_rfl, by kernel_rfl, by kernel_rfl, by kernel_rfl, by kernel_rfl, by kernel_rfl⟩ (forall_cons (fun x => ⟨rfl, fun k => laws_heldIntS.h5 k x.1 x.2.1 x.2.2.1⟩) (forall_nil)) (fun k x => laws_heldIntS.hf k x.1 x.2.1) k
noncomputable def b57 : Code := Try.f57.body.getD .skip
theorem e57 : OM.Entry Try.prog 57 := ⟨_, Try.func57, by kernel_rfl, by kernel_rfl⟩
@[reducible] noncomputable def laws_heldWordS.g : Sig := ⟨[.fz (.sl tWord), .fz (.int .i64)], [.v (.int .i64) .z], []⟩
@[reducible] noncomputable def laws_heldWordS.fk : Nat → denI laws_heldWordS.g.pms → Option (denR (outTys laws_heldWordS.g.rts laws_heldWordS.g.pms)) := fun k x => laws_heldWordS.f k x.1 x.2.1
@[reducible] noncomputable def laws_heldWordS.sm (k : Nat) : Sm := ⟨57, laws_heldWordS.g.pms, laws_heldWordS.g.rts, laws_heldWordS.fk k⟩
noncomputable def laws_heldWordS.E (k : Nat) : Env := ⟨tys, [laws_markText.sm k, laws_heldIntS.sm k], [], [], [4]⟩
@[reducible] noncomputable def laws_heldWordS.s5 : List Slot := [.v 0 (.sl tWord) .z [] 0, .v 4 (.int .i64) .z [] 0, .v 20 (.int .i64) .z [] 0]
noncomputable def laws_heldWordS.pts : List (Pt (denR (outTys laws_heldWordS.g.rts laws_heldWordS.g.pms))) := [⟨5, laws_heldWordS.s5, fun k x => laws_heldWordS.p5 k x.1 x.2.1 x.2.2.1⟩]
theorem laws_heldWordS.h5 (k : Nat) (x0 : (List Word)) (x1 : Int) (x2 : Int) : (laws_heldWordS.p5 (k + 1) x0 x1 x2 : Option (denR (outTys laws_heldWordS.g.rts laws_heldWordS.g.pms))) = evAt (laws_heldWordS.E k) (fun κ s => lhOf k κ s laws_heldWordS.pts) 5 b57 (unproj laws_heldWordS.s5 (x0, x1, x2, ())) (OM.fin laws_heldWordS.g Try.f57.results.toList) := by kernel_rfl
theorem laws_heldWordS.hf (k : Nat) (a0 : (List Word)) (a1 : Int) : (laws_heldWordS.f k a0 a1 : Option (denR (outTys laws_heldWordS.g.rts laws_heldWordS.g.pms))) = evC (laws_heldWordS.E k) (fun κ s => lhOf k κ s laws_heldWordS.pts) b57 (OM.start laws_heldWordS.g.pms 0 (a0, a1, ())) (OM.fin laws_heldWordS.g Try.f57.results.toList) := by kernel_rfl
theorem laws_heldWordS.ok (k : Nat) : SmOk Try.prog (laws_heldWordS.sm k) :=
  sm_ok mixed (E := laws_heldWordS.E) (pts := laws_heldWordS.pts) (fun k => ⟨⟨tysOk, by kernel_rfl⟩, forall_cons ⟨laws_markText.ok k, e99⟩ (forall_cons ⟨laws_heldIntS.ok k, e89⟩ (forall_nil))⟩) (fun _ => rfl) (fun _ => rfl)
    ⟨Try.func57, by kernel_rfl, by kernel_rfl, by kernel_rfl, by kernel_rfl, by kernel_rfl, by kernel_rfl⟩ (forall_cons (fun x => ⟨rfl, fun k => laws_heldWordS.h5 k x.1 x.2.1 x.2.2.1⟩) (forall_nil)) (fun k x => laws_heldWordS.hf k x.1 x.2.1) k
noncomputable def b19 : Code := Try.f19.body.getD .skip
theorem e19 : OM.Entry Try.prog 19 := ⟨_, Try.func19, by kernel_rfl, by kernel_rfl⟩
@[reducible] noncomputable def laws_heldWriter.g : Sig := ⟨[.fz tWriter, .fz (.int .i64)], [.v (.int .i64) .z], []⟩
@[reducible] noncomputable def laws_heldWriter.fk : Nat → denI laws_heldWriter.g.pms → Option (denR (outTys laws_heldWriter.g.rts laws_heldWriter.g.pms)) := fun k x => laws_heldWriter.f k x.1 x.2.1
@[reducible] noncomputable def laws_heldWriter.sm (k : Nat) : Sm := ⟨19, laws_heldWriter.g.pms, laws_heldWriter.g.rts, laws_heldWriter.fk k⟩
noncomputable def laws_heldWriter.E (k : Nat) : Env := ⟨tys, [laws_heldWordS.sm k], [], [], []⟩
noncomputable def laws_heldWriter.pts : List (Pt (denR (outTys laws_heldWriter.g.rts laws_heldWriter.g.pms))) := []
theorem laws_heldWriter.hf (k : Nat) (a0 : Writer) (a1 : Int) : (laws_heldWriter.f k a0 a1 : Option (denR (outTys laws_heldWriter.g.rts laws_heldWriter.g.pms))) = evC (laws_heldWriter.E k) (fun κ s => lhOf k κ s laws_heldWriter.pts) b19 (OM.start laws_heldWriter.g.pms 0 (a0, a1, ())) (OM.fin laws_heldWriter.g Try.f19.results.toList) := by kernel_rfl
theorem laws_heldWriter.ok (k : Nat) : SmOk Try.prog (laws_heldWriter.sm k) :=
  sm_ok mixed (E := laws_heldWriter.E) (pts := laws_heldWriter.pts) (fun k => ⟨⟨tysOk, by kernel_rfl⟩, forall_cons ⟨laws_heldWordS.ok k, e57⟩ (forall_nil)⟩) (fun _ => rfl) (fun _ => rfl)
    ⟨Try.func19, by kernel_rfl, by kernel_rfl, by kernel_rfl, by kernel_rfl, by kernel_rfl, by kernel_rfl⟩ (forall_nil) (fun k x => laws_heldWriter.hf k x.1 x.2.1) k
noncomputable def b3 : Code := Try.f3.body.getD .skip
theorem e3 : OM.Entry Try.prog 3 := ⟨_, Try.func3, by kernel_rfl, by kernel_rfl⟩
@[reducible] noncomputable def laws_FnExactWriterForget.g : Sig := ⟨[.fz tConfig, .fz tWriter, .fz (.int .i64)], [.v .bool .z], []⟩
@[reducible] noncomputable def laws_FnExactWriterForget.fk : Nat → denI laws_FnExactWriterForget.g.pms → Option (denR (outTys laws_FnExactWriterForget.g.rts laws_FnExactWriterForget.g.pms)) := fun k x => laws_FnExactWriterForget.f k x.1 x.2.1 x.2.2.1
@[reducible] noncomputable def laws_FnExactWriterForget.sm (k : Nat) : Sm := ⟨3, laws_FnExactWriterForget.g.pms, laws_FnExactWriterForget.g.rts, laws_FnExactWriterForget.fk k⟩
noncomputable def laws_FnExactWriterForget.E (k : Nat) : Env := ⟨tys, [laws_szConfig.sm k, laws_szWriter.sm k, laws_toConfig.sm k, laws_toWriter.sm k, spec_WriterForget.sm k, impl_WriterForget.sm k, laws_eqWriter.sm k, laws_eqConfig.sm k, laws_markConfig.sm k, laws_markWriter.sm k, laws_heldWriter.sm k], [], [], [4]⟩
noncomputable def laws_FnExactWriterForget.pts : List (Pt (denR (outTys laws_FnExactWriterForget.g.rts laws_FnExactWriterForget.g.pms))) := []
theorem laws_FnExactWriterForget.hf (k : Nat) (a0 : Config) (a1 : Writer) (a2 : Int) : (laws_FnExactWriterForget.f k a0 a1 a2 : Option (denR (outTys laws_FnExactWriterForget.g.rts laws_FnExactWriterForget.g.pms))) = evC (laws_FnExactWriterForget.E k) (fun κ s => lhOf k κ s laws_FnExactWriterForget.pts) b3 (OM.start laws_FnExactWriterForget.g.pms 0 (a0, a1, a2, ())) (OM.fin laws_FnExactWriterForget.g Try.f3.results.toList) := by kernel_rfl
theorem laws_FnExactWriterForget.ok (k : Nat) : SmOk Try.prog (laws_FnExactWriterForget.sm k) :=
  sm_ok mixed (E := laws_FnExactWriterForget.E) (pts := laws_FnExactWriterForget.pts) (fun k => ⟨⟨tysOk, by kernel_rfl⟩, forall_cons ⟨laws_szConfig.ok k, e9⟩ (forall_cons ⟨laws_szWriter.ok k, e10⟩ (forall_cons ⟨laws_toConfig.ok k, e12⟩ (forall_cons ⟨laws_toWriter.ok k, e13⟩ (forall_cons ⟨spec_WriterForget.ok k, e11⟩ (forall_cons ⟨impl_WriterForget.ok k, e14⟩ (forall_cons ⟨laws_eqWriter.ok k, e15⟩ (forall_cons ⟨laws_eqConfig.ok k, e16⟩ (forall_cons ⟨laws_markConfig.ok k, e17⟩ (forall_cons ⟨laws_markWriter.ok k, e18⟩ (forall_cons ⟨laws_heldWriter.ok k, e19⟩ (forall_nil)))))))))))⟩) (fun _ => rfl) (fun _ => rfl)
    ⟨Try.func3, by kernel_rfl, by kernel_rfl, by kernel_rfl, by kernel_rfl, by kernel_rfl, by kernel_rfl⟩ (forall_nil) (fun k x => laws_FnExactWriterForget.hf k x.1 x.2.1 x.2.2.1) k
end Go.Proofs.Ytllmifioelbleab.OmFnExactWriterForget
