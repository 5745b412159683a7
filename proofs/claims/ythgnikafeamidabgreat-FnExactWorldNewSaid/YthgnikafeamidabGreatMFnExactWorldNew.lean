import Derived.Test.YthgnikafeamidabGreatFFnExactWorldNew
import Derived.Test.YthgnikafeamidabGreatChecked
set_option maxRecDepth 1000000
set_option linter.unusedVariables false
namespace Go.Proofs.YthgnikafeamidabGreat.OmFnExactWorldNew
open Go Go.OM
noncomputable def tys : List (Option Ty) := [none, none, some (.int .i64), some (.int .i64), some .bool, some (.int .u8), some (.int .u8), some (.pair (.int .i64) (.pair (.int .i64) (.pair .bool (.pair (.int .u8) .unit)))), some (.pair (.int .i64) (.pair (.int .i64) (.pair .bool (.pair (.int .u8) .unit)))), some .str, some .str, some .str, some (.int .u64), some (.pair .str (.pair (.int .u64) .unit)), some (.pair .str (.pair (.int .u64) .unit)), none, none, none, none, none, none, some (.int .i32), some (.sl (.int .i64)), some tConfig, some tConfig, none, some tConfig, some (.sl tStore), some (.sl tEra), some tRegister, some tRegister, some (.sl tWriter), some (.sl tMend), some (.sl tReader), some (.sl tSent), some tWorld, some tWorld, none, none, none, none, none, none, none, none, none, none, some (.sl tEvent), some tReader, some tReader, none, none, none, none, none, none, none, none, none, none, none, none, none, none, none, none, none, none, none, none, none, some (.sl tEntry), some tStore, some tStore, none, none, some (.sl tWord), some tWriter, some tWriter, none, some (.sl (.sl (.int .i64))), some tMend, some tMend, none, none, some tSent, some tSent, none, none, none, none, none, none, none, none, none, none, some tEra, some tEra, none, none, none, none, none, none, none, none, none, none, none, none, some tEntry, some tEntry, some tWord, some tWord, some tEvent, some tEvent, some (.sl (.int .u8)), none, none, none, none, none, none, none, none, none, none, none, none, none, none, none, none, none, none, none, none, some (.int .u32), some (.int .u8), some (.int .u8), none, none, some (.int .i32), some (.int .i32), none, none, none]
theorem tysOk : okTys Tryz.prog tys 0 tys = true := by kernel_rfl
theorem mixed : Tryz.prog.follows .mixedOrders = true := by kernel_rfl
noncomputable def b13 : Code := Tryz.f13.body.getD .skip
theorem e13 : OM.Entry Tryz.prog 13 := ⟨_, Tryz.func13, by kernel_rfl, by kernel_rfl⟩
@[reducible] noncomputable def laws_szIntS.g : Sig := ⟨[.fz (.sl (.int .i64)), .fz (.int .i64)], [.v (.int .i64) .z], []⟩
@[reducible] noncomputable def laws_szIntS.fk : Nat → denI laws_szIntS.g.pms → Option (denR (outTys laws_szIntS.g.rts laws_szIntS.g.pms)) := fun k x => laws_szIntS.f x.1 x.2.1
@[reducible] noncomputable def laws_szIntS.sm (k : Nat) : Sm := ⟨13, laws_szIntS.g.pms, laws_szIntS.g.rts, laws_szIntS.fk k⟩
noncomputable def laws_szIntS.E (k : Nat) : Env := ⟨tys, [], [], [], []⟩
noncomputable def laws_szIntS.pts : List (Pt (denR (outTys laws_szIntS.g.rts laws_szIntS.g.pms))) := []
theorem laws_szIntS.hf (k : Nat) (a0 : (List Int)) (a1 : Int) : (laws_szIntS.f a0 a1 : Option (denR (outTys laws_szIntS.g.rts laws_szIntS.g.pms))) = evC (laws_szIntS.E k) (fun κ s => lhOf k κ s laws_szIntS.pts) b13 (OM.start laws_szIntS.g.pms 0 (a0, a1, ())) (OM.fin laws_szIntS.g Tryz.f13.results.toList) := by kernel_rfl
theorem laws_szIntS.ok (k : Nat) : SmOk Tryz.prog (laws_szIntS.sm k) :=
  sm_ok mixed (E := laws_szIntS.E) (pts := laws_szIntS.pts) (fun k => ⟨⟨tysOk, by kernel_rfl⟩, forall_nil⟩) (fun _ => rfl) (fun _ => rfl)
    ⟨Tryz.func13, by kernel_rfl, by kernel_rfl, by kernel_rfl, by kernel_rfl, by kernel_rfl, by kernel_rfl⟩ (forall_nil) (fun k x => laws_szIntS.hf k x.1 x.2.1) k
noncomputable def b4 : Code := Tryz.f4.body.getD .skip
theorem e4 : OM.Entry Tryz.prog 4 := ⟨_, Tryz.func4, by kernel_rfl, by kernel_rfl⟩
@[reducible] noncomputable def laws_szConfig.g : Sig := ⟨[.fz tConfig, .fz (.int .i64)], [.v (.int .i64) .z], []⟩
@[reducible] noncomputable def laws_szConfig.fk : Nat → denI laws_szConfig.g.pms → Option (denR (outTys laws_szConfig.g.rts laws_szConfig.g.pms)) := fun k x => laws_szConfig.f x.1 x.2.1
@[reducible] noncomputable def laws_szConfig.sm (k : Nat) : Sm := ⟨4, laws_szConfig.g.pms, laws_szConfig.g.rts, laws_szConfig.fk k⟩
noncomputable def laws_szConfig.E (k : Nat) : Env := ⟨tys, [laws_szIntS.sm k], [], [], []⟩
noncomputable def laws_szConfig.pts : List (Pt (denR (outTys laws_szConfig.g.rts laws_szConfig.g.pms))) := []
theorem laws_szConfig.hf (k : Nat) (a0 : Config) (a1 : Int) : (laws_szConfig.f a0 a1 : Option (denR (outTys laws_szConfig.g.rts laws_szConfig.g.pms))) = evC (laws_szConfig.E k) (fun κ s => lhOf k κ s laws_szConfig.pts) b4 (OM.start laws_szConfig.g.pms 0 (a0, a1, ())) (OM.fin laws_szConfig.g Tryz.f4.results.toList) := by kernel_rfl
theorem laws_szConfig.ok (k : Nat) : SmOk Tryz.prog (laws_szConfig.sm k) :=
  sm_ok mixed (E := laws_szConfig.E) (pts := laws_szConfig.pts) (fun k => ⟨⟨tysOk, by kernel_rfl⟩, forall_cons ⟨laws_szIntS.ok k, e13⟩ (forall_nil)⟩) (fun _ => rfl) (fun _ => rfl)
    ⟨Tryz.func4, by kernel_rfl, by kernel_rfl, by kernel_rfl, by kernel_rfl, by kernel_rfl, by kernel_rfl⟩ (forall_nil) (fun k x => laws_szConfig.hf k x.1 x.2.1) k
noncomputable def b16 : Code := Tryz.f16.body.getD .skip
theorem e16 : OM.Entry Tryz.prog 16 := ⟨_, Tryz.func16, by kernel_rfl, by kernel_rfl⟩
@[reducible] noncomputable def laws_toIntS.g : Sig := ⟨[.fz (.sl (.int .i64))], [.v (.sl (.int .i64)) (.own .z)], []⟩
@[reducible] noncomputable def laws_toIntS.fk : Nat → denI laws_toIntS.g.pms → Option (denR (outTys laws_toIntS.g.rts laws_toIntS.g.pms)) := fun k x => laws_toIntS.f k x.1
@[reducible] noncomputable def laws_toIntS.sm (k : Nat) : Sm := ⟨16, laws_toIntS.g.pms, laws_toIntS.g.rts, laws_toIntS.fk k⟩
noncomputable def laws_toIntS.E (k : Nat) : Env := ⟨tys, [], [19], [], []⟩
@[reducible] noncomputable def laws_toIntS.s7 : List Slot := [.v 0 (.sl (.int .i64)) .z [] 0, .v 12 (.sl (.int .i64)) (.own .z) [] 0, .v 16 (.int .i64) .z [] 0]
noncomputable def laws_toIntS.pts : List (Pt (denR (outTys laws_toIntS.g.rts laws_toIntS.g.pms))) := [⟨7, laws_toIntS.s7, fun k x => laws_toIntS.p7 k x.1 x.2.1 x.2.2.1⟩]
theorem laws_toIntS.h7 (k : Nat) (x0 : (List Int)) (x1 : (List Int)) (x2 : Int) : (laws_toIntS.p7 (k + 1) x0 x1 x2 : Option (denR (outTys laws_toIntS.g.rts laws_toIntS.g.pms))) = evAt (laws_toIntS.E k) (fun κ s => lhOf k κ s laws_toIntS.pts) 7 b16 (unproj laws_toIntS.s7 (x0, x1, x2, ())) (OM.fin laws_toIntS.g Tryz.f16.results.toList) := by kernel_rfl
theorem laws_toIntS.hf (k : Nat) (a0 : (List Int)) : (laws_toIntS.f k a0 : Option (denR (outTys laws_toIntS.g.rts laws_toIntS.g.pms))) = evC (laws_toIntS.E k) (fun κ s => lhOf k κ s laws_toIntS.pts) b16 (OM.start laws_toIntS.g.pms 0 (a0, ())) (OM.fin laws_toIntS.g Tryz.f16.results.toList) := by kernel_rfl
theorem laws_toIntS.ok (k : Nat) : SmOk Tryz.prog (laws_toIntS.sm k) :=
  sm_ok mixed (E := laws_toIntS.E) (pts := laws_toIntS.pts) (fun k => ⟨⟨tysOk, by kernel_rfl⟩, forall_nil⟩) (fun _ => rfl) (fun _ => rfl)
    ⟨Tryz.func16, by kernel_rfl, by kernel_rfl, by kernel_rfl, by kernel_rfl, by kernel_rfl, by kernel_rfl⟩ (forall_cons (fun x => ⟨rfl, fun k => laws_toIntS.h7 k x.1 x.2.1 x.2.2.1⟩) (forall_nil)) (fun k x => laws_toIntS.hf k x.1) k
noncomputable def b6 : Code := Tryz.f6.body.getD .skip
theorem e6 : OM.Entry Tryz.prog 6 := ⟨_, Tryz.func6, by kernel_rfl, by kernel_rfl⟩
@[reducible] noncomputable def laws_toConfig.g : Sig := ⟨[.fz tConfig], [.v tConfig (.two (.own .z) .z)], []⟩
@[reducible] noncomputable def laws_toConfig.fk : Nat → denI laws_toConfig.g.pms → Option (denR (outTys laws_toConfig.g.rts laws_toConfig.g.pms)) := fun k x => laws_toConfig.f k x.1
@[reducible] noncomputable def laws_toConfig.sm (k : Nat) : Sm := ⟨6, laws_toConfig.g.pms, laws_toConfig.g.rts, laws_toConfig.fk k⟩
noncomputable def laws_toConfig.E (k : Nat) : Env := ⟨tys, [laws_toIntS.sm k], [9], [], []⟩
noncomputable def laws_toConfig.pts : List (Pt (denR (outTys laws_toConfig.g.rts laws_toConfig.g.pms))) := []
theorem laws_toConfig.hf (k : Nat) (a0 : Config) : (laws_toConfig.f k a0 : Option (denR (outTys laws_toConfig.g.rts laws_toConfig.g.pms))) = evC (laws_toConfig.E k) (fun κ s => lhOf k κ s laws_toConfig.pts) b6 (OM.start laws_toConfig.g.pms 0 (a0, ())) (OM.fin laws_toConfig.g Tryz.f6.results.toList) := by kernel_rfl
theorem laws_toConfig.ok (k : Nat) : SmOk Tryz.prog (laws_toConfig.sm k) :=
  sm_ok mixed (E := laws_toConfig.E) (pts := laws_toConfig.pts) (fun k => ⟨⟨tysOk, by kernel_rfl⟩, forall_cons ⟨laws_toIntS.ok k, e16⟩ (forall_nil)⟩) (fun _ => rfl) (fun _ => rfl)
    ⟨Tryz.func6, by kernel_rfl, by kernel_rfl, by kernel_rfl, by kernel_rfl, by kernel_rfl, by kernel_rfl⟩ (forall_nil) (fun k x => laws_toConfig.hf k x.1) k
noncomputable def b42 : Code := Tryz.f42.body.getD .skip
theorem e42 : OM.Entry Tryz.prog 42 := ⟨_, Tryz.func42, by kernel_rfl, by kernel_rfl⟩
@[reducible] noncomputable def spec_l1In.g : Sig := ⟨[.fz (.int .i64), .fz (.int .i64), .fz (.int .i64)], [.v .bool .z], []⟩
@[reducible] noncomputable def spec_l1In.fk : Nat → denI spec_l1In.g.pms → Option (denR (outTys spec_l1In.g.rts spec_l1In.g.pms)) := fun k x => spec_l1In.f x.1 x.2.1 x.2.2.1
@[reducible] noncomputable def spec_l1In.sm (k : Nat) : Sm := ⟨42, spec_l1In.g.pms, spec_l1In.g.rts, spec_l1In.fk k⟩
noncomputable def spec_l1In.E (k : Nat) : Env := ⟨tys, [], [], [], []⟩
noncomputable def spec_l1In.pts : List (Pt (denR (outTys spec_l1In.g.rts spec_l1In.g.pms))) := []
theorem spec_l1In.hf (k : Nat) (a0 : Int) (a1 : Int) (a2 : Int) : (spec_l1In.f a0 a1 a2 : Option (denR (outTys spec_l1In.g.rts spec_l1In.g.pms))) = evC (spec_l1In.E k) (fun κ s => lhOf k κ s spec_l1In.pts) b42 (OM.start spec_l1In.g.pms 0 (a0, a1, a2, ())) (OM.fin spec_l1In.g Tryz.f42.results.toList) := by kernel_rfl
theorem spec_l1In.ok (k : Nat) : SmOk Tryz.prog (spec_l1In.sm k) :=
  sm_ok mixed (E := spec_l1In.E) (pts := spec_l1In.pts) (fun k => ⟨⟨tysOk, by kernel_rfl⟩, forall_nil⟩) (fun _ => rfl) (fun _ => rfl)
    ⟨Tryz.func42, by kernel_rfl, by kernel_rfl, by kernel_rfl, by kernel_rfl, by kernel_rfl, by kernel_rfl⟩ (forall_nil) (fun k x => spec_l1In.hf k x.1 x.2.1 x.2.2.1) k
noncomputable def b14 : Code := Tryz.f14.body.getD .skip
theorem e14 : OM.Entry Tryz.prog 14 := ⟨_, Tryz.func14, by kernel_rfl, by kernel_rfl⟩
@[reducible] noncomputable def spec_ConfigOk.g : Sig := ⟨[.fz tConfig], [.v .bool .z], []⟩
@[reducible] noncomputable def spec_ConfigOk.fk : Nat → denI spec_ConfigOk.g.pms → Option (denR (outTys spec_ConfigOk.g.rts spec_ConfigOk.g.pms)) := fun k x => spec_ConfigOk.f k x.1
@[reducible] noncomputable def spec_ConfigOk.sm (k : Nat) : Sm := ⟨14, spec_ConfigOk.g.pms, spec_ConfigOk.g.rts, spec_ConfigOk.fk k⟩
noncomputable def spec_ConfigOk.E (k : Nat) : Env := ⟨tys, [spec_l1In.sm k], [], [], []⟩
@[reducible] noncomputable def spec_ConfigOk.s9 : List Slot := [.r 4 5 [] tConfig, .v 12 (.int .i64) .z [] 0, .v 5 tConfig .z [] 0]
noncomputable def spec_ConfigOk.pts : List (Pt (denR (outTys spec_ConfigOk.g.rts spec_ConfigOk.g.pms))) := [⟨9, spec_ConfigOk.s9, fun k x => spec_ConfigOk.p9 k x.1 x.2.1⟩]
theorem spec_ConfigOk.h9 (k : Nat) (x0 : Int) (x1 : Config) : (spec_ConfigOk.p9 (k + 1) x0 x1 : Option (denR (outTys spec_ConfigOk.g.rts spec_ConfigOk.g.pms))) = evAt (spec_ConfigOk.E k) (fun κ s => lhOf k κ s spec_ConfigOk.pts) 9 b14 (unproj spec_ConfigOk.s9 (x0, x1, ())) (OM.fin spec_ConfigOk.g Tryz.f14.results.toList) := by kernel_rfl
theorem spec_ConfigOk.hf (k : Nat) (a0 : Config) : (spec_ConfigOk.f k a0 : Option (denR (outTys spec_ConfigOk.g.rts spec_ConfigOk.g.pms))) = evC (spec_ConfigOk.E k) (fun κ s => lhOf k κ s spec_ConfigOk.pts) b14 (OM.start spec_ConfigOk.g.pms 0 (a0, ())) (OM.fin spec_ConfigOk.g Tryz.f14.results.toList) := by kernel_rfl
theorem spec_ConfigOk.ok (k : Nat) : SmOk Tryz.prog (spec_ConfigOk.sm k) :=
  sm_ok mixed (E := spec_ConfigOk.E) (pts := spec_ConfigOk.pts) (fun k => ⟨⟨tysOk, by kernel_rfl⟩, forall_cons ⟨spec_l1In.ok k, e42⟩ (forall_nil)⟩) (fun _ => rfl) (fun _ => rfl)
    ⟨Tryz.func14, by kernel_rfl, by kernel_rfl, by kernel_rfl, by kernel_rfl, by kernel_rfl, by kernel_rfl⟩ (forall_cons (fun x => ⟨rfl, fun k => spec_ConfigOk.h9 k x.1 x.2.1⟩) (forall_nil)) (fun k x => spec_ConfigOk.hf k x.1) k
noncomputable def b15 : Code := Tryz.f15.body.getD .skip
theorem e15 : OM.Entry Tryz.prog 15 := ⟨_, Tryz.func15, by kernel_rfl, by kernel_rfl⟩
@[reducible] noncomputable def spec_ReaderNew.g : Sig := ⟨[], [.v tReader (.two .z (.two .z (.two (.own .a) .z)))], []⟩
@[reducible] noncomputable def spec_ReaderNew.fk : Nat → denI spec_ReaderNew.g.pms → Option (denR (outTys spec_ReaderNew.g.rts spec_ReaderNew.g.pms)) := fun k x => spec_ReaderNew.f
@[reducible] noncomputable def spec_ReaderNew.sm (k : Nat) : Sm := ⟨15, spec_ReaderNew.g.pms, spec_ReaderNew.g.rts, spec_ReaderNew.fk k⟩
noncomputable def spec_ReaderNew.E (k : Nat) : Env := ⟨tys, [], [], [], []⟩
noncomputable def spec_ReaderNew.pts : List (Pt (denR (outTys spec_ReaderNew.g.rts spec_ReaderNew.g.pms))) := []
theorem spec_ReaderNew.hf (k : Nat) : (spec_ReaderNew.f : Option (denR (outTys spec_ReaderNew.g.rts spec_ReaderNew.g.pms))) = evC (spec_ReaderNew.E k) (fun κ s => lhOf k κ s spec_ReaderNew.pts) b15 (OM.start spec_ReaderNew.g.pms 0 (())) (OM.fin spec_ReaderNew.g Tryz.f15.results.toList) := by kernel_rfl
theorem spec_ReaderNew.ok (k : Nat) : SmOk Tryz.prog (spec_ReaderNew.sm k) :=
  sm_ok mixed (E := spec_ReaderNew.E) (pts := spec_ReaderNew.pts) (fun k => ⟨⟨tysOk, by kernel_rfl⟩, forall_nil⟩) (fun _ => rfl) (fun _ => rfl)
    ⟨Tryz.func15, by kernel_rfl, by kernel_rfl, by kernel_rfl, by kernel_rfl, by kernel_rfl, by kernel_rfl⟩ (forall_nil) (fun k x => spec_ReaderNew.hf k) k
noncomputable def b5 : Code := Tryz.f5.body.getD .skip
theorem e5 : OM.Entry Tryz.prog 5 := ⟨_, Tryz.func5, by kernel_rfl, by kernel_rfl⟩
@[reducible] noncomputable def spec_WorldNew.g : Sig := ⟨[.fz tConfig], [.v tWorld (.two (.two (.own .z) .z) (.two (.own (.two (.own .z) (.two (.own .z) .z))) (.two (.own .a) (.two (.two (.own .a) .z) (.two (.own .a) (.two (.own .a) (.two (.own (.two .z (.two .z (.two (.own .a) .z)))) (.two (.own .a) .z)))))))), .v .bool .z], []⟩
@[reducible] noncomputable def spec_WorldNew.fk : Nat → denI spec_WorldNew.g.pms → Option (denR (outTys spec_WorldNew.g.rts spec_WorldNew.g.pms)) := fun k x => spec_WorldNew.f k x.1
@[reducible] noncomputable def spec_WorldNew.sm (k : Nat) : Sm := ⟨5, spec_WorldNew.g.pms, spec_WorldNew.g.rts, spec_WorldNew.fk k⟩
noncomputable def spec_WorldNew.E (k : Nat) : Env := ⟨tys, [spec_ConfigOk.sm k, spec_ReaderNew.sm k], [16], [], []⟩
noncomputable def spec_WorldNew.pts : List (Pt (denR (outTys spec_WorldNew.g.rts spec_WorldNew.g.pms))) := []
theorem spec_WorldNew.hf (k : Nat) (a0 : Config) : (spec_WorldNew.f k a0 : Option (denR (outTys spec_WorldNew.g.rts spec_WorldNew.g.pms))) = evC (spec_WorldNew.E k) (fun κ s => lhOf k κ s spec_WorldNew.pts) b5 (OM.start spec_WorldNew.g.pms 0 (a0, ())) (OM.fin spec_WorldNew.g Tryz.f5.results.toList) := by kernel_rfl
theorem spec_WorldNew.ok (k : Nat) : SmOk Tryz.prog (spec_WorldNew.sm k) :=
  sm_ok mixed (E := spec_WorldNew.E) (pts := spec_WorldNew.pts) (fun k => ⟨⟨tysOk, by kernel_rfl⟩, forall_cons ⟨spec_ConfigOk.ok k, e14⟩ (forall_cons ⟨spec_ReaderNew.ok k, e15⟩ (forall_nil))⟩) (fun _ => rfl) (fun _ => rfl)
    ⟨Tryz.func5, by kernel_rfl, by kernel_rfl, by kernel_rfl, by kernel_rfl, by kernel_rfl, by kernel_rfl⟩ (forall_nil) (fun k x => spec_WorldNew.hf k x.1) k
noncomputable def b43 : Code := Tryz.f43.body.getD .skip
theorem e43 : OM.Entry Tryz.prog 43 := ⟨_, Tryz.func43, by kernel_rfl, by kernel_rfl⟩
@[reducible] noncomputable def impl_copyInts.g : Sig := ⟨[.fz (.sl (.int .i64))], [.v (.sl (.int .i64)) (.own .z)], []⟩
@[reducible] noncomputable def impl_copyInts.fk : Nat → denI impl_copyInts.g.pms → Option (denR (outTys impl_copyInts.g.rts impl_copyInts.g.pms)) := fun k x => impl_copyInts.f x.1
@[reducible] noncomputable def impl_copyInts.sm (k : Nat) : Sm := ⟨43, impl_copyInts.g.pms, impl_copyInts.g.rts, impl_copyInts.fk k⟩
noncomputable def impl_copyInts.E (k : Nat) : Env := ⟨tys, [], [4], [], []⟩
noncomputable def impl_copyInts.pts : List (Pt (denR (outTys impl_copyInts.g.rts impl_copyInts.g.pms))) := []
theorem impl_copyInts.hf (k : Nat) (a0 : (List Int)) : (impl_copyInts.f a0 : Option (denR (outTys impl_copyInts.g.rts impl_copyInts.g.pms))) = evC (impl_copyInts.E k) (fun κ s => lhOf k κ s impl_copyInts.pts) b43 (OM.start impl_copyInts.g.pms 0 (a0, ())) (OM.fin impl_copyInts.g Tryz.f43.results.toList) := by kernel_rfl
theorem impl_copyInts.ok (k : Nat) : SmOk Tryz.prog (impl_copyInts.sm k) :=
  sm_ok mixed (E := impl_copyInts.E) (pts := impl_copyInts.pts) (fun k => ⟨⟨tysOk, by kernel_rfl⟩, forall_nil⟩) (fun _ => rfl) (fun _ => rfl)
    ⟨Tryz.func43, by kernel_rfl, by kernel_rfl, by kernel_rfl, by kernel_rfl, by kernel_rfl, by kernel_rfl⟩ (forall_nil) (fun k x => impl_copyInts.hf k x.1) k
noncomputable def b17 : Code := Tryz.f17.body.getD .skip
theorem e17 : OM.Entry Tryz.prog 17 := ⟨_, Tryz.func17, by kernel_rfl, by kernel_rfl⟩
@[reducible] noncomputable def impl_copyConfig.g : Sig := ⟨[.fz tConfig], [.v tConfig (.two (.own .z) .z)], []⟩
@[reducible] noncomputable def impl_copyConfig.fk : Nat → denI impl_copyConfig.g.pms → Option (denR (outTys impl_copyConfig.g.rts impl_copyConfig.g.pms)) := fun k x => impl_copyConfig.f x.1
@[reducible] noncomputable def impl_copyConfig.sm (k : Nat) : Sm := ⟨17, impl_copyConfig.g.pms, impl_copyConfig.g.rts, impl_copyConfig.fk k⟩
noncomputable def impl_copyConfig.E (k : Nat) : Env := ⟨tys, [impl_copyInts.sm k], [7], [], []⟩
noncomputable def impl_copyConfig.pts : List (Pt (denR (outTys impl_copyConfig.g.rts impl_copyConfig.g.pms))) := []
theorem impl_copyConfig.hf (k : Nat) (a0 : Config) : (impl_copyConfig.f a0 : Option (denR (outTys impl_copyConfig.g.rts impl_copyConfig.g.pms))) = evC (impl_copyConfig.E k) (fun κ s => lhOf k κ s impl_copyConfig.pts) b17 (OM.start impl_copyConfig.g.pms 0 (a0, ())) (OM.fin impl_copyConfig.g Tryz.f17.results.toList) := by kernel_rfl
theorem impl_copyConfig.ok (k : Nat) : SmOk Tryz.prog (impl_copyConfig.sm k) :=
  sm_ok mixed (E := impl_copyConfig.E) (pts := impl_copyConfig.pts) (fun k => ⟨⟨tysOk, by kernel_rfl⟩, forall_cons ⟨impl_copyInts.ok k, e43⟩ (forall_nil)⟩) (fun _ => rfl) (fun _ => rfl)
    ⟨Tryz.func17, by kernel_rfl, by kernel_rfl, by kernel_rfl, by kernel_rfl, by kernel_rfl, by kernel_rfl⟩ (forall_nil) (fun k x => impl_copyConfig.hf k x.1) k
noncomputable def b18 : Code := Tryz.f18.body.getD .skip
theorem e18 : OM.Entry Tryz.prog 18 := ⟨_, Tryz.func18, by kernel_rfl, by kernel_rfl⟩
@[reducible] noncomputable def impl_ReaderNew.g : Sig := ⟨[], [.v tReader (.two .z (.two .z (.two (.own .a) .z)))], []⟩
@[reducible] noncomputable def impl_ReaderNew.fk : Nat → denI impl_ReaderNew.g.pms → Option (denR (outTys impl_ReaderNew.g.rts impl_ReaderNew.g.pms)) := fun k x => impl_ReaderNew.f
@[reducible] noncomputable def impl_ReaderNew.sm (k : Nat) : Sm := ⟨18, impl_ReaderNew.g.pms, impl_ReaderNew.g.rts, impl_ReaderNew.fk k⟩
noncomputable def impl_ReaderNew.E (k : Nat) : Env := ⟨tys, [], [], [], []⟩
noncomputable def impl_ReaderNew.pts : List (Pt (denR (outTys impl_ReaderNew.g.rts impl_ReaderNew.g.pms))) := []
theorem impl_ReaderNew.hf (k : Nat) : (impl_ReaderNew.f : Option (denR (outTys impl_ReaderNew.g.rts impl_ReaderNew.g.pms))) = evC (impl_ReaderNew.E k) (fun κ s => lhOf k κ s impl_ReaderNew.pts) b18 (OM.start impl_ReaderNew.g.pms 0 (())) (OM.fin impl_ReaderNew.g Tryz.f18.results.toList) := by kernel_rfl
theorem impl_ReaderNew.ok (k : Nat) : SmOk Tryz.prog (impl_ReaderNew.sm k) :=
  sm_ok mixed (E := impl_ReaderNew.E) (pts := impl_ReaderNew.pts) (fun k => ⟨⟨tysOk, by kernel_rfl⟩, forall_nil⟩) (fun _ => rfl) (fun _ => rfl)
    ⟨Tryz.func18, by kernel_rfl, by kernel_rfl, by kernel_rfl, by kernel_rfl, by kernel_rfl, by kernel_rfl⟩ (forall_nil) (fun k x => impl_ReaderNew.hf k) k
noncomputable def b68 : Code := Tryz.f68.body.getD .skip
theorem e68 : OM.Entry Tryz.prog 68 := ⟨_, Tryz.func68, by kernel_rfl, by kernel_rfl⟩
@[reducible] noncomputable def impl_within.g : Sig := ⟨[.fz (.int .i64), .fz (.int .i64), .fz (.int .i64)], [.v .bool .z], []⟩
@[reducible] noncomputable def impl_within.fk : Nat → denI impl_within.g.pms → Option (denR (outTys impl_within.g.rts impl_within.g.pms)) := fun k x => impl_within.f x.1 x.2.1 x.2.2.1
@[reducible] noncomputable def impl_within.sm (k : Nat) : Sm := ⟨68, impl_within.g.pms, impl_within.g.rts, impl_within.fk k⟩
noncomputable def impl_within.E (k : Nat) : Env := ⟨tys, [], [], [], []⟩
noncomputable def impl_within.pts : List (Pt (denR (outTys impl_within.g.rts impl_within.g.pms))) := []
theorem impl_within.hf (k : Nat) (a0 : Int) (a1 : Int) (a2 : Int) : (impl_within.f a0 a1 a2 : Option (denR (outTys impl_within.g.rts impl_within.g.pms))) = evC (impl_within.E k) (fun κ s => lhOf k κ s impl_within.pts) b68 (OM.start impl_within.g.pms 0 (a0, a1, a2, ())) (OM.fin impl_within.g Tryz.f68.results.toList) := by kernel_rfl
theorem impl_within.ok (k : Nat) : SmOk Tryz.prog (impl_within.sm k) :=
  sm_ok mixed (E := impl_within.E) (pts := impl_within.pts) (fun k => ⟨⟨tysOk, by kernel_rfl⟩, forall_nil⟩) (fun _ => rfl) (fun _ => rfl)
    ⟨Tryz.func68, by kernel_rfl, by kernel_rfl, by kernel_rfl, by kernel_rfl, by kernel_rfl, by kernel_rfl⟩ (forall_nil) (fun k x => impl_within.hf k x.1 x.2.1 x.2.2.1) k
noncomputable def b44 : Code := Tryz.f44.body.getD .skip
theorem e44 : OM.Entry Tryz.prog 44 := ⟨_, Tryz.func44, by kernel_rfl, by kernel_rfl⟩
@[reducible] noncomputable def impl_ConfigOk.g : Sig := ⟨[.fz tConfig], [.v .bool .z], []⟩
@[reducible] noncomputable def impl_ConfigOk.fk : Nat → denI impl_ConfigOk.g.pms → Option (denR (outTys impl_ConfigOk.g.rts impl_ConfigOk.g.pms)) := fun k x => impl_ConfigOk.f k x.1
@[reducible] noncomputable def impl_ConfigOk.sm (k : Nat) : Sm := ⟨44, impl_ConfigOk.g.pms, impl_ConfigOk.g.rts, impl_ConfigOk.fk k⟩
noncomputable def impl_ConfigOk.E (k : Nat) : Env := ⟨tys, [impl_within.sm k], [11], [], []⟩
@[reducible] noncomputable def impl_ConfigOk.s5 : List Slot := [.r 4 5 [] tConfig, .v 24 (.sl (.int .i64)) .z [] 0, .v 28 (.int .i64) .z [] 0, .v 32 (.int .i64) .z [] 0, .v 5 tConfig .z [] 0]
noncomputable def impl_ConfigOk.pts : List (Pt (denR (outTys impl_ConfigOk.g.rts impl_ConfigOk.g.pms))) := [⟨5, impl_ConfigOk.s5, fun k x => impl_ConfigOk.p5 k x.1 x.2.1 x.2.2.1 x.2.2.2.1⟩]
theorem impl_ConfigOk.h5 (k : Nat) (x0 : (List Int)) (x1 : Int) (x2 : Int) (x3 : Config) : (impl_ConfigOk.p5 (k + 1) x0 x1 x2 x3 : Option (denR (outTys impl_ConfigOk.g.rts impl_ConfigOk.g.pms))) = evAt (impl_ConfigOk.E k) (fun κ s => lhOf k κ s impl_ConfigOk.pts) 5 b44 (unproj impl_ConfigOk.s5 (x0, x1, x2, x3, ())) (OM.fin impl_ConfigOk.g Tryz.f44.results.toList) := by kernel_rfl
theorem impl_ConfigOk.hf (k : Nat) (a0 : Config) : (impl_ConfigOk.f k a0 : Option (denR (outTys impl_ConfigOk.g.rts impl_ConfigOk.g.pms))) = evC (impl_ConfigOk.E k) (fun κ s => lhOf k κ s impl_ConfigOk.pts) b44 (OM.start impl_ConfigOk.g.pms 0 (a0, ())) (OM.fin impl_ConfigOk.g Tryz.f44.results.toList) := by kernel_rfl
theorem impl_ConfigOk.ok (k : Nat) : SmOk Tryz.prog (impl_ConfigOk.sm k) :=
  sm_ok mixed (E := impl_ConfigOk.E) (pts := impl_ConfigOk.pts) (fun k => ⟨⟨tysOk, by kernel_rfl⟩, forall_cons ⟨impl_within.ok k, e68⟩ (forall_nil)⟩) (fun _ => rfl) (fun _ => rfl)
    ⟨Tryz.func44, by kernel_rfl, by kernel_rfl, by kernel_rfl, by kernel_rfl, by kernel_rfl, by kernel_rfl⟩ (forall_cons (fun x => ⟨rfl, fun k => impl_ConfigOk.h5 k x.1 x.2.1 x.2.2.1 x.2.2.2.1⟩) (forall_nil)) (fun k x => impl_ConfigOk.hf k x.1) k
noncomputable def b86 : Code := Tryz.f86.body.getD .skip
theorem e86 : OM.Entry Tryz.prog 86 := ⟨_, Tryz.func86, by kernel_rfl, by kernel_rfl⟩
@[reducible] noncomputable def impl_ascends.g : Sig := ⟨[.fz (.sl (.int .i64)), .fz (.int .i64)], [.v .bool .z], []⟩
@[reducible] noncomputable def impl_ascends.fk : Nat → denI impl_ascends.g.pms → Option (denR (outTys impl_ascends.g.rts impl_ascends.g.pms)) := fun k x => impl_ascends.f k x.1 x.2.1
@[reducible] noncomputable def impl_ascends.sm (k : Nat) : Sm := ⟨86, impl_ascends.g.pms, impl_ascends.g.rts, impl_ascends.fk k⟩
noncomputable def impl_ascends.E (k : Nat) : Env := ⟨tys, [impl_within.sm k], [13], [], []⟩
@[reducible] noncomputable def impl_ascends.s5 : List Slot := [.v 0 (.sl (.int .i64)) .z [] 0, .v 4 (.int .i64) .z [] 0, .v 28 (.sl (.int .i64)) .z [] 0, .v 32 (.int .i64) .z [] 0, .v 36 (.int .i64) .z [] 0]
noncomputable def impl_ascends.pts : List (Pt (denR (outTys impl_ascends.g.rts impl_ascends.g.pms))) := [⟨5, impl_ascends.s5, fun k x => impl_ascends.p5 k x.1 x.2.1 x.2.2.1 x.2.2.2.1 x.2.2.2.2.1⟩]
theorem impl_ascends.h5 (k : Nat) (x0 : (List Int)) (x1 : Int) (x2 : (List Int)) (x3 : Int) (x4 : Int) : (impl_ascends.p5 (k + 1) x0 x1 x2 x3 x4 : Option (denR (outTys impl_ascends.g.rts impl_ascends.g.pms))) = evAt (impl_ascends.E k) (fun κ s => lhOf k κ s impl_ascends.pts) 5 b86 (unproj impl_ascends.s5 (x0, x1, x2, x3, x4, ())) (OM.fin impl_ascends.g Tryz.f86.results.toList) := by kernel_rfl
theorem impl_ascends.hf (k : Nat) (a0 : (List Int)) (a1 : Int) : (impl_ascends.f k a0 a1 : Option (denR (outTys impl_ascends.g.rts impl_ascends.g.pms))) = evC (impl_ascends.E k) (fun κ s => lhOf k κ s impl_ascends.pts) b86 (OM.start impl_ascends.g.pms 0 (a0, a1, ())) (OM.fin impl_ascends.g Tryz.f86.results.toList) := by kernel_rfl
theorem impl_ascends.ok (k : Nat) : SmOk Tryz.prog (impl_ascends.sm k) :=
  sm_ok mixed (E := impl_ascends.E) (pts := impl_ascends.pts) (fun k => ⟨⟨tysOk, by kernel_rfl⟩, forall_cons ⟨impl_within.ok k, e68⟩ (forall_nil)⟩) (fun _ => rfl) (fun _ => rfl)
    ⟨Tryz.func86, by kernel_rfl, by kernel_rfl, by kernel_rfl, by kernel_rfl, by kernel_rfl, by kernel_rfl⟩ (forall_cons (fun x => ⟨rfl, fun k => impl_ascends.h5 k x.1 x.2.1 x.2.2.1 x.2.2.2.1 x.2.2.2.2.1⟩) (forall_nil)) (fun k x => impl_ascends.hf k x.1 x.2.1) k
noncomputable def b69 : Code := Tryz.f69.body.getD .skip
theorem e69 : OM.Entry Tryz.prog 69 := ⟨_, Tryz.func69, by kernel_rfl, by kernel_rfl⟩
@[reducible] noncomputable def impl_NodesOk.g : Sig := ⟨[.fz tConfig, .fz (.sl (.int .i64))], [.v .bool .z], []⟩
@[reducible] noncomputable def impl_NodesOk.fk : Nat → denI impl_NodesOk.g.pms → Option (denR (outTys impl_NodesOk.g.rts impl_NodesOk.g.pms)) := fun k x => impl_NodesOk.f k x.1 x.2.1
@[reducible] noncomputable def impl_NodesOk.sm (k : Nat) : Sm := ⟨69, impl_NodesOk.g.pms, impl_NodesOk.g.rts, impl_NodesOk.fk k⟩
noncomputable def impl_NodesOk.E (k : Nat) : Env := ⟨tys, [impl_ConfigOk.sm k, impl_ascends.sm k], [], [], []⟩
noncomputable def impl_NodesOk.pts : List (Pt (denR (outTys impl_NodesOk.g.rts impl_NodesOk.g.pms))) := []
theorem impl_NodesOk.hf (k : Nat) (a0 : Config) (a1 : (List Int)) : (impl_NodesOk.f k a0 a1 : Option (denR (outTys impl_NodesOk.g.rts impl_NodesOk.g.pms))) = evC (impl_NodesOk.E k) (fun κ s => lhOf k κ s impl_NodesOk.pts) b69 (OM.start impl_NodesOk.g.pms 0 (a0, a1, ())) (OM.fin impl_NodesOk.g Tryz.f69.results.toList) := by kernel_rfl
theorem impl_NodesOk.ok (k : Nat) : SmOk Tryz.prog (impl_NodesOk.sm k) :=
  sm_ok mixed (E := impl_NodesOk.E) (pts := impl_NodesOk.pts) (fun k => ⟨⟨tysOk, by kernel_rfl⟩, forall_cons ⟨impl_ConfigOk.ok k, e44⟩ (forall_cons ⟨impl_ascends.ok k, e86⟩ (forall_nil))⟩) (fun _ => rfl) (fun _ => rfl)
    ⟨Tryz.func69, by kernel_rfl, by kernel_rfl, by kernel_rfl, by kernel_rfl, by kernel_rfl, by kernel_rfl⟩ (forall_nil) (fun k x => impl_NodesOk.hf k x.1 x.2.1) k
noncomputable def b93 : Code := Tryz.f93.body.getD .skip
theorem e93 : OM.Entry Tryz.prog 93 := ⟨_, Tryz.func93, by kernel_rfl, by kernel_rfl⟩
@[reducible] noncomputable def impl_isEpoch.g : Sig := ⟨[.fz (.int .i64)], [.v .bool .z], []⟩
@[reducible] noncomputable def impl_isEpoch.fk : Nat → denI impl_isEpoch.g.pms → Option (denR (outTys impl_isEpoch.g.rts impl_isEpoch.g.pms)) := fun k x => impl_isEpoch.f x.1
@[reducible] noncomputable def impl_isEpoch.sm (k : Nat) : Sm := ⟨93, impl_isEpoch.g.pms, impl_isEpoch.g.rts, impl_isEpoch.fk k⟩
noncomputable def impl_isEpoch.E (k : Nat) : Env := ⟨tys, [impl_within.sm k], [], [], []⟩
noncomputable def impl_isEpoch.pts : List (Pt (denR (outTys impl_isEpoch.g.rts impl_isEpoch.g.pms))) := []
theorem impl_isEpoch.hf (k : Nat) (a0 : Int) : (impl_isEpoch.f a0 : Option (denR (outTys impl_isEpoch.g.rts impl_isEpoch.g.pms))) = evC (impl_isEpoch.E k) (fun κ s => lhOf k κ s impl_isEpoch.pts) b93 (OM.start impl_isEpoch.g.pms 0 (a0, ())) (OM.fin impl_isEpoch.g Tryz.f93.results.toList) := by kernel_rfl
theorem impl_isEpoch.ok (k : Nat) : SmOk Tryz.prog (impl_isEpoch.sm k) :=
  sm_ok mixed (E := impl_isEpoch.E) (pts := impl_isEpoch.pts) (fun k => ⟨⟨tysOk, by kernel_rfl⟩, forall_cons ⟨impl_within.ok k, e68⟩ (forall_nil)⟩) (fun _ => rfl) (fun _ => rfl)
    ⟨Tryz.func93, by kernel_rfl, by kernel_rfl, by kernel_rfl, by kernel_rfl, by kernel_rfl, by kernel_rfl⟩ (forall_nil) (fun k x => impl_isEpoch.hf k x.1) k
noncomputable def b103 : Code := Tryz.f103.body.getD .skip
theorem e103 : OM.Entry Tryz.prog 103 := ⟨_, Tryz.func103, by kernel_rfl, by kernel_rfl⟩
@[reducible] noncomputable def impl_isOff.g : Sig := ⟨[.fz (.int .i64)], [.v .bool .z], []⟩
@[reducible] noncomputable def impl_isOff.fk : Nat → denI impl_isOff.g.pms → Option (denR (outTys impl_isOff.g.rts impl_isOff.g.pms)) := fun k x => impl_isOff.f x.1
@[reducible] noncomputable def impl_isOff.sm (k : Nat) : Sm := ⟨103, impl_isOff.g.pms, impl_isOff.g.rts, impl_isOff.fk k⟩
noncomputable def impl_isOff.E (k : Nat) : Env := ⟨tys, [impl_within.sm k], [], [], []⟩
noncomputable def impl_isOff.pts : List (Pt (denR (outTys impl_isOff.g.rts impl_isOff.g.pms))) := []
theorem impl_isOff.hf (k : Nat) (a0 : Int) : (impl_isOff.f a0 : Option (denR (outTys impl_isOff.g.rts impl_isOff.g.pms))) = evC (impl_isOff.E k) (fun κ s => lhOf k κ s impl_isOff.pts) b103 (OM.start impl_isOff.g.pms 0 (a0, ())) (OM.fin impl_isOff.g Tryz.f103.results.toList) := by kernel_rfl
theorem impl_isOff.ok (k : Nat) : SmOk Tryz.prog (impl_isOff.sm k) :=
  sm_ok mixed (E := impl_isOff.E) (pts := impl_isOff.pts) (fun k => ⟨⟨tysOk, by kernel_rfl⟩, forall_cons ⟨impl_within.ok k, e68⟩ (forall_nil)⟩) (fun _ => rfl) (fun _ => rfl)
    ⟨Tryz.func103, by kernel_rfl, by kernel_rfl, by kernel_rfl, by kernel_rfl, by kernel_rfl, by kernel_rfl⟩ (forall_nil) (fun k x => impl_isOff.hf k x.1) k
noncomputable def b91 : Code := Tryz.f91.body.getD .skip
theorem e91 : OM.Entry Tryz.prog 91 := ⟨_, Tryz.func91, by kernel_rfl, by kernel_rfl⟩
@[reducible] noncomputable def impl_PlaceOk.g : Sig := ⟨[.fz (.int .i64)], [.v .bool .z], []⟩
@[reducible] noncomputable def impl_PlaceOk.fk : Nat → denI impl_PlaceOk.g.pms → Option (denR (outTys impl_PlaceOk.g.rts impl_PlaceOk.g.pms)) := fun k x => impl_PlaceOk.f x.1
@[reducible] noncomputable def impl_PlaceOk.sm (k : Nat) : Sm := ⟨91, impl_PlaceOk.g.pms, impl_PlaceOk.g.rts, impl_PlaceOk.fk k⟩
noncomputable def impl_PlaceOk.E (k : Nat) : Env := ⟨tys, [impl_isEpoch.sm k, impl_isOff.sm k], [], [], []⟩
noncomputable def impl_PlaceOk.pts : List (Pt (denR (outTys impl_PlaceOk.g.rts impl_PlaceOk.g.pms))) := []
theorem impl_PlaceOk.hf (k : Nat) (a0 : Int) : (impl_PlaceOk.f a0 : Option (denR (outTys impl_PlaceOk.g.rts impl_PlaceOk.g.pms))) = evC (impl_PlaceOk.E k) (fun κ s => lhOf k κ s impl_PlaceOk.pts) b91 (OM.start impl_PlaceOk.g.pms 0 (a0, ())) (OM.fin impl_PlaceOk.g Tryz.f91.results.toList) := by kernel_rfl
theorem impl_PlaceOk.ok (k : Nat) : SmOk Tryz.prog (impl_PlaceOk.sm k) :=
  sm_ok mixed (E := impl_PlaceOk.E) (pts := impl_PlaceOk.pts) (fun k => ⟨⟨tysOk, by kernel_rfl⟩, forall_cons ⟨impl_isEpoch.ok k, e93⟩ (forall_cons ⟨impl_isOff.ok k, e103⟩ (forall_nil))⟩) (fun _ => rfl) (fun _ => rfl)
    ⟨Tryz.func91, by kernel_rfl, by kernel_rfl, by kernel_rfl, by kernel_rfl, by kernel_rfl, by kernel_rfl⟩ (forall_nil) (fun k x => impl_PlaceOk.hf k x.1) k
noncomputable def b80 : Code := Tryz.f80.body.getD .skip
theorem e80 : OM.Entry Tryz.prog 80 := ⟨_, Tryz.func80, by kernel_rfl, by kernel_rfl⟩
@[reducible] noncomputable def impl_dataOk.g : Sig := ⟨[.fz .str], [.v .bool .z], []⟩
@[reducible] noncomputable def impl_dataOk.fk : Nat → denI impl_dataOk.g.pms → Option (denR (outTys impl_dataOk.g.rts impl_dataOk.g.pms)) := fun k x => impl_dataOk.f x.1
@[reducible] noncomputable def impl_dataOk.sm (k : Nat) : Sm := ⟨80, impl_dataOk.g.pms, impl_dataOk.g.rts, impl_dataOk.fk k⟩
noncomputable def impl_dataOk.E (k : Nat) : Env := ⟨tys, [], [], [], []⟩
noncomputable def impl_dataOk.pts : List (Pt (denR (outTys impl_dataOk.g.rts impl_dataOk.g.pms))) := []
theorem impl_dataOk.hf (k : Nat) (a0 : ByteArray) : (impl_dataOk.f a0 : Option (denR (outTys impl_dataOk.g.rts impl_dataOk.g.pms))) = evC (impl_dataOk.E k) (fun κ s => lhOf k κ s impl_dataOk.pts) b80 (OM.start impl_dataOk.g.pms 0 (a0, ())) (OM.fin impl_dataOk.g Tryz.f80.results.toList) := by kernel_rfl
theorem impl_dataOk.ok (k : Nat) : SmOk Tryz.prog (impl_dataOk.sm k) :=
  sm_ok mixed (E := impl_dataOk.E) (pts := impl_dataOk.pts) (fun k => ⟨⟨tysOk, by kernel_rfl⟩, forall_nil⟩) (fun _ => rfl) (fun _ => rfl)
    ⟨Tryz.func80, by kernel_rfl, by kernel_rfl, by kernel_rfl, by kernel_rfl, by kernel_rfl, by kernel_rfl⟩ (forall_nil) (fun k x => impl_dataOk.hf k x.1) k
noncomputable def b74 : Code := Tryz.f74.body.getD .skip
theorem e74 : OM.Entry Tryz.prog 74 := ⟨_, Tryz.func74, by kernel_rfl, by kernel_rfl⟩
@[reducible] noncomputable def impl_EpochOf.g : Sig := ⟨[.fz (.int .i64)], [.v (.int .i64) .z], []⟩
@[reducible] noncomputable def impl_EpochOf.fk : Nat → denI impl_EpochOf.g.pms → Option (denR (outTys impl_EpochOf.g.rts impl_EpochOf.g.pms)) := fun k x => impl_EpochOf.f x.1
@[reducible] noncomputable def impl_EpochOf.sm (k : Nat) : Sm := ⟨74, impl_EpochOf.g.pms, impl_EpochOf.g.rts, impl_EpochOf.fk k⟩
noncomputable def impl_EpochOf.E (k : Nat) : Env := ⟨tys, [impl_PlaceOk.sm k], [], [], []⟩
noncomputable def impl_EpochOf.pts : List (Pt (denR (outTys impl_EpochOf.g.rts impl_EpochOf.g.pms))) := []
theorem impl_EpochOf.hf (k : Nat) (a0 : Int) : (impl_EpochOf.f a0 : Option (denR (outTys impl_EpochOf.g.rts impl_EpochOf.g.pms))) = evC (impl_EpochOf.E k) (fun κ s => lhOf k κ s impl_EpochOf.pts) b74 (OM.start impl_EpochOf.g.pms 0 (a0, ())) (OM.fin impl_EpochOf.g Tryz.f74.results.toList) := by kernel_rfl
theorem impl_EpochOf.ok (k : Nat) : SmOk Tryz.prog (impl_EpochOf.sm k) :=
  sm_ok mixed (E := impl_EpochOf.E) (pts := impl_EpochOf.pts) (fun k => ⟨⟨tysOk, by kernel_rfl⟩, forall_cons ⟨impl_PlaceOk.ok k, e91⟩ (forall_nil)⟩) (fun _ => rfl) (fun _ => rfl)
    ⟨Tryz.func74, by kernel_rfl, by kernel_rfl, by kernel_rfl, by kernel_rfl, by kernel_rfl, by kernel_rfl⟩ (forall_nil) (fun k x => impl_EpochOf.hf k x.1) k
noncomputable def b99 : Code := Tryz.f99.body.getD .skip
theorem e99 : OM.Entry Tryz.prog 99 := ⟨_, Tryz.func99, by kernel_rfl, by kernel_rfl⟩
@[reducible] noncomputable def impl_EntryOk.g : Sig := ⟨[.fz tEntry], [.v .bool .z], []⟩
@[reducible] noncomputable def impl_EntryOk.fk : Nat → denI impl_EntryOk.g.pms → Option (denR (outTys impl_EntryOk.g.rts impl_EntryOk.g.pms)) := fun k x => impl_EntryOk.f k x.1
@[reducible] noncomputable def impl_EntryOk.sm (k : Nat) : Sm := ⟨99, impl_EntryOk.g.pms, impl_EntryOk.g.rts, impl_EntryOk.fk k⟩
noncomputable def impl_EntryOk.E (k : Nat) : Env := ⟨tys, [impl_within.sm k, impl_PlaceOk.sm k, impl_dataOk.sm k, impl_EpochOf.sm k], [], [2, 3], []⟩
@[reducible] noncomputable def impl_EntryOk.s4 : List Slot := [.r 4 5 [] tEntry, .v 12 .bool .z [] 0, .v 5 tEntry .z [] 0]
@[reducible] noncomputable def impl_EntryOk.s6 : List Slot := [.r 4 5 [] tEntry, .v 12 .bool .z [] 0, .v 16 .bool .z [] 0, .v 5 tEntry .z [] 0]
noncomputable def impl_EntryOk.pts : List (Pt (denR (outTys impl_EntryOk.g.rts impl_EntryOk.g.pms))) := [⟨4, impl_EntryOk.s4, fun k x => impl_EntryOk.p4 k x.1 x.2.1⟩, ⟨6, impl_EntryOk.s6, fun k x => impl_EntryOk.p6 k x.1 x.2.1 x.2.2.1⟩]
theorem impl_EntryOk.h4 (k : Nat) (x0 : Bool) (x1 : Entry) : (impl_EntryOk.p4 (k + 1) x0 x1 : Option (denR (outTys impl_EntryOk.g.rts impl_EntryOk.g.pms))) = evAt (impl_EntryOk.E k) (fun κ s => lhOf k κ s impl_EntryOk.pts) 4 b99 (unproj impl_EntryOk.s4 (x0, x1, ())) (OM.fin impl_EntryOk.g Tryz.f99.results.toList) := by kernel_rfl
theorem impl_EntryOk.h6 (k : Nat) (x0 : Bool) (x1 : Bool) (x2 : Entry) : (impl_EntryOk.p6 (k + 1) x0 x1 x2 : Option (denR (outTys impl_EntryOk.g.rts impl_EntryOk.g.pms))) = evAt (impl_EntryOk.E k) (fun κ s => lhOf k κ s impl_EntryOk.pts) 6 b99 (unproj impl_EntryOk.s6 (x0, x1, x2, ())) (OM.fin impl_EntryOk.g Tryz.f99.results.toList) := by kernel_rfl
theorem impl_EntryOk.hf (k : Nat) (a0 : Entry) : (impl_EntryOk.f k a0 : Option (denR (outTys impl_EntryOk.g.rts impl_EntryOk.g.pms))) = evC (impl_EntryOk.E k) (fun κ s => lhOf k κ s impl_EntryOk.pts) b99 (OM.start impl_EntryOk.g.pms 0 (a0, ())) (OM.fin impl_EntryOk.g Tryz.f99.results.toList) := by kernel_rfl
theorem impl_EntryOk.ok (k : Nat) : SmOk Tryz.prog (impl_EntryOk.sm k) :=
  sm_ok mixed (E := impl_EntryOk.E) (pts := impl_EntryOk.pts) (fun k => ⟨⟨tysOk, by kernel_rfl⟩, forall_cons ⟨impl_within.ok k, e68⟩ (forall_cons ⟨impl_PlaceOk.ok k, e91⟩ (forall_cons ⟨impl_dataOk.ok k, e80⟩ (forall_cons ⟨impl_EpochOf.ok k, e74⟩ (forall_nil))))⟩) (fun _ => rfl) (fun _ => rfl)
    ⟨Tryz.func99, by kernel_rfl, by kernel_rfl, by kernel_rfl, by kernel_rfl, by kernel_rfl, by kernel_rfl⟩ (forall_cons (fun x => ⟨rfl, fun k => impl_EntryOk.h4 k x.1 x.2.1⟩) (forall_cons (fun x => ⟨rfl, fun k => impl_EntryOk.h6 k x.1 x.2.1 x.2.2.1⟩) (forall_nil))) (fun k x => impl_EntryOk.hf k x.1) k
noncomputable def b87 : Code := Tryz.f87.body.getD .skip
theorem e87 : OM.Entry Tryz.prog 87 := ⟨_, Tryz.func87, by kernel_rfl, by kernel_rfl⟩
@[reducible] noncomputable def impl_entriesOk.g : Sig := ⟨[.fz (.sl tEntry)], [.v .bool .z], []⟩
@[reducible] noncomputable def impl_entriesOk.fk : Nat → denI impl_entriesOk.g.pms → Option (denR (outTys impl_entriesOk.g.rts impl_entriesOk.g.pms)) := fun k x => impl_entriesOk.f k x.1
@[reducible] noncomputable def impl_entriesOk.sm (k : Nat) : Sm := ⟨87, impl_entriesOk.g.pms, impl_entriesOk.g.rts, impl_entriesOk.fk k⟩
noncomputable def impl_entriesOk.E (k : Nat) : Env := ⟨tys, [impl_EntryOk.sm k], [10], [], []⟩
@[reducible] noncomputable def impl_entriesOk.s5 : List Slot := [.v 20 (.sl tEntry) .z [] 0, .v 24 (.int .i64) .z [] 0, .v 28 (.int .i64) .z [] 0]
noncomputable def impl_entriesOk.pts : List (Pt (denR (outTys impl_entriesOk.g.rts impl_entriesOk.g.pms))) := [⟨5, impl_entriesOk.s5, fun k x => impl_entriesOk.p5 k x.1 x.2.1 x.2.2.1⟩]
theorem impl_entriesOk.h5 (k : Nat) (x0 : (List Entry)) (x1 : Int) (x2 : Int) : (impl_entriesOk.p5 (k + 1) x0 x1 x2 : Option (denR (outTys impl_entriesOk.g.rts impl_entriesOk.g.pms))) = evAt (impl_entriesOk.E k) (fun κ s => lhOf k κ s impl_entriesOk.pts) 5 b87 (unproj impl_entriesOk.s5 (x0, x1, x2, ())) (OM.fin impl_entriesOk.g Tryz.f87.results.toList) := by kernel_rfl
theorem impl_entriesOk.hf (k : Nat) (a0 : (List Entry)) : (impl_entriesOk.f k a0 : Option (denR (outTys impl_entriesOk.g.rts impl_entriesOk.g.pms))) = evC (impl_entriesOk.E k) (fun κ s => lhOf k κ s impl_entriesOk.pts) b87 (OM.start impl_entriesOk.g.pms 0 (a0, ())) (OM.fin impl_entriesOk.g Tryz.f87.results.toList) := by kernel_rfl
theorem impl_entriesOk.ok (k : Nat) : SmOk Tryz.prog (impl_entriesOk.sm k) :=
  sm_ok mixed (E := impl_entriesOk.E) (pts := impl_entriesOk.pts) (fun k => ⟨⟨tysOk, by kernel_rfl⟩, forall_cons ⟨impl_EntryOk.ok k, e99⟩ (forall_nil)⟩) (fun _ => rfl) (fun _ => rfl)
    ⟨Tryz.func87, by kernel_rfl, by kernel_rfl, by kernel_rfl, by kernel_rfl, by kernel_rfl, by kernel_rfl⟩ (forall_cons (fun x => ⟨rfl, fun k => impl_entriesOk.h5 k x.1 x.2.1 x.2.2.1⟩) (forall_nil)) (fun k x => impl_entriesOk.hf k x.1) k
noncomputable def b88 : Code := Tryz.f88.body.getD .skip
theorem e88 : OM.Entry Tryz.prog 88 := ⟨_, Tryz.func88, by kernel_rfl, by kernel_rfl⟩
@[reducible] noncomputable def impl_placesAscend.g : Sig := ⟨[.fz (.sl tEntry)], [.v .bool .z], []⟩
@[reducible] noncomputable def impl_placesAscend.fk : Nat → denI impl_placesAscend.g.pms → Option (denR (outTys impl_placesAscend.g.rts impl_placesAscend.g.pms)) := fun k x => impl_placesAscend.f k x.1
@[reducible] noncomputable def impl_placesAscend.sm (k : Nat) : Sm := ⟨88, impl_placesAscend.g.pms, impl_placesAscend.g.rts, impl_placesAscend.fk k⟩
noncomputable def impl_placesAscend.E (k : Nat) : Env := ⟨tys, [], [11], [], []⟩
@[reducible] noncomputable def impl_placesAscend.s5 : List Slot := [.v 0 (.sl tEntry) .z [] 0, .v 20 (.sl tEntry) .z [] 0, .v 24 (.int .i64) .z [] 0, .v 28 (.int .i64) .z [] 0]
noncomputable def impl_placesAscend.pts : List (Pt (denR (outTys impl_placesAscend.g.rts impl_placesAscend.g.pms))) := [⟨5, impl_placesAscend.s5, fun k x => impl_placesAscend.p5 k x.1 x.2.1 x.2.2.1 x.2.2.2.1⟩]
theorem impl_placesAscend.h5 (k : Nat) (x0 : (List Entry)) (x1 : (List Entry)) (x2 : Int) (x3 : Int) : (impl_placesAscend.p5 (k + 1) x0 x1 x2 x3 : Option (denR (outTys impl_placesAscend.g.rts impl_placesAscend.g.pms))) = evAt (impl_placesAscend.E k) (fun κ s => lhOf k κ s impl_placesAscend.pts) 5 b88 (unproj impl_placesAscend.s5 (x0, x1, x2, x3, ())) (OM.fin impl_placesAscend.g Tryz.f88.results.toList) := by kernel_rfl
theorem impl_placesAscend.hf (k : Nat) (a0 : (List Entry)) : (impl_placesAscend.f k a0 : Option (denR (outTys impl_placesAscend.g.rts impl_placesAscend.g.pms))) = evC (impl_placesAscend.E k) (fun κ s => lhOf k κ s impl_placesAscend.pts) b88 (OM.start impl_placesAscend.g.pms 0 (a0, ())) (OM.fin impl_placesAscend.g Tryz.f88.results.toList) := by kernel_rfl
theorem impl_placesAscend.ok (k : Nat) : SmOk Tryz.prog (impl_placesAscend.sm k) :=
  sm_ok mixed (E := impl_placesAscend.E) (pts := impl_placesAscend.pts) (fun k => ⟨⟨tysOk, by kernel_rfl⟩, forall_nil⟩) (fun _ => rfl) (fun _ => rfl)
    ⟨Tryz.func88, by kernel_rfl, by kernel_rfl, by kernel_rfl, by kernel_rfl, by kernel_rfl, by kernel_rfl⟩ (forall_cons (fun x => ⟨rfl, fun k => impl_placesAscend.h5 k x.1 x.2.1 x.2.2.1 x.2.2.2.1⟩) (forall_nil)) (fun k x => impl_placesAscend.hf k x.1) k
noncomputable def b70 : Code := Tryz.f70.body.getD .skip
theorem e70 : OM.Entry Tryz.prog 70 := ⟨_, Tryz.func70, by kernel_rfl, by kernel_rfl⟩
@[reducible] noncomputable def impl_StoreOk.g : Sig := ⟨[.fz tStore], [.v .bool .z], []⟩
@[reducible] noncomputable def impl_StoreOk.fk : Nat → denI impl_StoreOk.g.pms → Option (denR (outTys impl_StoreOk.g.rts impl_StoreOk.g.pms)) := fun k x => impl_StoreOk.f k x.1
@[reducible] noncomputable def impl_StoreOk.sm (k : Nat) : Sm := ⟨70, impl_StoreOk.g.pms, impl_StoreOk.g.rts, impl_StoreOk.fk k⟩
noncomputable def impl_StoreOk.E (k : Nat) : Env := ⟨tys, [impl_within.sm k, impl_entriesOk.sm k, impl_placesAscend.sm k], [], [], []⟩
noncomputable def impl_StoreOk.pts : List (Pt (denR (outTys impl_StoreOk.g.rts impl_StoreOk.g.pms))) := []
theorem impl_StoreOk.hf (k : Nat) (a0 : Store) : (impl_StoreOk.f k a0 : Option (denR (outTys impl_StoreOk.g.rts impl_StoreOk.g.pms))) = evC (impl_StoreOk.E k) (fun κ s => lhOf k κ s impl_StoreOk.pts) b70 (OM.start impl_StoreOk.g.pms 0 (a0, ())) (OM.fin impl_StoreOk.g Tryz.f70.results.toList) := by kernel_rfl
theorem impl_StoreOk.ok (k : Nat) : SmOk Tryz.prog (impl_StoreOk.sm k) :=
  sm_ok mixed (E := impl_StoreOk.E) (pts := impl_StoreOk.pts) (fun k => ⟨⟨tysOk, by kernel_rfl⟩, forall_cons ⟨impl_within.ok k, e68⟩ (forall_cons ⟨impl_entriesOk.ok k, e87⟩ (forall_cons ⟨impl_placesAscend.ok k, e88⟩ (forall_nil)))⟩) (fun _ => rfl) (fun _ => rfl)
    ⟨Tryz.func70, by kernel_rfl, by kernel_rfl, by kernel_rfl, by kernel_rfl, by kernel_rfl, by kernel_rfl⟩ (forall_nil) (fun k x => impl_StoreOk.hf k x.1) k
noncomputable def b100 : Code := Tryz.f100.body.getD .skip
theorem e100 : OM.Entry Tryz.prog 100 := ⟨_, Tryz.func100, by kernel_rfl, by kernel_rfl⟩
noncomputable def slices_DeleteFunc_int_int_impl_both_1.rho : Shelf.Ren := ⟨fun n => cond (Nat.beq n 6) 105 (cond (Nat.beq n 10) 100 (n)), fun n => cond (Nat.beq n 22) 22 (cond (Nat.beq n 23) 3 (cond (Nat.beq n 25) 96 (cond (Nat.beq n 0) 0 (cond (Nat.beq n 3) 3 (cond (Nat.beq n 4) 4 (n)))))), fun n => n⟩
theorem slices_DeleteFunc_int_int_impl_both_1.lay : Proofs.SlLaysH.n10 Tryz.prog slices_DeleteFunc_int_int_impl_both_1.rho := { mixed := mixed, f6 := ⟨"slices.IndexFunc[[]int,int]", by kernel_rfl, (Tryz.func105).trans (congrArg some (by kernel_rfl))⟩, f10 := ⟨"slices.DeleteFunc[[]int,int]", by kernel_rfl, (Tryz.func100).trans (congrArg some (by kernel_rfl))⟩, t0 := Tryz.underlying0, a0 := Tryz.isAgg0, z0 := Tryz.sizeOf0, v0 := Tryz.zeroValue0, t3 := Tryz.underlying3, a3 := Tryz.isAgg3, z3 := Tryz.sizeOf3, v3 := Tryz.zeroValue3, t4 := Tryz.underlying4, a4 := Tryz.isAgg4, z4 := Tryz.sizeOf4, v4 := Tryz.zeroValue4, t22 := Tryz.underlying22, a22 := Tryz.isAgg22, z22 := Tryz.sizeOf22, v22 := Tryz.zeroValue22, a23 := Tryz.isAgg3, z23 := Tryz.sizeOf3, t25 := Tryz.underlying96, a25 := Tryz.isAgg96, z25 := Tryz.sizeOf96, v25 := Tryz.zeroValue96 }
noncomputable def slices_DeleteFunc_int_int_impl_both_1.rhoC : Shelf.Ren := ⟨fun n => cond (Nat.beq n 29) 106 (cond (Nat.beq n 31) 102 (n)), fun n => cond (Nat.beq n 22) 22 (cond (Nat.beq n 23) 3 (cond (Nat.beq n 0) 0 (cond (Nat.beq n 3) 3 (cond (Nat.beq n 4) 4 (n))))), fun n => n⟩
theorem slices_DeleteFunc_int_int_impl_both_1.layC : Proofs.SlLaysE.n31 Tryz.prog slices_DeleteFunc_int_int_impl_both_1.rhoC := { mixed := mixed, f29 := ⟨"slices.Index[[]int,int]", by kernel_rfl, (Tryz.func106).trans (congrArg some (by kernel_rfl))⟩, f31 := ⟨"slices.Contains[[]int,int]", by kernel_rfl, (Tryz.func102).trans (congrArg some (by kernel_rfl))⟩, t0 := Tryz.underlying0, a0 := Tryz.isAgg0, z0 := Tryz.sizeOf0, v0 := Tryz.zeroValue0, t3 := Tryz.underlying3, a3 := Tryz.isAgg3, z3 := Tryz.sizeOf3, v3 := Tryz.zeroValue3, t4 := Tryz.underlying4, a4 := Tryz.isAgg4, z4 := Tryz.sizeOf4, v4 := Tryz.zeroValue4, t22 := Tryz.underlying22, a22 := Tryz.isAgg22, z22 := Tryz.sizeOf22, v22 := Tryz.zeroValue22, a23 := Tryz.isAgg3, z23 := Tryz.sizeOf3 }
theorem slices_DeleteFunc_int_int_impl_both_1.gives (w : Go.World) (S : Nat → Prop) (y : ((List Int) × Unit)) (cap : List Value) (x : Int) (hy : slices_DeleteFunc_int_int_impl_both_1.okp y) (h : Rp w S (.pair (.fp (.sl (.int .i64))) .unit) .z y cap (fun _ => False)) : Proofs.FnGives Tryz.prog 101 cap.toArray #[.int .i64 x] (.bool (slices_DeleteFunc_int_int_impl_both_1.pred y x)) w := by
  obtain ⟨b, off, c1, rfl, h1, h2⟩ := cap_one h
  obtain ⟨a, n, c, rfl⟩ : ∃ a n c, c1 = [.slice a n c] := by
    obtain ⟨a, c, e, _⟩ := h2
    exact ⟨a, _, c, e⟩
  have hcell : w.cell? ⟨b, off, none⟩ = some (.slice a n c) := h1 0 _ rfl
  have hcon := contains_calls slices_DeleteFunc_int_int_impl_both_1.layC h2 hy x
  change Calls Tryz.prog 102 _ _ _ at hcon
  unfold slices_DeleteFunc_int_int_impl_both_1.pred
  generalize (y.1.any fun u => decide (x = u)) = r at hcon ⊢
  clear h h1 h2 hy
  show Calls Tryz.prog 101 #[.int .i64 x, .pointer (some ⟨b, off, none⟩)] w _
  go_enter Tryz.func101, Tryz.ntmps101
  go_wp2_with (go_at_call 102; refine hcon.mono ?_; rintro e w' ⟨rfl, rfl⟩)
  all_goals (go_ret; exact ⟨rfl, 0, rfl⟩)
@[reducible] noncomputable def slices_DeleteFunc_int_int_impl_both_1.g : Sig := ⟨[.own (.sl (.int .i64)) (.own .z), .fz (.fn 101 (.pair (.fp (.sl (.int .i64))) .unit))], [.v (.sl (.int .i64)) (.own .z)], []⟩
@[reducible] noncomputable def slices_DeleteFunc_int_int_impl_both_1.fk : Nat → denI slices_DeleteFunc_int_int_impl_both_1.g.pms → Option (denR (outTys slices_DeleteFunc_int_int_impl_both_1.g.rts slices_DeleteFunc_int_int_impl_both_1.g.pms)) := fun k x => slices_DeleteFunc_int_int_impl_both_1.f x.1 x.2.1
@[reducible] noncomputable def slices_DeleteFunc_int_int_impl_both_1.sm (k : Nat) : Sm := ⟨100, slices_DeleteFunc_int_int_impl_both_1.g.pms, slices_DeleteFunc_int_int_impl_both_1.g.rts, slices_DeleteFunc_int_int_impl_both_1.fk k⟩
theorem slices_DeleteFunc_int_int_impl_both_1.ok (k : Nat) : SmOk Tryz.prog (slices_DeleteFunc_int_int_impl_both_1.sm k) :=
  del_ok (t := (.pair (.fp (.sl (.int .i64))) .unit)) slices_DeleteFunc_int_int_impl_both_1.lay Tryz.zeroValue3 (Proofs.enters_of Tryz.func101 (by kernel_rfl) rfl) slices_DeleteFunc_int_int_impl_both_1.pred slices_DeleteFunc_int_int_impl_both_1.okp slices_DeleteFunc_int_int_impl_both_1.gives

noncomputable def b89 : Code := Tryz.f89.body.getD .skip
theorem e89 : OM.Entry Tryz.prog 89 := ⟨_, Tryz.func89, by kernel_rfl, by kernel_rfl⟩
@[reducible] noncomputable def impl_both.g : Sig := ⟨[.fz (.sl (.int .i64)), .fz (.sl (.int .i64))], [.v (.sl (.int .i64)) (.own .z)], []⟩
@[reducible] noncomputable def impl_both.fk : Nat → denI impl_both.g.pms → Option (denR (outTys impl_both.g.rts impl_both.g.pms)) := fun k x => impl_both.f x.1 x.2.1
@[reducible] noncomputable def impl_both.sm (k : Nat) : Sm := ⟨89, impl_both.g.pms, impl_both.g.rts, impl_both.fk k⟩
noncomputable def impl_both.E (k : Nat) : Env := ⟨tys, [impl_copyInts.sm k, slices_DeleteFunc_int_int_impl_both_1.sm k], [], [], []⟩
noncomputable def impl_both.pts : List (Pt (denR (outTys impl_both.g.rts impl_both.g.pms))) := []
theorem impl_both.hf (k : Nat) (a0 : (List Int)) (a1 : (List Int)) : (impl_both.f a0 a1 : Option (denR (outTys impl_both.g.rts impl_both.g.pms))) = evC (impl_both.E k) (fun κ s => lhOf k κ s impl_both.pts) b89 (OM.start impl_both.g.pms 0 (a0, a1, ())) (OM.fin impl_both.g Tryz.f89.results.toList) := by kernel_rfl
theorem impl_both.ok (k : Nat) : SmOk Tryz.prog (impl_both.sm k) :=
  sm_ok mixed (E := impl_both.E) (pts := impl_both.pts) (fun k => ⟨⟨tysOk, by kernel_rfl⟩, forall_cons ⟨impl_copyInts.ok k, e43⟩ (forall_cons ⟨slices_DeleteFunc_int_int_impl_both_1.ok k, e100⟩ (forall_nil))⟩) (fun _ => rfl) (fun _ => rfl)
    ⟨Tryz.func89, by kernel_rfl, by kernel_rfl, by kernel_rfl, by kernel_rfl, by kernel_rfl, by kernel_rfl⟩ (forall_nil) (fun k x => impl_both.hf k x.1 x.2.1) k
noncomputable def b71 : Code := Tryz.f71.body.getD .skip
theorem e71 : OM.Entry Tryz.prog 71 := ⟨_, Tryz.func71, by kernel_rfl, by kernel_rfl⟩
@[reducible] noncomputable def impl_World_isLost.g : Sig := ⟨[.fz (.fp tWorld), .fz (.int .i64)], [.v .bool .z], []⟩
@[reducible] noncomputable def impl_World_isLost.fk : Nat → denI impl_World_isLost.g.pms → Option (denR (outTys impl_World_isLost.g.rts impl_World_isLost.g.pms)) := fun k x => impl_World_isLost.f x.1 x.2.1
@[reducible] noncomputable def impl_World_isLost.sm (k : Nat) : Sm := ⟨71, impl_World_isLost.g.pms, impl_World_isLost.g.rts, impl_World_isLost.fk k⟩
noncomputable def impl_World_isLost.E (k : Nat) : Env := ⟨tys, [impl_both.sm k], [5], [], []⟩
noncomputable def impl_World_isLost.pts : List (Pt (denR (outTys impl_World_isLost.g.rts impl_World_isLost.g.pms))) := []
theorem impl_World_isLost.hf (k : Nat) (a0 : World) (a1 : Int) : (impl_World_isLost.f a0 a1 : Option (denR (outTys impl_World_isLost.g.rts impl_World_isLost.g.pms))) = evC (impl_World_isLost.E k) (fun κ s => lhOf k κ s impl_World_isLost.pts) b71 (OM.start impl_World_isLost.g.pms 0 (a0, a1, ())) (OM.fin impl_World_isLost.g Tryz.f71.results.toList) := by kernel_rfl
theorem impl_World_isLost.ok (k : Nat) : SmOk Tryz.prog (impl_World_isLost.sm k) :=
  sm_ok mixed (E := impl_World_isLost.E) (pts := impl_World_isLost.pts) (fun k => ⟨⟨tysOk, by kernel_rfl⟩, forall_cons ⟨impl_both.ok k, e89⟩ (forall_nil)⟩) (fun _ => rfl) (fun _ => rfl)
    ⟨Tryz.func71, by kernel_rfl, by kernel_rfl, by kernel_rfl, by kernel_rfl, by kernel_rfl, by kernel_rfl⟩ (forall_nil) (fun k x => impl_World_isLost.hf k x.1 x.2.1) k
noncomputable def b106 : Code := Tryz.f106.body.getD .skip
theorem e106 : OM.Entry Tryz.prog 106 := ⟨_, Tryz.func106, by kernel_rfl, by kernel_rfl⟩
@[reducible] noncomputable def slices_Index_int_int.g : Sig := ⟨[.fz (.sl (.int .i64)), .fz (.int .i64)], [.v (.int .i64) .z], []⟩
@[reducible] noncomputable def slices_Index_int_int.fk : Nat → denI slices_Index_int_int.g.pms → Option (denR (outTys slices_Index_int_int.g.rts slices_Index_int_int.g.pms)) := fun k x => slices_Index_int_int.f k x.1 x.2.1
@[reducible] noncomputable def slices_Index_int_int.sm (k : Nat) : Sm := ⟨106, slices_Index_int_int.g.pms, slices_Index_int_int.g.rts, slices_Index_int_int.fk k⟩
noncomputable def slices_Index_int_int.E (k : Nat) : Env := ⟨tys, [], [], [], []⟩
@[reducible] noncomputable def slices_Index_int_int.s5 : List Slot := [.v 0 (.sl (.int .i64)) .z [] 0, .v 4 (.int .i64) .z [] 0, .v 28 (.int .i64) .z [] 0, .v 32 (.int .i64) .z [] 0]
noncomputable def slices_Index_int_int.pts : List (Pt (denR (outTys slices_Index_int_int.g.rts slices_Index_int_int.g.pms))) := [⟨5, slices_Index_int_int.s5, fun k x => slices_Index_int_int.p5 k x.1 x.2.1 x.2.2.1 x.2.2.2.1⟩]
theorem slices_Index_int_int.h5 (k : Nat) (x0 : (List Int)) (x1 : Int) (x2 : Int) (x3 : Int) : (slices_Index_int_int.p5 (k + 1) x0 x1 x2 x3 : Option (denR (outTys slices_Index_int_int.g.rts slices_Index_int_int.g.pms))) = evAt (slices_Index_int_int.E k) (fun κ s => lhOf k κ s slices_Index_int_int.pts) 5 b106 (unproj slices_Index_int_int.s5 (x0, x1, x2, x3, ())) (OM.fin slices_Index_int_int.g Tryz.f106.results.toList) := by kernel_rfl
theorem slices_Index_int_int.hf (k : Nat) (a0 : (List Int)) (a1 : Int) : (slices_Index_int_int.f k a0 a1 : Option (denR (outTys slices_Index_int_int.g.rts slices_Index_int_int.g.pms))) = evC (slices_Index_int_int.E k) (fun κ s => lhOf k κ s slices_Index_int_int.pts) b106 (OM.start slices_Index_int_int.g.pms 0 (a0, a1, ())) (OM.fin slices_Index_int_int.g Tryz.f106.results.toList) := by kernel_rfl
theorem slices_Index_int_int.ok (k : Nat) : SmOk Tryz.prog (slices_Index_int_int.sm k) :=
  sm_ok mixed (E := slices_Index_int_int.E) (pts := slices_Index_int_int.pts) (fun k => ⟨⟨tysOk, by kernel_rfl⟩, forall_nil⟩) (fun _ => rfl) (fun _ => rfl)
    ⟨Tryz.func106, by kernel_rfl, by kernel_rfl, by kernel_rfl, by kernel_rfl, by kernel_rfl, by kernel_rfl⟩ (forall_cons (fun x => ⟨rfl, fun k => slices_Index_int_int.h5 k x.1 x.2.1 x.2.2.1 x.2.2.2.1⟩) (forall_nil)) (fun k x => slices_Index_int_int.hf k x.1 x.2.1) k
noncomputable def b102 : Code := Tryz.f102.body.getD .skip
theorem e102 : OM.Entry Tryz.prog 102 := ⟨_, Tryz.func102, by kernel_rfl, by kernel_rfl⟩
@[reducible] noncomputable def slices_Contains_int_int.g : Sig := ⟨[.fz (.sl (.int .i64)), .fz (.int .i64)], [.v .bool .z], []⟩
@[reducible] noncomputable def slices_Contains_int_int.fk : Nat → denI slices_Contains_int_int.g.pms → Option (denR (outTys slices_Contains_int_int.g.rts slices_Contains_int_int.g.pms)) := fun k x => slices_Contains_int_int.f k x.1 x.2.1
@[reducible] noncomputable def slices_Contains_int_int.sm (k : Nat) : Sm := ⟨102, slices_Contains_int_int.g.pms, slices_Contains_int_int.g.rts, slices_Contains_int_int.fk k⟩
noncomputable def slices_Contains_int_int.E (k : Nat) : Env := ⟨tys, [slices_Index_int_int.sm k], [], [], []⟩
noncomputable def slices_Contains_int_int.pts : List (Pt (denR (outTys slices_Contains_int_int.g.rts slices_Contains_int_int.g.pms))) := []
theorem slices_Contains_int_int.hf (k : Nat) (a0 : (List Int)) (a1 : Int) : (slices_Contains_int_int.f k a0 a1 : Option (denR (outTys slices_Contains_int_int.g.rts slices_Contains_int_int.g.pms))) = evC (slices_Contains_int_int.E k) (fun κ s => lhOf k κ s slices_Contains_int_int.pts) b102 (OM.start slices_Contains_int_int.g.pms 0 (a0, a1, ())) (OM.fin slices_Contains_int_int.g Tryz.f102.results.toList) := by kernel_rfl
theorem slices_Contains_int_int.ok (k : Nat) : SmOk Tryz.prog (slices_Contains_int_int.sm k) :=
  sm_ok mixed (E := slices_Contains_int_int.E) (pts := slices_Contains_int_int.pts) (fun k => ⟨⟨tysOk, by kernel_rfl⟩, forall_cons ⟨slices_Index_int_int.ok k, e106⟩ (forall_nil)⟩) (fun _ => rfl) (fun _ => rfl)
    ⟨Tryz.func102, by kernel_rfl, by kernel_rfl, by kernel_rfl, by kernel_rfl, by kernel_rfl, by kernel_rfl⟩ (forall_nil) (fun k x => slices_Contains_int_int.hf k x.1 x.2.1) k
noncomputable def b90 : Code := Tryz.f90.body.getD .skip
theorem e90 : OM.Entry Tryz.prog 90 := ⟨_, Tryz.func90, by kernel_rfl, by kernel_rfl⟩
@[reducible] noncomputable def impl_SpanOf.g : Sig := ⟨[.fz tConfig, .fz (.sl (.int .i64))], [.v (.int .i64) .z], []⟩
@[reducible] noncomputable def impl_SpanOf.fk : Nat → denI impl_SpanOf.g.pms → Option (denR (outTys impl_SpanOf.g.rts impl_SpanOf.g.pms)) := fun k x => impl_SpanOf.f k x.1 x.2.1
@[reducible] noncomputable def impl_SpanOf.sm (k : Nat) : Sm := ⟨90, impl_SpanOf.g.pms, impl_SpanOf.g.rts, impl_SpanOf.fk k⟩
noncomputable def impl_SpanOf.E (k : Nat) : Env := ⟨tys, [impl_NodesOk.sm k, slices_Contains_int_int.sm k], [18, 32], [], []⟩
@[reducible] noncomputable def impl_SpanOf.s11 : List Slot := [.r 8 9 [] tConfig, .v 20 (.sl (.int .i64)) (.own .z) [] 0, .v 52 (.sl (.int .i64)) .z [] 0, .v 56 (.int .i64) .z [] 0, .v 60 (.int .i64) .z [] 0, .v 9 tConfig .z [] 0]
noncomputable def impl_SpanOf.pts : List (Pt (denR (outTys impl_SpanOf.g.rts impl_SpanOf.g.pms))) := [⟨11, impl_SpanOf.s11, fun k x => impl_SpanOf.p11 k x.1 x.2.1 x.2.2.1 x.2.2.2.1 x.2.2.2.2.1⟩]
theorem impl_SpanOf.h11 (k : Nat) (x0 : (List Int)) (x1 : (List Int)) (x2 : Int) (x3 : Int) (x4 : Config) : (impl_SpanOf.p11 (k + 1) x0 x1 x2 x3 x4 : Option (denR (outTys impl_SpanOf.g.rts impl_SpanOf.g.pms))) = evAt (impl_SpanOf.E k) (fun κ s => lhOf k κ s impl_SpanOf.pts) 11 b90 (unproj impl_SpanOf.s11 (x0, x1, x2, x3, x4, ())) (OM.fin impl_SpanOf.g Tryz.f90.results.toList) := by kernel_rfl
theorem impl_SpanOf.hf (k : Nat) (a0 : Config) (a1 : (List Int)) : (impl_SpanOf.f k a0 a1 : Option (denR (outTys impl_SpanOf.g.rts impl_SpanOf.g.pms))) = evC (impl_SpanOf.E k) (fun κ s => lhOf k κ s impl_SpanOf.pts) b90 (OM.start impl_SpanOf.g.pms 0 (a0, a1, ())) (OM.fin impl_SpanOf.g Tryz.f90.results.toList) := by kernel_rfl
theorem impl_SpanOf.ok (k : Nat) : SmOk Tryz.prog (impl_SpanOf.sm k) :=
  sm_ok mixed (E := impl_SpanOf.E) (pts := impl_SpanOf.pts) (fun k => ⟨⟨tysOk, by kernel_rfl⟩, forall_cons ⟨impl_NodesOk.ok k, e69⟩ (forall_cons ⟨slices_Contains_int_int.ok k, e102⟩ (forall_nil))⟩) (fun _ => rfl) (fun _ => rfl)
    ⟨Tryz.func90, by kernel_rfl, by kernel_rfl, by kernel_rfl, by kernel_rfl, by kernel_rfl, by kernel_rfl⟩ (forall_cons (fun x => ⟨rfl, fun k => impl_SpanOf.h11 k x.1 x.2.1 x.2.2.1 x.2.2.2.1 x.2.2.2.2.1⟩) (forall_nil)) (fun k x => impl_SpanOf.hf k x.1 x.2.1) k
noncomputable def b72 : Code := Tryz.f72.body.getD .skip
theorem e72 : OM.Entry Tryz.prog 72 := ⟨_, Tryz.func72, by kernel_rfl, by kernel_rfl⟩
@[reducible] noncomputable def impl_Holds.g : Sig := ⟨[.fz tConfig, .fz (.sl (.int .i64))], [.v .bool .z], []⟩
@[reducible] noncomputable def impl_Holds.fk : Nat → denI impl_Holds.g.pms → Option (denR (outTys impl_Holds.g.rts impl_Holds.g.pms)) := fun k x => impl_Holds.f k x.1 x.2.1
@[reducible] noncomputable def impl_Holds.sm (k : Nat) : Sm := ⟨72, impl_Holds.g.pms, impl_Holds.g.rts, impl_Holds.fk k⟩
noncomputable def impl_Holds.E (k : Nat) : Env := ⟨tys, [impl_NodesOk.sm k, impl_SpanOf.sm k], [], [], []⟩
noncomputable def impl_Holds.pts : List (Pt (denR (outTys impl_Holds.g.rts impl_Holds.g.pms))) := []
theorem impl_Holds.hf (k : Nat) (a0 : Config) (a1 : (List Int)) : (impl_Holds.f k a0 a1 : Option (denR (outTys impl_Holds.g.rts impl_Holds.g.pms))) = evC (impl_Holds.E k) (fun κ s => lhOf k κ s impl_Holds.pts) b72 (OM.start impl_Holds.g.pms 0 (a0, a1, ())) (OM.fin impl_Holds.g Tryz.f72.results.toList) := by kernel_rfl
theorem impl_Holds.ok (k : Nat) : SmOk Tryz.prog (impl_Holds.sm k) :=
  sm_ok mixed (E := impl_Holds.E) (pts := impl_Holds.pts) (fun k => ⟨⟨tysOk, by kernel_rfl⟩, forall_cons ⟨impl_NodesOk.ok k, e69⟩ (forall_cons ⟨impl_SpanOf.ok k, e90⟩ (forall_nil))⟩) (fun _ => rfl) (fun _ => rfl)
    ⟨Tryz.func72, by kernel_rfl, by kernel_rfl, by kernel_rfl, by kernel_rfl, by kernel_rfl, by kernel_rfl⟩ (forall_nil) (fun k x => impl_Holds.hf k x.1 x.2.1) k
noncomputable def b45 : Code := Tryz.f45.body.getD .skip
theorem e45 : OM.Entry Tryz.prog 45 := ⟨_, Tryz.func45, by kernel_rfl, by kernel_rfl⟩
@[reducible] noncomputable def impl_World_storesOk.g : Sig := ⟨[.fz (.fp tWorld)], [.v .bool .z], []⟩
@[reducible] noncomputable def impl_World_storesOk.fk : Nat → denI impl_World_storesOk.g.pms → Option (denR (outTys impl_World_storesOk.g.rts impl_World_storesOk.g.pms)) := fun k x => impl_World_storesOk.f k x.1
@[reducible] noncomputable def impl_World_storesOk.sm (k : Nat) : Sm := ⟨45, impl_World_storesOk.g.pms, impl_World_storesOk.g.rts, impl_World_storesOk.fk k⟩
noncomputable def impl_World_storesOk.E (k : Nat) : Env := ⟨tys, [impl_NodesOk.sm k, impl_StoreOk.sm k, impl_World_isLost.sm k, impl_Holds.sm k], [38], [], []⟩
@[reducible] noncomputable def impl_World_storesOk.s9 : List Slot := [.v 0 (.fp tWorld) .z [] 0, .v 128 (.sl tStore) .z [] 0, .v 132 (.int .i64) .z [] 0, .v 136 (.int .i64) .z [] 0]
noncomputable def impl_World_storesOk.pts : List (Pt (denR (outTys impl_World_storesOk.g.rts impl_World_storesOk.g.pms))) := [⟨9, impl_World_storesOk.s9, fun k x => impl_World_storesOk.p9 k x.1 x.2.1 x.2.2.1 x.2.2.2.1⟩]
theorem impl_World_storesOk.h9 (k : Nat) (x0 : World) (x1 : (List Store)) (x2 : Int) (x3 : Int) : (impl_World_storesOk.p9 (k + 1) x0 x1 x2 x3 : Option (denR (outTys impl_World_storesOk.g.rts impl_World_storesOk.g.pms))) = evAt (impl_World_storesOk.E k) (fun κ s => lhOf k κ s impl_World_storesOk.pts) 9 b45 (unproj impl_World_storesOk.s9 (x0, x1, x2, x3, ())) (OM.fin impl_World_storesOk.g Tryz.f45.results.toList) := by kernel_rfl
theorem impl_World_storesOk.hf (k : Nat) (a0 : World) : (impl_World_storesOk.f k a0 : Option (denR (outTys impl_World_storesOk.g.rts impl_World_storesOk.g.pms))) = evC (impl_World_storesOk.E k) (fun κ s => lhOf k κ s impl_World_storesOk.pts) b45 (OM.start impl_World_storesOk.g.pms 0 (a0, ())) (OM.fin impl_World_storesOk.g Tryz.f45.results.toList) := by kernel_rfl
theorem impl_World_storesOk.ok (k : Nat) : SmOk Tryz.prog (impl_World_storesOk.sm k) :=
  sm_ok mixed (E := impl_World_storesOk.E) (pts := impl_World_storesOk.pts) (fun k => ⟨⟨tysOk, by kernel_rfl⟩, forall_cons ⟨impl_NodesOk.ok k, e69⟩ (forall_cons ⟨impl_StoreOk.ok k, e70⟩ (forall_cons ⟨impl_World_isLost.ok k, e71⟩ (forall_cons ⟨impl_Holds.ok k, e72⟩ (forall_nil))))⟩) (fun _ => rfl) (fun _ => rfl)
    ⟨Tryz.func45, by kernel_rfl, by kernel_rfl, by kernel_rfl, by kernel_rfl, by kernel_rfl, by kernel_rfl⟩ (forall_cons (fun x => ⟨rfl, fun k => impl_World_storesOk.h9 k x.1 x.2.1 x.2.2.1 x.2.2.2.1⟩) (forall_nil)) (fun k x => impl_World_storesOk.hf k x.1) k
noncomputable def b73 : Code := Tryz.f73.body.getD .skip
theorem e73 : OM.Entry Tryz.prog 73 := ⟨_, Tryz.func73, by kernel_rfl, by kernel_rfl⟩
@[reducible] noncomputable def impl_eraOk.g : Sig := ⟨[.fz tConfig, .fz tEra], [.v .bool .z], []⟩
@[reducible] noncomputable def impl_eraOk.fk : Nat → denI impl_eraOk.g.pms → Option (denR (outTys impl_eraOk.g.rts impl_eraOk.g.pms)) := fun k x => impl_eraOk.f k x.1 x.2.1
@[reducible] noncomputable def impl_eraOk.sm (k : Nat) : Sm := ⟨73, impl_eraOk.g.pms, impl_eraOk.g.rts, impl_eraOk.fk k⟩
noncomputable def impl_eraOk.E (k : Nat) : Env := ⟨tys, [impl_within.sm k, impl_Holds.sm k], [], [], []⟩
noncomputable def impl_eraOk.pts : List (Pt (denR (outTys impl_eraOk.g.rts impl_eraOk.g.pms))) := []
theorem impl_eraOk.hf (k : Nat) (a0 : Config) (a1 : Era) : (impl_eraOk.f k a0 a1 : Option (denR (outTys impl_eraOk.g.rts impl_eraOk.g.pms))) = evC (impl_eraOk.E k) (fun κ s => lhOf k κ s impl_eraOk.pts) b73 (OM.start impl_eraOk.g.pms 0 (a0, a1, ())) (OM.fin impl_eraOk.g Tryz.f73.results.toList) := by kernel_rfl
theorem impl_eraOk.ok (k : Nat) : SmOk Tryz.prog (impl_eraOk.sm k) :=
  sm_ok mixed (E := impl_eraOk.E) (pts := impl_eraOk.pts) (fun k => ⟨⟨tysOk, by kernel_rfl⟩, forall_cons ⟨impl_within.ok k, e68⟩ (forall_cons ⟨impl_Holds.ok k, e72⟩ (forall_nil))⟩) (fun _ => rfl) (fun _ => rfl)
    ⟨Tryz.func73, by kernel_rfl, by kernel_rfl, by kernel_rfl, by kernel_rfl, by kernel_rfl, by kernel_rfl⟩ (forall_nil) (fun k x => impl_eraOk.hf k x.1 x.2.1) k
noncomputable def b46 : Code := Tryz.f46.body.getD .skip
theorem e46 : OM.Entry Tryz.prog 46 := ⟨_, Tryz.func46, by kernel_rfl, by kernel_rfl⟩
@[reducible] noncomputable def impl_RegOk.g : Sig := ⟨[.fz tConfig, .fz tRegister], [.v .bool .z], []⟩
@[reducible] noncomputable def impl_RegOk.fk : Nat → denI impl_RegOk.g.pms → Option (denR (outTys impl_RegOk.g.rts impl_RegOk.g.pms)) := fun k x => impl_RegOk.f k x.1 x.2.1
@[reducible] noncomputable def impl_RegOk.sm (k : Nat) : Sm := ⟨46, impl_RegOk.g.pms, impl_RegOk.g.rts, impl_RegOk.fk k⟩
noncomputable def impl_RegOk.E (k : Nat) : Env := ⟨tys, [impl_within.sm k, impl_ConfigOk.sm k, impl_EpochOf.sm k, impl_eraOk.sm k], [15], [8], []⟩
@[reducible] noncomputable def impl_RegOk.s5 : List Slot := [.r 8 9 [] tConfig, .r 12 13 [] tRegister, .v 36 (.sl tEra) .z [] 0, .v 40 (.int .i64) .z [] 0, .v 44 (.int .i64) .z [] 0, .v 9 tConfig .z [] 0, .v 13 tRegister .z [] 0]
@[reducible] noncomputable def impl_RegOk.s16 : List Slot := [.r 8 9 [] tConfig, .r 12 13 [] tRegister, .v 28 .bool .z [] 0, .v 9 tConfig .z [] 0, .v 13 tRegister .z [] 0]
noncomputable def impl_RegOk.pts : List (Pt (denR (outTys impl_RegOk.g.rts impl_RegOk.g.pms))) := [⟨5, impl_RegOk.s5, fun k x => impl_RegOk.p5 k x.1 x.2.1 x.2.2.1 x.2.2.2.1 x.2.2.2.2.1⟩, ⟨16, impl_RegOk.s16, fun k x => impl_RegOk.p16 k x.1 x.2.1 x.2.2.1⟩]
theorem impl_RegOk.h5 (k : Nat) (x0 : (List Era)) (x1 : Int) (x2 : Int) (x3 : Config) (x4 : Register) : (impl_RegOk.p5 (k + 1) x0 x1 x2 x3 x4 : Option (denR (outTys impl_RegOk.g.rts impl_RegOk.g.pms))) = evAt (impl_RegOk.E k) (fun κ s => lhOf k κ s impl_RegOk.pts) 5 b46 (unproj impl_RegOk.s5 (x0, x1, x2, x3, x4, ())) (OM.fin impl_RegOk.g Tryz.f46.results.toList) := by kernel_rfl
theorem impl_RegOk.h16 (k : Nat) (x0 : Bool) (x1 : Config) (x2 : Register) : (impl_RegOk.p16 (k + 1) x0 x1 x2 : Option (denR (outTys impl_RegOk.g.rts impl_RegOk.g.pms))) = evAt (impl_RegOk.E k) (fun κ s => lhOf k κ s impl_RegOk.pts) 16 b46 (unproj impl_RegOk.s16 (x0, x1, x2, ())) (OM.fin impl_RegOk.g Tryz.f46.results.toList) := by kernel_rfl
theorem impl_RegOk.hf (k : Nat) (a0 : Config) (a1 : Register) : (impl_RegOk.f k a0 a1 : Option (denR (outTys impl_RegOk.g.rts impl_RegOk.g.pms))) = evC (impl_RegOk.E k) (fun κ s => lhOf k κ s impl_RegOk.pts) b46 (OM.start impl_RegOk.g.pms 0 (a0, a1, ())) (OM.fin impl_RegOk.g Tryz.f46.results.toList) := by kernel_rfl
theorem impl_RegOk.ok (k : Nat) : SmOk Tryz.prog (impl_RegOk.sm k) :=
  sm_ok mixed (E := impl_RegOk.E) (pts := impl_RegOk.pts) (fun k => ⟨⟨tysOk, by kernel_rfl⟩, forall_cons ⟨impl_within.ok k, e68⟩ (forall_cons ⟨impl_ConfigOk.ok k, e44⟩ (forall_cons ⟨impl_EpochOf.ok k, e74⟩ (forall_cons ⟨impl_eraOk.ok k, e73⟩ (forall_nil))))⟩) (fun _ => rfl) (fun _ => rfl)
    ⟨Tryz.func46, by kernel_rfl, by kernel_rfl, by kernel_rfl, by kernel_rfl, by kernel_rfl, by kernel_rfl⟩ (forall_cons (fun x => ⟨rfl, fun k => impl_RegOk.h5 k x.1 x.2.1 x.2.2.1 x.2.2.2.1 x.2.2.2.2.1⟩) (forall_cons (fun x => ⟨rfl, fun k => impl_RegOk.h16 k x.1 x.2.1 x.2.2.1⟩) (forall_nil))) (fun k x => impl_RegOk.hf k x.1 x.2.1) k
noncomputable def b92 : Code := Tryz.f92.body.getD .skip
theorem e92 : OM.Entry Tryz.prog 92 := ⟨_, Tryz.func92, by kernel_rfl, by kernel_rfl⟩
@[reducible] noncomputable def impl_flagNum.g : Sig := ⟨[.fz .bool], [.v (.int .i64) .z], []⟩
@[reducible] noncomputable def impl_flagNum.fk : Nat → denI impl_flagNum.g.pms → Option (denR (outTys impl_flagNum.g.rts impl_flagNum.g.pms)) := fun k x => impl_flagNum.f x.1
@[reducible] noncomputable def impl_flagNum.sm (k : Nat) : Sm := ⟨92, impl_flagNum.g.pms, impl_flagNum.g.rts, impl_flagNum.fk k⟩
noncomputable def impl_flagNum.E (k : Nat) : Env := ⟨tys, [], [], [], []⟩
noncomputable def impl_flagNum.pts : List (Pt (denR (outTys impl_flagNum.g.rts impl_flagNum.g.pms))) := []
theorem impl_flagNum.hf (k : Nat) (a0 : Bool) : (impl_flagNum.f a0 : Option (denR (outTys impl_flagNum.g.rts impl_flagNum.g.pms))) = evC (impl_flagNum.E k) (fun κ s => lhOf k κ s impl_flagNum.pts) b92 (OM.start impl_flagNum.g.pms 0 (a0, ())) (OM.fin impl_flagNum.g Tryz.f92.results.toList) := by kernel_rfl
theorem impl_flagNum.ok (k : Nat) : SmOk Tryz.prog (impl_flagNum.sm k) :=
  sm_ok mixed (E := impl_flagNum.E) (pts := impl_flagNum.pts) (fun k => ⟨⟨tysOk, by kernel_rfl⟩, forall_nil⟩) (fun _ => rfl) (fun _ => rfl)
    ⟨Tryz.func92, by kernel_rfl, by kernel_rfl, by kernel_rfl, by kernel_rfl, by kernel_rfl, by kernel_rfl⟩ (forall_nil) (fun k x => impl_flagNum.hf k x.1) k
noncomputable def b75 : Code := Tryz.f75.body.getD .skip
theorem e75 : OM.Entry Tryz.prog 75 := ⟨_, Tryz.func75, by kernel_rfl, by kernel_rfl⟩
@[reducible] noncomputable def impl_WriterOk.g : Sig := ⟨[.fz tConfig, .fz tWriter], [.v .bool .z], []⟩
@[reducible] noncomputable def impl_WriterOk.fk : Nat → denI impl_WriterOk.g.pms → Option (denR (outTys impl_WriterOk.g.rts impl_WriterOk.g.pms)) := fun k x => impl_WriterOk.f k x.1 x.2.1
@[reducible] noncomputable def impl_WriterOk.sm (k : Nat) : Sm := ⟨75, impl_WriterOk.g.pms, impl_WriterOk.g.rts, impl_WriterOk.fk k⟩
noncomputable def impl_WriterOk.E (k : Nat) : Env := ⟨tys, [impl_ConfigOk.sm k, impl_NodesOk.sm k, impl_isEpoch.sm k, impl_dataOk.sm k, impl_Holds.sm k, impl_flagNum.sm k], [14], [], [4]⟩
@[reducible] noncomputable def impl_WriterOk.s7 : List Slot := [.r 8 9 [] tConfig, .r 12 13 [] tWriter, .v 20 (.int .i64) .z [] 0, .v 36 (.sl tWord) .z [] 0, .v 40 (.int .i64) .z [] 0, .v 44 (.int .i64) .z [] 0, .v 9 tConfig .z [] 0, .v 13 tWriter .z [] 0]
noncomputable def impl_WriterOk.pts : List (Pt (denR (outTys impl_WriterOk.g.rts impl_WriterOk.g.pms))) := [⟨7, impl_WriterOk.s7, fun k x => impl_WriterOk.p7 k x.1 x.2.1 x.2.2.1 x.2.2.2.1 x.2.2.2.2.1 x.2.2.2.2.2.1⟩]
theorem impl_WriterOk.h7 (k : Nat) (x0 : Int) (x1 : (List Word)) (x2 : Int) (x3 : Int) (x4 : Config) (x5 : Writer) : (impl_WriterOk.p7 (k + 1) x0 x1 x2 x3 x4 x5 : Option (denR (outTys impl_WriterOk.g.rts impl_WriterOk.g.pms))) = evAt (impl_WriterOk.E k) (fun κ s => lhOf k κ s impl_WriterOk.pts) 7 b75 (unproj impl_WriterOk.s7 (x0, x1, x2, x3, x4, x5, ())) (OM.fin impl_WriterOk.g Tryz.f75.results.toList) := by kernel_rfl
theorem impl_WriterOk.hf (k : Nat) (a0 : Config) (a1 : Writer) : (impl_WriterOk.f k a0 a1 : Option (denR (outTys impl_WriterOk.g.rts impl_WriterOk.g.pms))) = evC (impl_WriterOk.E k) (fun κ s => lhOf k κ s impl_WriterOk.pts) b75 (OM.start impl_WriterOk.g.pms 0 (a0, a1, ())) (OM.fin impl_WriterOk.g Tryz.f75.results.toList) := by kernel_rfl
theorem impl_WriterOk.ok (k : Nat) : SmOk Tryz.prog (impl_WriterOk.sm k) :=
  sm_ok mixed (E := impl_WriterOk.E) (pts := impl_WriterOk.pts) (fun k => ⟨⟨tysOk, by kernel_rfl⟩, forall_cons ⟨impl_ConfigOk.ok k, e44⟩ (forall_cons ⟨impl_NodesOk.ok k, e69⟩ (forall_cons ⟨impl_isEpoch.ok k, e93⟩ (forall_cons ⟨impl_dataOk.ok k, e80⟩ (forall_cons ⟨impl_Holds.ok k, e72⟩ (forall_cons ⟨impl_flagNum.ok k, e92⟩ (forall_nil))))))⟩) (fun _ => rfl) (fun _ => rfl)
    ⟨Tryz.func75, by kernel_rfl, by kernel_rfl, by kernel_rfl, by kernel_rfl, by kernel_rfl, by kernel_rfl⟩ (forall_cons (fun x => ⟨rfl, fun k => impl_WriterOk.h7 k x.1 x.2.1 x.2.2.1 x.2.2.2.1 x.2.2.2.2.1 x.2.2.2.2.2.1⟩) (forall_nil)) (fun k x => impl_WriterOk.hf k x.1 x.2.1) k
noncomputable def b76 : Code := Tryz.f76.body.getD .skip
theorem e76 : OM.Entry Tryz.prog 76 := ⟨_, Tryz.func76, by kernel_rfl, by kernel_rfl⟩
@[reducible] noncomputable def impl_World_isThere.g : Sig := ⟨[.fz (.fp tWorld), .fz (.int .i64)], [.v .bool .z], []⟩
@[reducible] noncomputable def impl_World_isThere.fk : Nat → denI impl_World_isThere.g.pms → Option (denR (outTys impl_World_isThere.g.rts impl_World_isThere.g.pms)) := fun k x => impl_World_isThere.f x.1 x.2.1
@[reducible] noncomputable def impl_World_isThere.sm (k : Nat) : Sm := ⟨76, impl_World_isThere.g.pms, impl_World_isThere.g.rts, impl_World_isThere.fk k⟩
noncomputable def impl_World_isThere.E (k : Nat) : Env := ⟨tys, [impl_within.sm k], [], [], []⟩
noncomputable def impl_World_isThere.pts : List (Pt (denR (outTys impl_World_isThere.g.rts impl_World_isThere.g.pms))) := []
theorem impl_World_isThere.hf (k : Nat) (a0 : World) (a1 : Int) : (impl_World_isThere.f a0 a1 : Option (denR (outTys impl_World_isThere.g.rts impl_World_isThere.g.pms))) = evC (impl_World_isThere.E k) (fun κ s => lhOf k κ s impl_World_isThere.pts) b76 (OM.start impl_World_isThere.g.pms 0 (a0, a1, ())) (OM.fin impl_World_isThere.g Tryz.f76.results.toList) := by kernel_rfl
theorem impl_World_isThere.ok (k : Nat) : SmOk Tryz.prog (impl_World_isThere.sm k) :=
  sm_ok mixed (E := impl_World_isThere.E) (pts := impl_World_isThere.pts) (fun k => ⟨⟨tysOk, by kernel_rfl⟩, forall_cons ⟨impl_within.ok k, e68⟩ (forall_nil)⟩) (fun _ => rfl) (fun _ => rfl)
    ⟨Tryz.func76, by kernel_rfl, by kernel_rfl, by kernel_rfl, by kernel_rfl, by kernel_rfl, by kernel_rfl⟩ (forall_nil) (fun k x => impl_World_isThere.hf k x.1 x.2.1) k
noncomputable def b47 : Code := Tryz.f47.body.getD .skip
theorem e47 : OM.Entry Tryz.prog 47 := ⟨_, Tryz.func47, by kernel_rfl, by kernel_rfl⟩
@[reducible] noncomputable def impl_World_writersOk.g : Sig := ⟨[.fz (.fp tWorld)], [.v .bool .z], []⟩
@[reducible] noncomputable def impl_World_writersOk.fk : Nat → denI impl_World_writersOk.g.pms → Option (denR (outTys impl_World_writersOk.g.rts impl_World_writersOk.g.pms)) := fun k x => impl_World_writersOk.f k x.1
@[reducible] noncomputable def impl_World_writersOk.sm (k : Nat) : Sm := ⟨47, impl_World_writersOk.g.pms, impl_World_writersOk.g.rts, impl_World_writersOk.fk k⟩
noncomputable def impl_World_writersOk.E (k : Nat) : Env := ⟨tys, [impl_WriterOk.sm k, impl_World_isThere.sm k], [14], [], []⟩
@[reducible] noncomputable def impl_World_writersOk.s5 : List Slot := [.v 0 (.fp tWorld) .z [] 0, .v 32 (.sl tWriter) .z [] 0, .v 36 (.int .i64) .z [] 0, .v 40 (.int .i64) .z [] 0]
noncomputable def impl_World_writersOk.pts : List (Pt (denR (outTys impl_World_writersOk.g.rts impl_World_writersOk.g.pms))) := [⟨5, impl_World_writersOk.s5, fun k x => impl_World_writersOk.p5 k x.1 x.2.1 x.2.2.1 x.2.2.2.1⟩]
theorem impl_World_writersOk.h5 (k : Nat) (x0 : World) (x1 : (List Writer)) (x2 : Int) (x3 : Int) : (impl_World_writersOk.p5 (k + 1) x0 x1 x2 x3 : Option (denR (outTys impl_World_writersOk.g.rts impl_World_writersOk.g.pms))) = evAt (impl_World_writersOk.E k) (fun κ s => lhOf k κ s impl_World_writersOk.pts) 5 b47 (unproj impl_World_writersOk.s5 (x0, x1, x2, x3, ())) (OM.fin impl_World_writersOk.g Tryz.f47.results.toList) := by kernel_rfl
theorem impl_World_writersOk.hf (k : Nat) (a0 : World) : (impl_World_writersOk.f k a0 : Option (denR (outTys impl_World_writersOk.g.rts impl_World_writersOk.g.pms))) = evC (impl_World_writersOk.E k) (fun κ s => lhOf k κ s impl_World_writersOk.pts) b47 (OM.start impl_World_writersOk.g.pms 0 (a0, ())) (OM.fin impl_World_writersOk.g Tryz.f47.results.toList) := by kernel_rfl
theorem impl_World_writersOk.ok (k : Nat) : SmOk Tryz.prog (impl_World_writersOk.sm k) :=
  sm_ok mixed (E := impl_World_writersOk.E) (pts := impl_World_writersOk.pts) (fun k => ⟨⟨tysOk, by kernel_rfl⟩, forall_cons ⟨impl_WriterOk.ok k, e75⟩ (forall_cons ⟨impl_World_isThere.ok k, e76⟩ (forall_nil))⟩) (fun _ => rfl) (fun _ => rfl)
    ⟨Tryz.func47, by kernel_rfl, by kernel_rfl, by kernel_rfl, by kernel_rfl, by kernel_rfl, by kernel_rfl⟩ (forall_cons (fun x => ⟨rfl, fun k => impl_World_writersOk.h5 k x.1 x.2.1 x.2.2.1 x.2.2.2.1⟩) (forall_nil)) (fun k x => impl_World_writersOk.hf k x.1) k
noncomputable def b104 : Code := Tryz.f104.body.getD .skip
theorem e104 : OM.Entry Tryz.prog 104 := ⟨_, Tryz.func104, by kernel_rfl, by kernel_rfl⟩
@[reducible] noncomputable def impl_OffOf.g : Sig := ⟨[.fz (.int .i64)], [.v (.int .i64) .z], []⟩
@[reducible] noncomputable def impl_OffOf.fk : Nat → denI impl_OffOf.g.pms → Option (denR (outTys impl_OffOf.g.rts impl_OffOf.g.pms)) := fun k x => impl_OffOf.f x.1
@[reducible] noncomputable def impl_OffOf.sm (k : Nat) : Sm := ⟨104, impl_OffOf.g.pms, impl_OffOf.g.rts, impl_OffOf.fk k⟩
noncomputable def impl_OffOf.E (k : Nat) : Env := ⟨tys, [impl_PlaceOk.sm k], [], [], []⟩
noncomputable def impl_OffOf.pts : List (Pt (denR (outTys impl_OffOf.g.rts impl_OffOf.g.pms))) := []
theorem impl_OffOf.hf (k : Nat) (a0 : Int) : (impl_OffOf.f a0 : Option (denR (outTys impl_OffOf.g.rts impl_OffOf.g.pms))) = evC (impl_OffOf.E k) (fun κ s => lhOf k κ s impl_OffOf.pts) b104 (OM.start impl_OffOf.g.pms 0 (a0, ())) (OM.fin impl_OffOf.g Tryz.f104.results.toList) := by kernel_rfl
theorem impl_OffOf.ok (k : Nat) : SmOk Tryz.prog (impl_OffOf.sm k) :=
  sm_ok mixed (E := impl_OffOf.E) (pts := impl_OffOf.pts) (fun k => ⟨⟨tysOk, by kernel_rfl⟩, forall_cons ⟨impl_PlaceOk.ok k, e91⟩ (forall_nil)⟩) (fun _ => rfl) (fun _ => rfl)
    ⟨Tryz.func104, by kernel_rfl, by kernel_rfl, by kernel_rfl, by kernel_rfl, by kernel_rfl, by kernel_rfl⟩ (forall_nil) (fun k x => impl_OffOf.hf k x.1) k
noncomputable def b94 : Code := Tryz.f94.body.getD .skip
theorem e94 : OM.Entry Tryz.prog 94 := ⟨_, Tryz.func94, by kernel_rfl, by kernel_rfl⟩
@[reducible] noncomputable def impl_lastOff.g : Sig := ⟨[.fz tMend], [.v (.int .i64) .z], []⟩
@[reducible] noncomputable def impl_lastOff.fk : Nat → denI impl_lastOff.g.pms → Option (denR (outTys impl_lastOff.g.rts impl_lastOff.g.pms)) := fun k x => impl_lastOff.f x.1
@[reducible] noncomputable def impl_lastOff.sm (k : Nat) : Sm := ⟨94, impl_lastOff.g.pms, impl_lastOff.g.rts, impl_lastOff.fk k⟩
noncomputable def impl_lastOff.E (k : Nat) : Env := ⟨tys, [impl_OffOf.sm k], [], [], []⟩
noncomputable def impl_lastOff.pts : List (Pt (denR (outTys impl_lastOff.g.rts impl_lastOff.g.pms))) := []
theorem impl_lastOff.hf (k : Nat) (a0 : Mend) : (impl_lastOff.f a0 : Option (denR (outTys impl_lastOff.g.rts impl_lastOff.g.pms))) = evC (impl_lastOff.E k) (fun κ s => lhOf k κ s impl_lastOff.pts) b94 (OM.start impl_lastOff.g.pms 0 (a0, ())) (OM.fin impl_lastOff.g Tryz.f94.results.toList) := by kernel_rfl
theorem impl_lastOff.ok (k : Nat) : SmOk Tryz.prog (impl_lastOff.sm k) :=
  sm_ok mixed (E := impl_lastOff.E) (pts := impl_lastOff.pts) (fun k => ⟨⟨tysOk, by kernel_rfl⟩, forall_cons ⟨impl_OffOf.ok k, e104⟩ (forall_nil)⟩) (fun _ => rfl) (fun _ => rfl)
    ⟨Tryz.func94, by kernel_rfl, by kernel_rfl, by kernel_rfl, by kernel_rfl, by kernel_rfl, by kernel_rfl⟩ (forall_nil) (fun k x => impl_lastOff.hf k x.1) k
noncomputable def b95 : Code := Tryz.f95.body.getD .skip
theorem e95 : OM.Entry Tryz.prog 95 := ⟨_, Tryz.func95, by kernel_rfl, by kernel_rfl⟩
@[reducible] noncomputable def impl_seenOk.g : Sig := ⟨[.fz tMend], [.v .bool .z], []⟩
@[reducible] noncomputable def impl_seenOk.fk : Nat → denI impl_seenOk.g.pms → Option (denR (outTys impl_seenOk.g.rts impl_seenOk.g.pms)) := fun k x => impl_seenOk.f k x.1
@[reducible] noncomputable def impl_seenOk.sm (k : Nat) : Sm := ⟨95, impl_seenOk.g.pms, impl_seenOk.g.rts, impl_seenOk.fk k⟩
noncomputable def impl_seenOk.E (k : Nat) : Env := ⟨tys, [impl_EpochOf.sm k, impl_EntryOk.sm k, impl_placesAscend.sm k], [11], [], []⟩
@[reducible] noncomputable def impl_seenOk.s5 : List Slot := [.r 4 5 [] tMend, .v 24 (.sl tEntry) .z [] 0, .v 28 (.int .i64) .z [] 0, .v 32 (.int .i64) .z [] 0, .v 5 tMend .z [] 0]
noncomputable def impl_seenOk.pts : List (Pt (denR (outTys impl_seenOk.g.rts impl_seenOk.g.pms))) := [⟨5, impl_seenOk.s5, fun k x => impl_seenOk.p5 k x.1 x.2.1 x.2.2.1 x.2.2.2.1⟩]
theorem impl_seenOk.h5 (k : Nat) (x0 : (List Entry)) (x1 : Int) (x2 : Int) (x3 : Mend) : (impl_seenOk.p5 (k + 1) x0 x1 x2 x3 : Option (denR (outTys impl_seenOk.g.rts impl_seenOk.g.pms))) = evAt (impl_seenOk.E k) (fun κ s => lhOf k κ s impl_seenOk.pts) 5 b95 (unproj impl_seenOk.s5 (x0, x1, x2, x3, ())) (OM.fin impl_seenOk.g Tryz.f95.results.toList) := by kernel_rfl
theorem impl_seenOk.hf (k : Nat) (a0 : Mend) : (impl_seenOk.f k a0 : Option (denR (outTys impl_seenOk.g.rts impl_seenOk.g.pms))) = evC (impl_seenOk.E k) (fun κ s => lhOf k κ s impl_seenOk.pts) b95 (OM.start impl_seenOk.g.pms 0 (a0, ())) (OM.fin impl_seenOk.g Tryz.f95.results.toList) := by kernel_rfl
theorem impl_seenOk.ok (k : Nat) : SmOk Tryz.prog (impl_seenOk.sm k) :=
  sm_ok mixed (E := impl_seenOk.E) (pts := impl_seenOk.pts) (fun k => ⟨⟨tysOk, by kernel_rfl⟩, forall_cons ⟨impl_EpochOf.ok k, e74⟩ (forall_cons ⟨impl_EntryOk.ok k, e99⟩ (forall_cons ⟨impl_placesAscend.ok k, e88⟩ (forall_nil)))⟩) (fun _ => rfl) (fun _ => rfl)
    ⟨Tryz.func95, by kernel_rfl, by kernel_rfl, by kernel_rfl, by kernel_rfl, by kernel_rfl, by kernel_rfl⟩ (forall_cons (fun x => ⟨rfl, fun k => impl_seenOk.h5 k x.1 x.2.1 x.2.2.1 x.2.2.2.1⟩) (forall_nil)) (fun k x => impl_seenOk.hf k x.1) k
noncomputable def b77 : Code := Tryz.f77.body.getD .skip
theorem e77 : OM.Entry Tryz.prog 77 := ⟨_, Tryz.func77, by kernel_rfl, by kernel_rfl⟩
@[reducible] noncomputable def impl_MendOk.g : Sig := ⟨[.fz tConfig, .fz tMend], [.v .bool .z], []⟩
@[reducible] noncomputable def impl_MendOk.fk : Nat → denI impl_MendOk.g.pms → Option (denR (outTys impl_MendOk.g.rts impl_MendOk.g.pms)) := fun k x => impl_MendOk.f k x.1 x.2.1
@[reducible] noncomputable def impl_MendOk.sm (k : Nat) : Sm := ⟨77, impl_MendOk.g.pms, impl_MendOk.g.rts, impl_MendOk.fk k⟩
noncomputable def impl_MendOk.E (k : Nat) : Env := ⟨tys, [impl_within.sm k, impl_ConfigOk.sm k, impl_NodesOk.sm k, impl_isEpoch.sm k, impl_lastOff.sm k, impl_seenOk.sm k], [15], [10, 11], []⟩
@[reducible] noncomputable def impl_MendOk.s5 : List Slot := [.r 8 9 [] tConfig, .r 12 13 [] tMend, .v 40 (.sl (.sl (.int .i64))) .z [] 0, .v 44 (.int .i64) .z [] 0, .v 48 (.int .i64) .z [] 0, .v 9 tConfig .z [] 0, .v 13 tMend .z [] 0]
@[reducible] noncomputable def impl_MendOk.s20 : List Slot := [.r 8 9 [] tConfig, .r 12 13 [] tMend, .v 28 (.int .i64) .z [] 0, .v 9 tConfig .z [] 0, .v 13 tMend .z [] 0]
@[reducible] noncomputable def impl_MendOk.s22 : List Slot := [.r 8 9 [] tConfig, .r 12 13 [] tMend, .v 28 (.int .i64) .z [] 0, .v 32 .bool .z [] 0, .v 9 tConfig .z [] 0, .v 13 tMend .z [] 0]
noncomputable def impl_MendOk.pts : List (Pt (denR (outTys impl_MendOk.g.rts impl_MendOk.g.pms))) := [⟨5, impl_MendOk.s5, fun k x => impl_MendOk.p5 k x.1 x.2.1 x.2.2.1 x.2.2.2.1 x.2.2.2.2.1⟩, ⟨20, impl_MendOk.s20, fun k x => impl_MendOk.p20 k x.1 x.2.1 x.2.2.1⟩, ⟨22, impl_MendOk.s22, fun k x => impl_MendOk.p22 k x.1 x.2.1 x.2.2.1 x.2.2.2.1⟩]
theorem impl_MendOk.h5 (k : Nat) (x0 : (List (List Int))) (x1 : Int) (x2 : Int) (x3 : Config) (x4 : Mend) : (impl_MendOk.p5 (k + 1) x0 x1 x2 x3 x4 : Option (denR (outTys impl_MendOk.g.rts impl_MendOk.g.pms))) = evAt (impl_MendOk.E k) (fun κ s => lhOf k κ s impl_MendOk.pts) 5 b77 (unproj impl_MendOk.s5 (x0, x1, x2, x3, x4, ())) (OM.fin impl_MendOk.g Tryz.f77.results.toList) := by kernel_rfl
theorem impl_MendOk.h20 (k : Nat) (x0 : Int) (x1 : Config) (x2 : Mend) : (impl_MendOk.p20 (k + 1) x0 x1 x2 : Option (denR (outTys impl_MendOk.g.rts impl_MendOk.g.pms))) = evAt (impl_MendOk.E k) (fun κ s => lhOf k κ s impl_MendOk.pts) 20 b77 (unproj impl_MendOk.s20 (x0, x1, x2, ())) (OM.fin impl_MendOk.g Tryz.f77.results.toList) := by kernel_rfl
theorem impl_MendOk.h22 (k : Nat) (x0 : Int) (x1 : Bool) (x2 : Config) (x3 : Mend) : (impl_MendOk.p22 (k + 1) x0 x1 x2 x3 : Option (denR (outTys impl_MendOk.g.rts impl_MendOk.g.pms))) = evAt (impl_MendOk.E k) (fun κ s => lhOf k κ s impl_MendOk.pts) 22 b77 (unproj impl_MendOk.s22 (x0, x1, x2, x3, ())) (OM.fin impl_MendOk.g Tryz.f77.results.toList) := by kernel_rfl
theorem impl_MendOk.hf (k : Nat) (a0 : Config) (a1 : Mend) : (impl_MendOk.f k a0 a1 : Option (denR (outTys impl_MendOk.g.rts impl_MendOk.g.pms))) = evC (impl_MendOk.E k) (fun κ s => lhOf k κ s impl_MendOk.pts) b77 (OM.start impl_MendOk.g.pms 0 (a0, a1, ())) (OM.fin impl_MendOk.g Tryz.f77.results.toList) := by kernel_rfl
theorem impl_MendOk.ok (k : Nat) : SmOk Tryz.prog (impl_MendOk.sm k) :=
  sm_ok mixed (E := impl_MendOk.E) (pts := impl_MendOk.pts) (fun k => ⟨⟨tysOk, by kernel_rfl⟩, forall_cons ⟨impl_within.ok k, e68⟩ (forall_cons ⟨impl_ConfigOk.ok k, e44⟩ (forall_cons ⟨impl_NodesOk.ok k, e69⟩ (forall_cons ⟨impl_isEpoch.ok k, e93⟩ (forall_cons ⟨impl_lastOff.ok k, e94⟩ (forall_cons ⟨impl_seenOk.ok k, e95⟩ (forall_nil))))))⟩) (fun _ => rfl) (fun _ => rfl)
    ⟨Tryz.func77, by kernel_rfl, by kernel_rfl, by kernel_rfl, by kernel_rfl, by kernel_rfl, by kernel_rfl⟩ (forall_cons (fun x => ⟨rfl, fun k => impl_MendOk.h5 k x.1 x.2.1 x.2.2.1 x.2.2.2.1 x.2.2.2.2.1⟩) (forall_cons (fun x => ⟨rfl, fun k => impl_MendOk.h20 k x.1 x.2.1 x.2.2.1⟩) (forall_cons (fun x => ⟨rfl, fun k => impl_MendOk.h22 k x.1 x.2.1 x.2.2.1 x.2.2.2.1⟩) (forall_nil)))) (fun k x => impl_MendOk.hf k x.1 x.2.1) k
noncomputable def b78 : Code := Tryz.f78.body.getD .skip
theorem e78 : OM.Entry Tryz.prog 78 := ⟨_, Tryz.func78, by kernel_rfl, by kernel_rfl⟩
@[reducible] noncomputable def impl_FirstOpen.g : Sig := ⟨[.fz tRegister], [.v (.int .i64) .z], []⟩
@[reducible] noncomputable def impl_FirstOpen.fk : Nat → denI impl_FirstOpen.g.pms → Option (denR (outTys impl_FirstOpen.g.rts impl_FirstOpen.g.pms)) := fun k x => impl_FirstOpen.f k x.1
@[reducible] noncomputable def impl_FirstOpen.sm (k : Nat) : Sm := ⟨78, impl_FirstOpen.g.pms, impl_FirstOpen.g.rts, impl_FirstOpen.fk k⟩
noncomputable def impl_FirstOpen.E (k : Nat) : Env := ⟨tys, [], [12], [], []⟩
@[reducible] noncomputable def impl_FirstOpen.s5 : List Slot := [.v 24 (.sl tEra) .z [] 0, .v 28 (.int .i64) .z [] 0, .v 32 (.int .i64) .z [] 0]
noncomputable def impl_FirstOpen.pts : List (Pt (denR (outTys impl_FirstOpen.g.rts impl_FirstOpen.g.pms))) := [⟨5, impl_FirstOpen.s5, fun k x => impl_FirstOpen.p5 k x.1 x.2.1 x.2.2.1⟩]
theorem impl_FirstOpen.h5 (k : Nat) (x0 : (List Era)) (x1 : Int) (x2 : Int) : (impl_FirstOpen.p5 (k + 1) x0 x1 x2 : Option (denR (outTys impl_FirstOpen.g.rts impl_FirstOpen.g.pms))) = evAt (impl_FirstOpen.E k) (fun κ s => lhOf k κ s impl_FirstOpen.pts) 5 b78 (unproj impl_FirstOpen.s5 (x0, x1, x2, ())) (OM.fin impl_FirstOpen.g Tryz.f78.results.toList) := by kernel_rfl
theorem impl_FirstOpen.hf (k : Nat) (a0 : Register) : (impl_FirstOpen.f k a0 : Option (denR (outTys impl_FirstOpen.g.rts impl_FirstOpen.g.pms))) = evC (impl_FirstOpen.E k) (fun κ s => lhOf k κ s impl_FirstOpen.pts) b78 (OM.start impl_FirstOpen.g.pms 0 (a0, ())) (OM.fin impl_FirstOpen.g Tryz.f78.results.toList) := by kernel_rfl
theorem impl_FirstOpen.ok (k : Nat) : SmOk Tryz.prog (impl_FirstOpen.sm k) :=
  sm_ok mixed (E := impl_FirstOpen.E) (pts := impl_FirstOpen.pts) (fun k => ⟨⟨tysOk, by kernel_rfl⟩, forall_nil⟩) (fun _ => rfl) (fun _ => rfl)
    ⟨Tryz.func78, by kernel_rfl, by kernel_rfl, by kernel_rfl, by kernel_rfl, by kernel_rfl, by kernel_rfl⟩ (forall_cons (fun x => ⟨rfl, fun k => impl_FirstOpen.h5 k x.1 x.2.1 x.2.2.1⟩) (forall_nil)) (fun k x => impl_FirstOpen.hf k x.1) k
noncomputable def b48 : Code := Tryz.f48.body.getD .skip
theorem e48 : OM.Entry Tryz.prog 48 := ⟨_, Tryz.func48, by kernel_rfl, by kernel_rfl⟩
@[reducible] noncomputable def impl_World_mendsOk.g : Sig := ⟨[.fz (.fp tWorld)], [.v .bool .z], []⟩
@[reducible] noncomputable def impl_World_mendsOk.fk : Nat → denI impl_World_mendsOk.g.pms → Option (denR (outTys impl_World_mendsOk.g.rts impl_World_mendsOk.g.pms)) := fun k x => impl_World_mendsOk.f k x.1
@[reducible] noncomputable def impl_World_mendsOk.sm (k : Nat) : Sm := ⟨48, impl_World_mendsOk.g.pms, impl_World_mendsOk.g.rts, impl_World_mendsOk.fk k⟩
noncomputable def impl_World_mendsOk.E (k : Nat) : Env := ⟨tys, [impl_MendOk.sm k, impl_FirstOpen.sm k], [13], [], []⟩
@[reducible] noncomputable def impl_World_mendsOk.s5 : List Slot := [.v 0 (.fp tWorld) .z [] 0, .v 32 (.sl tMend) .z [] 0, .v 36 (.int .i64) .z [] 0, .v 40 (.int .i64) .z [] 0]
noncomputable def impl_World_mendsOk.pts : List (Pt (denR (outTys impl_World_mendsOk.g.rts impl_World_mendsOk.g.pms))) := [⟨5, impl_World_mendsOk.s5, fun k x => impl_World_mendsOk.p5 k x.1 x.2.1 x.2.2.1 x.2.2.2.1⟩]
theorem impl_World_mendsOk.h5 (k : Nat) (x0 : World) (x1 : (List Mend)) (x2 : Int) (x3 : Int) : (impl_World_mendsOk.p5 (k + 1) x0 x1 x2 x3 : Option (denR (outTys impl_World_mendsOk.g.rts impl_World_mendsOk.g.pms))) = evAt (impl_World_mendsOk.E k) (fun κ s => lhOf k κ s impl_World_mendsOk.pts) 5 b48 (unproj impl_World_mendsOk.s5 (x0, x1, x2, x3, ())) (OM.fin impl_World_mendsOk.g Tryz.f48.results.toList) := by kernel_rfl
theorem impl_World_mendsOk.hf (k : Nat) (a0 : World) : (impl_World_mendsOk.f k a0 : Option (denR (outTys impl_World_mendsOk.g.rts impl_World_mendsOk.g.pms))) = evC (impl_World_mendsOk.E k) (fun κ s => lhOf k κ s impl_World_mendsOk.pts) b48 (OM.start impl_World_mendsOk.g.pms 0 (a0, ())) (OM.fin impl_World_mendsOk.g Tryz.f48.results.toList) := by kernel_rfl
theorem impl_World_mendsOk.ok (k : Nat) : SmOk Tryz.prog (impl_World_mendsOk.sm k) :=
  sm_ok mixed (E := impl_World_mendsOk.E) (pts := impl_World_mendsOk.pts) (fun k => ⟨⟨tysOk, by kernel_rfl⟩, forall_cons ⟨impl_MendOk.ok k, e77⟩ (forall_cons ⟨impl_FirstOpen.ok k, e78⟩ (forall_nil))⟩) (fun _ => rfl) (fun _ => rfl)
    ⟨Tryz.func48, by kernel_rfl, by kernel_rfl, by kernel_rfl, by kernel_rfl, by kernel_rfl, by kernel_rfl⟩ (forall_cons (fun x => ⟨rfl, fun k => impl_World_mendsOk.h5 k x.1 x.2.1 x.2.2.1 x.2.2.2.1⟩) (forall_nil)) (fun k x => impl_World_mendsOk.hf k x.1) k
noncomputable def b79 : Code := Tryz.f79.body.getD .skip
theorem e79 : OM.Entry Tryz.prog 79 := ⟨_, Tryz.func79, by kernel_rfl, by kernel_rfl⟩
@[reducible] noncomputable def impl_ReaderOk.g : Sig := ⟨[.fz tReader], [.v .bool .z], []⟩
@[reducible] noncomputable def impl_ReaderOk.fk : Nat → denI impl_ReaderOk.g.pms → Option (denR (outTys impl_ReaderOk.g.rts impl_ReaderOk.g.pms)) := fun k x => impl_ReaderOk.f x.1
@[reducible] noncomputable def impl_ReaderOk.sm (k : Nat) : Sm := ⟨79, impl_ReaderOk.g.pms, impl_ReaderOk.g.rts, impl_ReaderOk.fk k⟩
noncomputable def impl_ReaderOk.E (k : Nat) : Env := ⟨tys, [impl_within.sm k], [], [], []⟩
noncomputable def impl_ReaderOk.pts : List (Pt (denR (outTys impl_ReaderOk.g.rts impl_ReaderOk.g.pms))) := []
theorem impl_ReaderOk.hf (k : Nat) (a0 : Reader) : (impl_ReaderOk.f a0 : Option (denR (outTys impl_ReaderOk.g.rts impl_ReaderOk.g.pms))) = evC (impl_ReaderOk.E k) (fun κ s => lhOf k κ s impl_ReaderOk.pts) b79 (OM.start impl_ReaderOk.g.pms 0 (a0, ())) (OM.fin impl_ReaderOk.g Tryz.f79.results.toList) := by kernel_rfl
theorem impl_ReaderOk.ok (k : Nat) : SmOk Tryz.prog (impl_ReaderOk.sm k) :=
  sm_ok mixed (E := impl_ReaderOk.E) (pts := impl_ReaderOk.pts) (fun k => ⟨⟨tysOk, by kernel_rfl⟩, forall_cons ⟨impl_within.ok k, e68⟩ (forall_nil)⟩) (fun _ => rfl) (fun _ => rfl)
    ⟨Tryz.func79, by kernel_rfl, by kernel_rfl, by kernel_rfl, by kernel_rfl, by kernel_rfl, by kernel_rfl⟩ (forall_nil) (fun k x => impl_ReaderOk.hf k x.1) k
noncomputable def b49 : Code := Tryz.f49.body.getD .skip
theorem e49 : OM.Entry Tryz.prog 49 := ⟨_, Tryz.func49, by kernel_rfl, by kernel_rfl⟩
@[reducible] noncomputable def impl_World_readersOk.g : Sig := ⟨[.fz (.fp tWorld)], [.v .bool .z], []⟩
@[reducible] noncomputable def impl_World_readersOk.fk : Nat → denI impl_World_readersOk.g.pms → Option (denR (outTys impl_World_readersOk.g.rts impl_World_readersOk.g.pms)) := fun k x => impl_World_readersOk.f k x.1
@[reducible] noncomputable def impl_World_readersOk.sm (k : Nat) : Sm := ⟨49, impl_World_readersOk.g.pms, impl_World_readersOk.g.rts, impl_World_readersOk.fk k⟩
noncomputable def impl_World_readersOk.E (k : Nat) : Env := ⟨tys, [impl_ReaderOk.sm k], [13], [], []⟩
@[reducible] noncomputable def impl_World_readersOk.s5 : List Slot := [.v 0 (.fp tWorld) .z [] 0, .v 32 (.sl tReader) .z [] 0, .v 36 (.int .i64) .z [] 0, .v 40 (.int .i64) .z [] 0]
noncomputable def impl_World_readersOk.pts : List (Pt (denR (outTys impl_World_readersOk.g.rts impl_World_readersOk.g.pms))) := [⟨5, impl_World_readersOk.s5, fun k x => impl_World_readersOk.p5 k x.1 x.2.1 x.2.2.1 x.2.2.2.1⟩]
theorem impl_World_readersOk.h5 (k : Nat) (x0 : World) (x1 : (List Reader)) (x2 : Int) (x3 : Int) : (impl_World_readersOk.p5 (k + 1) x0 x1 x2 x3 : Option (denR (outTys impl_World_readersOk.g.rts impl_World_readersOk.g.pms))) = evAt (impl_World_readersOk.E k) (fun κ s => lhOf k κ s impl_World_readersOk.pts) 5 b49 (unproj impl_World_readersOk.s5 (x0, x1, x2, x3, ())) (OM.fin impl_World_readersOk.g Tryz.f49.results.toList) := by kernel_rfl
theorem impl_World_readersOk.hf (k : Nat) (a0 : World) : (impl_World_readersOk.f k a0 : Option (denR (outTys impl_World_readersOk.g.rts impl_World_readersOk.g.pms))) = evC (impl_World_readersOk.E k) (fun κ s => lhOf k κ s impl_World_readersOk.pts) b49 (OM.start impl_World_readersOk.g.pms 0 (a0, ())) (OM.fin impl_World_readersOk.g Tryz.f49.results.toList) := by kernel_rfl
theorem impl_World_readersOk.ok (k : Nat) : SmOk Tryz.prog (impl_World_readersOk.sm k) :=
  sm_ok mixed (E := impl_World_readersOk.E) (pts := impl_World_readersOk.pts) (fun k => ⟨⟨tysOk, by kernel_rfl⟩, forall_cons ⟨impl_ReaderOk.ok k, e79⟩ (forall_nil)⟩) (fun _ => rfl) (fun _ => rfl)
    ⟨Tryz.func49, by kernel_rfl, by kernel_rfl, by kernel_rfl, by kernel_rfl, by kernel_rfl, by kernel_rfl⟩ (forall_cons (fun x => ⟨rfl, fun k => impl_World_readersOk.h5 k x.1 x.2.1 x.2.2.1 x.2.2.2.1⟩) (forall_nil)) (fun k x => impl_World_readersOk.hf k x.1) k
noncomputable def b50 : Code := Tryz.f50.body.getD .skip
theorem e50 : OM.Entry Tryz.prog 50 := ⟨_, Tryz.func50, by kernel_rfl, by kernel_rfl⟩
@[reducible] noncomputable def impl_World_sentOk.g : Sig := ⟨[.fz (.fp tWorld)], [.v .bool .z], []⟩
@[reducible] noncomputable def impl_World_sentOk.fk : Nat → denI impl_World_sentOk.g.pms → Option (denR (outTys impl_World_sentOk.g.rts impl_World_sentOk.g.pms)) := fun k x => impl_World_sentOk.f k x.1
@[reducible] noncomputable def impl_World_sentOk.sm (k : Nat) : Sm := ⟨50, impl_World_sentOk.g.pms, impl_World_sentOk.g.rts, impl_World_sentOk.fk k⟩
noncomputable def impl_World_sentOk.E (k : Nat) : Env := ⟨tys, [impl_dataOk.sm k, impl_EpochOf.sm k, impl_World_isThere.sm k], [14], [], []⟩
@[reducible] noncomputable def impl_World_sentOk.s5 : List Slot := [.v 0 (.fp tWorld) .z [] 0, .v 32 (.sl tSent) .z [] 0, .v 36 (.int .i64) .z [] 0, .v 40 (.int .i64) .z [] 0]
noncomputable def impl_World_sentOk.pts : List (Pt (denR (outTys impl_World_sentOk.g.rts impl_World_sentOk.g.pms))) := [⟨5, impl_World_sentOk.s5, fun k x => impl_World_sentOk.p5 k x.1 x.2.1 x.2.2.1 x.2.2.2.1⟩]
theorem impl_World_sentOk.h5 (k : Nat) (x0 : World) (x1 : (List Sent)) (x2 : Int) (x3 : Int) : (impl_World_sentOk.p5 (k + 1) x0 x1 x2 x3 : Option (denR (outTys impl_World_sentOk.g.rts impl_World_sentOk.g.pms))) = evAt (impl_World_sentOk.E k) (fun κ s => lhOf k κ s impl_World_sentOk.pts) 5 b50 (unproj impl_World_sentOk.s5 (x0, x1, x2, x3, ())) (OM.fin impl_World_sentOk.g Tryz.f50.results.toList) := by kernel_rfl
theorem impl_World_sentOk.hf (k : Nat) (a0 : World) : (impl_World_sentOk.f k a0 : Option (denR (outTys impl_World_sentOk.g.rts impl_World_sentOk.g.pms))) = evC (impl_World_sentOk.E k) (fun κ s => lhOf k κ s impl_World_sentOk.pts) b50 (OM.start impl_World_sentOk.g.pms 0 (a0, ())) (OM.fin impl_World_sentOk.g Tryz.f50.results.toList) := by kernel_rfl
theorem impl_World_sentOk.ok (k : Nat) : SmOk Tryz.prog (impl_World_sentOk.sm k) :=
  sm_ok mixed (E := impl_World_sentOk.E) (pts := impl_World_sentOk.pts) (fun k => ⟨⟨tysOk, by kernel_rfl⟩, forall_cons ⟨impl_dataOk.ok k, e80⟩ (forall_cons ⟨impl_EpochOf.ok k, e74⟩ (forall_cons ⟨impl_World_isThere.ok k, e76⟩ (forall_nil)))⟩) (fun _ => rfl) (fun _ => rfl)
    ⟨Tryz.func50, by kernel_rfl, by kernel_rfl, by kernel_rfl, by kernel_rfl, by kernel_rfl, by kernel_rfl⟩ (forall_cons (fun x => ⟨rfl, fun k => impl_World_sentOk.h5 k x.1 x.2.1 x.2.2.1 x.2.2.2.1⟩) (forall_nil)) (fun k x => impl_World_sentOk.hf k x.1) k
noncomputable def b19 : Code := Tryz.f19.body.getD .skip
theorem e19 : OM.Entry Tryz.prog 19 := ⟨_, Tryz.func19, by kernel_rfl, by kernel_rfl⟩
@[reducible] noncomputable def impl_WorldOk.g : Sig := ⟨[.fz tWorld], [.v .bool .z], []⟩
@[reducible] noncomputable def impl_WorldOk.fk : Nat → denI impl_WorldOk.g.pms → Option (denR (outTys impl_WorldOk.g.rts impl_WorldOk.g.pms)) := fun k x => impl_WorldOk.f k x.1
@[reducible] noncomputable def impl_WorldOk.sm (k : Nat) : Sm := ⟨19, impl_WorldOk.g.pms, impl_WorldOk.g.rts, impl_WorldOk.fk k⟩
noncomputable def impl_WorldOk.E (k : Nat) : Env := ⟨tys, [impl_ConfigOk.sm k, impl_World_storesOk.sm k, impl_RegOk.sm k, impl_World_writersOk.sm k, impl_World_mendsOk.sm k, impl_World_readersOk.sm k, impl_World_sentOk.sm k], [], [2], []⟩
@[reducible] noncomputable def impl_WorldOk.s4 : List Slot := [.r 4 5 [] tWorld, .v 12 .bool .z [] 0, .v 5 tWorld .z [] 0]
noncomputable def impl_WorldOk.pts : List (Pt (denR (outTys impl_WorldOk.g.rts impl_WorldOk.g.pms))) := [⟨4, impl_WorldOk.s4, fun k x => impl_WorldOk.p4 k x.1 x.2.1⟩]
theorem impl_WorldOk.h4 (k : Nat) (x0 : Bool) (x1 : World) : (impl_WorldOk.p4 (k + 1) x0 x1 : Option (denR (outTys impl_WorldOk.g.rts impl_WorldOk.g.pms))) = evAt (impl_WorldOk.E k) (fun κ s => lhOf k κ s impl_WorldOk.pts) 4 b19 (unproj impl_WorldOk.s4 (x0, x1, ())) (OM.fin impl_WorldOk.g Tryz.f19.results.toList) := by kernel_rfl
theorem impl_WorldOk.hf (k : Nat) (a0 : World) : (impl_WorldOk.f k a0 : Option (denR (outTys impl_WorldOk.g.rts impl_WorldOk.g.pms))) = evC (impl_WorldOk.E k) (fun κ s => lhOf k κ s impl_WorldOk.pts) b19 (OM.start impl_WorldOk.g.pms 0 (a0, ())) (OM.fin impl_WorldOk.g Tryz.f19.results.toList) := by kernel_rfl
theorem impl_WorldOk.ok (k : Nat) : SmOk Tryz.prog (impl_WorldOk.sm k) :=
  sm_ok mixed (E := impl_WorldOk.E) (pts := impl_WorldOk.pts) (fun k => ⟨⟨tysOk, by kernel_rfl⟩, forall_cons ⟨impl_ConfigOk.ok k, e44⟩ (forall_cons ⟨impl_World_storesOk.ok k, e45⟩ (forall_cons ⟨impl_RegOk.ok k, e46⟩ (forall_cons ⟨impl_World_writersOk.ok k, e47⟩ (forall_cons ⟨impl_World_mendsOk.ok k, e48⟩ (forall_cons ⟨impl_World_readersOk.ok k, e49⟩ (forall_cons ⟨impl_World_sentOk.ok k, e50⟩ (forall_nil)))))))⟩) (fun _ => rfl) (fun _ => rfl)
    ⟨Tryz.func19, by kernel_rfl, by kernel_rfl, by kernel_rfl, by kernel_rfl, by kernel_rfl, by kernel_rfl⟩ (forall_cons (fun x => ⟨rfl, fun k => impl_WorldOk.h4 k x.1 x.2.1⟩) (forall_nil)) (fun k x => impl_WorldOk.hf k x.1) k
noncomputable def b7 : Code := Tryz.f7.body.getD .skip
theorem e7 : OM.Entry Tryz.prog 7 := ⟨_, Tryz.func7, by kernel_rfl, by kernel_rfl⟩
@[reducible] noncomputable def impl_WorldNew.g : Sig := ⟨[.fz tConfig], [.v tWorld (.two (.two (.own .z) .z) (.two (.own (.two (.own .z) (.two (.own .z) .z))) (.two (.own .a) (.two (.two (.own .a) .z) (.two (.own .a) (.two (.own .a) (.two (.own (.two .z (.two .z (.two (.own .a) .z)))) (.two (.own .a) .z)))))))), .v .bool .z], []⟩
@[reducible] noncomputable def impl_WorldNew.fk : Nat → denI impl_WorldNew.g.pms → Option (denR (outTys impl_WorldNew.g.rts impl_WorldNew.g.pms)) := fun k x => impl_WorldNew.f k x.1
@[reducible] noncomputable def impl_WorldNew.sm (k : Nat) : Sm := ⟨7, impl_WorldNew.g.pms, impl_WorldNew.g.rts, impl_WorldNew.fk k⟩
noncomputable def impl_WorldNew.E (k : Nat) : Env := ⟨tys, [impl_copyConfig.sm k, impl_ReaderNew.sm k, impl_WorldOk.sm k], [], [], []⟩
noncomputable def impl_WorldNew.pts : List (Pt (denR (outTys impl_WorldNew.g.rts impl_WorldNew.g.pms))) := []
theorem impl_WorldNew.hf (k : Nat) (a0 : Config) : (impl_WorldNew.f k a0 : Option (denR (outTys impl_WorldNew.g.rts impl_WorldNew.g.pms))) = evC (impl_WorldNew.E k) (fun κ s => lhOf k κ s impl_WorldNew.pts) b7 (OM.start impl_WorldNew.g.pms 0 (a0, ())) (OM.fin impl_WorldNew.g Tryz.f7.results.toList) := by kernel_rfl
theorem impl_WorldNew.ok (k : Nat) : SmOk Tryz.prog (impl_WorldNew.sm k) :=
  sm_ok mixed (E := impl_WorldNew.E) (pts := impl_WorldNew.pts) (fun k => ⟨⟨tysOk, by kernel_rfl⟩, forall_cons ⟨impl_copyConfig.ok k, e17⟩ (forall_cons ⟨impl_ReaderNew.ok k, e18⟩ (forall_cons ⟨impl_WorldOk.ok k, e19⟩ (forall_nil)))⟩) (fun _ => rfl) (fun _ => rfl)
    ⟨Tryz.func7, by kernel_rfl, by kernel_rfl, by kernel_rfl, by kernel_rfl, by kernel_rfl, by kernel_rfl⟩ (forall_nil) (fun k x => impl_WorldNew.hf k x.1) k
noncomputable def b21 : Code := Tryz.f21.body.getD .skip
theorem e21 : OM.Entry Tryz.prog 21 := ⟨_, Tryz.func21, by kernel_rfl, by kernel_rfl⟩
@[reducible] noncomputable def laws_eqIntS.g : Sig := ⟨[.fz (.sl (.int .i64)), .fz (.sl (.int .i64))], [.v .bool .z], []⟩
@[reducible] noncomputable def laws_eqIntS.fk : Nat → denI laws_eqIntS.g.pms → Option (denR (outTys laws_eqIntS.g.rts laws_eqIntS.g.pms)) := fun k x => laws_eqIntS.f k x.1 x.2.1
@[reducible] noncomputable def laws_eqIntS.sm (k : Nat) : Sm := ⟨21, laws_eqIntS.g.pms, laws_eqIntS.g.rts, laws_eqIntS.fk k⟩
noncomputable def laws_eqIntS.E (k : Nat) : Env := ⟨tys, [], [], [], []⟩
@[reducible] noncomputable def laws_eqIntS.s9 : List Slot := [.v 0 (.sl (.int .i64)) .z [] 0, .v 4 (.sl (.int .i64)) .z [] 0, .v 20 (.int .i64) .z [] 0]
noncomputable def laws_eqIntS.pts : List (Pt (denR (outTys laws_eqIntS.g.rts laws_eqIntS.g.pms))) := [⟨9, laws_eqIntS.s9, fun k x => laws_eqIntS.p9 k x.1 x.2.1 x.2.2.1⟩]
theorem laws_eqIntS.h9 (k : Nat) (x0 : (List Int)) (x1 : (List Int)) (x2 : Int) : (laws_eqIntS.p9 (k + 1) x0 x1 x2 : Option (denR (outTys laws_eqIntS.g.rts laws_eqIntS.g.pms))) = evAt (laws_eqIntS.E k) (fun κ s => lhOf k κ s laws_eqIntS.pts) 9 b21 (unproj laws_eqIntS.s9 (x0, x1, x2, ())) (OM.fin laws_eqIntS.g Tryz.f21.results.toList) := by kernel_rfl
theorem laws_eqIntS.hf (k : Nat) (a0 : (List Int)) (a1 : (List Int)) : (laws_eqIntS.f k a0 a1 : Option (denR (outTys laws_eqIntS.g.rts laws_eqIntS.g.pms))) = evC (laws_eqIntS.E k) (fun κ s => lhOf k κ s laws_eqIntS.pts) b21 (OM.start laws_eqIntS.g.pms 0 (a0, a1, ())) (OM.fin laws_eqIntS.g Tryz.f21.results.toList) := by kernel_rfl
theorem laws_eqIntS.ok (k : Nat) : SmOk Tryz.prog (laws_eqIntS.sm k) :=
  sm_ok mixed (E := laws_eqIntS.E) (pts := laws_eqIntS.pts) (fun k => ⟨⟨tysOk, by kernel_rfl⟩, forall_nil⟩) (fun _ => rfl) (fun _ => rfl)
    ⟨Tryz.func21, by kernel_rfl, by kernel_rfl, by kernel_rfl, by kernel_rfl, by kernel_rfl, by kernel_rfl⟩ (forall_cons (fun x => ⟨rfl, fun k => laws_eqIntS.h9 k x.1 x.2.1 x.2.2.1⟩) (forall_nil)) (fun k x => laws_eqIntS.hf k x.1 x.2.1) k
noncomputable def b9 : Code := Tryz.f9.body.getD .skip
theorem e9 : OM.Entry Tryz.prog 9 := ⟨_, Tryz.func9, by kernel_rfl, by kernel_rfl⟩
@[reducible] noncomputable def laws_eqConfig.g : Sig := ⟨[.fz tConfig, .fz tConfig], [.v .bool .z], []⟩
@[reducible] noncomputable def laws_eqConfig.fk : Nat → denI laws_eqConfig.g.pms → Option (denR (outTys laws_eqConfig.g.rts laws_eqConfig.g.pms)) := fun k x => laws_eqConfig.f k x.1 x.2.1
@[reducible] noncomputable def laws_eqConfig.sm (k : Nat) : Sm := ⟨9, laws_eqConfig.g.pms, laws_eqConfig.g.rts, laws_eqConfig.fk k⟩
noncomputable def laws_eqConfig.E (k : Nat) : Env := ⟨tys, [laws_eqIntS.sm k], [], [], []⟩
noncomputable def laws_eqConfig.pts : List (Pt (denR (outTys laws_eqConfig.g.rts laws_eqConfig.g.pms))) := []
theorem laws_eqConfig.hf (k : Nat) (a0 : Config) (a1 : Config) : (laws_eqConfig.f k a0 a1 : Option (denR (outTys laws_eqConfig.g.rts laws_eqConfig.g.pms))) = evC (laws_eqConfig.E k) (fun κ s => lhOf k κ s laws_eqConfig.pts) b9 (OM.start laws_eqConfig.g.pms 0 (a0, a1, ())) (OM.fin laws_eqConfig.g Tryz.f9.results.toList) := by kernel_rfl
theorem laws_eqConfig.ok (k : Nat) : SmOk Tryz.prog (laws_eqConfig.sm k) :=
  sm_ok mixed (E := laws_eqConfig.E) (pts := laws_eqConfig.pts) (fun k => ⟨⟨tysOk, by kernel_rfl⟩, forall_cons ⟨laws_eqIntS.ok k, e21⟩ (forall_nil)⟩) (fun _ => rfl) (fun _ => rfl)
    ⟨Tryz.func9, by kernel_rfl, by kernel_rfl, by kernel_rfl, by kernel_rfl, by kernel_rfl, by kernel_rfl⟩ (forall_nil) (fun k x => laws_eqConfig.hf k x.1 x.2.1) k
noncomputable def b96 : Code := Tryz.f96.body.getD .skip
theorem e96 : OM.Entry Tryz.prog 96 := ⟨_, Tryz.func96, by kernel_rfl, by kernel_rfl⟩
@[reducible] noncomputable def laws_eqEntry.g : Sig := ⟨[.fz tEntry, .fz tEntry], [.v .bool .z], []⟩
@[reducible] noncomputable def laws_eqEntry.fk : Nat → denI laws_eqEntry.g.pms → Option (denR (outTys laws_eqEntry.g.rts laws_eqEntry.g.pms)) := fun k x => laws_eqEntry.f x.1 x.2.1
@[reducible] noncomputable def laws_eqEntry.sm (k : Nat) : Sm := ⟨96, laws_eqEntry.g.pms, laws_eqEntry.g.rts, laws_eqEntry.fk k⟩
noncomputable def laws_eqEntry.E (k : Nat) : Env := ⟨tys, [], [], [], [4]⟩
noncomputable def laws_eqEntry.pts : List (Pt (denR (outTys laws_eqEntry.g.rts laws_eqEntry.g.pms))) := []
theorem laws_eqEntry.hf (k : Nat) (a0 : Entry) (a1 : Entry) : (laws_eqEntry.f a0 a1 : Option (denR (outTys laws_eqEntry.g.rts laws_eqEntry.g.pms))) = evC (laws_eqEntry.E k) (fun κ s => lhOf k κ s laws_eqEntry.pts) b96 (OM.start laws_eqEntry.g.pms 0 (a0, a1, ())) (OM.fin laws_eqEntry.g Tryz.f96.results.toList) := by kernel_rfl
theorem laws_eqEntry.ok (k : Nat) : SmOk Tryz.prog (laws_eqEntry.sm k) :=
  sm_ok mixed (E := laws_eqEntry.E) (pts := laws_eqEntry.pts) (fun k => ⟨⟨tysOk, by kernel_rfl⟩, forall_nil⟩) (fun _ => rfl) (fun _ => rfl)
    ⟨Tryz.func96, by kernel_rfl, by kernel_rfl, by kernel_rfl, by kernel_rfl, by kernel_rfl, by kernel_rfl⟩ (forall_nil) (fun k x => laws_eqEntry.hf k x.1 x.2.1) k
noncomputable def b81 : Code := Tryz.f81.body.getD .skip
theorem e81 : OM.Entry Tryz.prog 81 := ⟨_, Tryz.func81, by kernel_rfl, by kernel_rfl⟩
@[reducible] noncomputable def laws_eqEntryS.g : Sig := ⟨[.fz (.sl tEntry), .fz (.sl tEntry)], [.v .bool .z], []⟩
@[reducible] noncomputable def laws_eqEntryS.fk : Nat → denI laws_eqEntryS.g.pms → Option (denR (outTys laws_eqEntryS.g.rts laws_eqEntryS.g.pms)) := fun k x => laws_eqEntryS.f k x.1 x.2.1
@[reducible] noncomputable def laws_eqEntryS.sm (k : Nat) : Sm := ⟨81, laws_eqEntryS.g.pms, laws_eqEntryS.g.rts, laws_eqEntryS.fk k⟩
noncomputable def laws_eqEntryS.E (k : Nat) : Env := ⟨tys, [laws_eqEntry.sm k], [], [], []⟩
@[reducible] noncomputable def laws_eqEntryS.s9 : List Slot := [.v 0 (.sl tEntry) .z [] 0, .v 4 (.sl tEntry) .z [] 0, .v 20 (.int .i64) .z [] 0]
noncomputable def laws_eqEntryS.pts : List (Pt (denR (outTys laws_eqEntryS.g.rts laws_eqEntryS.g.pms))) := [⟨9, laws_eqEntryS.s9, fun k x => laws_eqEntryS.p9 k x.1 x.2.1 x.2.2.1⟩]
theorem laws_eqEntryS.h9 (k : Nat) (x0 : (List Entry)) (x1 : (List Entry)) (x2 : Int) : (laws_eqEntryS.p9 (k + 1) x0 x1 x2 : Option (denR (outTys laws_eqEntryS.g.rts laws_eqEntryS.g.pms))) = evAt (laws_eqEntryS.E k) (fun κ s => lhOf k κ s laws_eqEntryS.pts) 9 b81 (unproj laws_eqEntryS.s9 (x0, x1, x2, ())) (OM.fin laws_eqEntryS.g Tryz.f81.results.toList) := by kernel_rfl
theorem laws_eqEntryS.hf (k : Nat) (a0 : (List Entry)) (a1 : (List Entry)) : (laws_eqEntryS.f k a0 a1 : Option (denR (outTys laws_eqEntryS.g.rts laws_eqEntryS.g.pms))) = evC (laws_eqEntryS.E k) (fun κ s => lhOf k κ s laws_eqEntryS.pts) b81 (OM.start laws_eqEntryS.g.pms 0 (a0, a1, ())) (OM.fin laws_eqEntryS.g Tryz.f81.results.toList) := by kernel_rfl
theorem laws_eqEntryS.ok (k : Nat) : SmOk Tryz.prog (laws_eqEntryS.sm k) :=
  sm_ok mixed (E := laws_eqEntryS.E) (pts := laws_eqEntryS.pts) (fun k => ⟨⟨tysOk, by kernel_rfl⟩, forall_cons ⟨laws_eqEntry.ok k, e96⟩ (forall_nil)⟩) (fun _ => rfl) (fun _ => rfl)
    ⟨Tryz.func81, by kernel_rfl, by kernel_rfl, by kernel_rfl, by kernel_rfl, by kernel_rfl, by kernel_rfl⟩ (forall_cons (fun x => ⟨rfl, fun k => laws_eqEntryS.h9 k x.1 x.2.1 x.2.2.1⟩) (forall_nil)) (fun k x => laws_eqEntryS.hf k x.1 x.2.1) k
noncomputable def b51 : Code := Tryz.f51.body.getD .skip
theorem e51 : OM.Entry Tryz.prog 51 := ⟨_, Tryz.func51, by kernel_rfl, by kernel_rfl⟩
@[reducible] noncomputable def laws_eqStore.g : Sig := ⟨[.fz tStore, .fz tStore], [.v .bool .z], []⟩
@[reducible] noncomputable def laws_eqStore.fk : Nat → denI laws_eqStore.g.pms → Option (denR (outTys laws_eqStore.g.rts laws_eqStore.g.pms)) := fun k x => laws_eqStore.f k x.1 x.2.1
@[reducible] noncomputable def laws_eqStore.sm (k : Nat) : Sm := ⟨51, laws_eqStore.g.pms, laws_eqStore.g.rts, laws_eqStore.fk k⟩
noncomputable def laws_eqStore.E (k : Nat) : Env := ⟨tys, [laws_eqEntryS.sm k], [], [], []⟩
noncomputable def laws_eqStore.pts : List (Pt (denR (outTys laws_eqStore.g.rts laws_eqStore.g.pms))) := []
theorem laws_eqStore.hf (k : Nat) (a0 : Store) (a1 : Store) : (laws_eqStore.f k a0 a1 : Option (denR (outTys laws_eqStore.g.rts laws_eqStore.g.pms))) = evC (laws_eqStore.E k) (fun κ s => lhOf k κ s laws_eqStore.pts) b51 (OM.start laws_eqStore.g.pms 0 (a0, a1, ())) (OM.fin laws_eqStore.g Tryz.f51.results.toList) := by kernel_rfl
theorem laws_eqStore.ok (k : Nat) : SmOk Tryz.prog (laws_eqStore.sm k) :=
  sm_ok mixed (E := laws_eqStore.E) (pts := laws_eqStore.pts) (fun k => ⟨⟨tysOk, by kernel_rfl⟩, forall_cons ⟨laws_eqEntryS.ok k, e81⟩ (forall_nil)⟩) (fun _ => rfl) (fun _ => rfl)
    ⟨Tryz.func51, by kernel_rfl, by kernel_rfl, by kernel_rfl, by kernel_rfl, by kernel_rfl, by kernel_rfl⟩ (forall_nil) (fun k x => laws_eqStore.hf k x.1 x.2.1) k
noncomputable def b20 : Code := Tryz.f20.body.getD .skip
theorem e20 : OM.Entry Tryz.prog 20 := ⟨_, Tryz.func20, by kernel_rfl, by kernel_rfl⟩
@[reducible] noncomputable def laws_eqStoreS.g : Sig := ⟨[.fz (.sl tStore), .fz (.sl tStore)], [.v .bool .z], []⟩
@[reducible] noncomputable def laws_eqStoreS.fk : Nat → denI laws_eqStoreS.g.pms → Option (denR (outTys laws_eqStoreS.g.rts laws_eqStoreS.g.pms)) := fun k x => laws_eqStoreS.f k x.1 x.2.1
@[reducible] noncomputable def laws_eqStoreS.sm (k : Nat) : Sm := ⟨20, laws_eqStoreS.g.pms, laws_eqStoreS.g.rts, laws_eqStoreS.fk k⟩
noncomputable def laws_eqStoreS.E (k : Nat) : Env := ⟨tys, [laws_eqStore.sm k], [], [], []⟩
@[reducible] noncomputable def laws_eqStoreS.s9 : List Slot := [.v 0 (.sl tStore) .z [] 0, .v 4 (.sl tStore) .z [] 0, .v 20 (.int .i64) .z [] 0]
noncomputable def laws_eqStoreS.pts : List (Pt (denR (outTys laws_eqStoreS.g.rts laws_eqStoreS.g.pms))) := [⟨9, laws_eqStoreS.s9, fun k x => laws_eqStoreS.p9 k x.1 x.2.1 x.2.2.1⟩]
theorem laws_eqStoreS.h9 (k : Nat) (x0 : (List Store)) (x1 : (List Store)) (x2 : Int) : (laws_eqStoreS.p9 (k + 1) x0 x1 x2 : Option (denR (outTys laws_eqStoreS.g.rts laws_eqStoreS.g.pms))) = evAt (laws_eqStoreS.E k) (fun κ s => lhOf k κ s laws_eqStoreS.pts) 9 b20 (unproj laws_eqStoreS.s9 (x0, x1, x2, ())) (OM.fin laws_eqStoreS.g Tryz.f20.results.toList) := by kernel_rfl
theorem laws_eqStoreS.hf (k : Nat) (a0 : (List Store)) (a1 : (List Store)) : (laws_eqStoreS.f k a0 a1 : Option (denR (outTys laws_eqStoreS.g.rts laws_eqStoreS.g.pms))) = evC (laws_eqStoreS.E k) (fun κ s => lhOf k κ s laws_eqStoreS.pts) b20 (OM.start laws_eqStoreS.g.pms 0 (a0, a1, ())) (OM.fin laws_eqStoreS.g Tryz.f20.results.toList) := by kernel_rfl
theorem laws_eqStoreS.ok (k : Nat) : SmOk Tryz.prog (laws_eqStoreS.sm k) :=
  sm_ok mixed (E := laws_eqStoreS.E) (pts := laws_eqStoreS.pts) (fun k => ⟨⟨tysOk, by kernel_rfl⟩, forall_cons ⟨laws_eqStore.ok k, e51⟩ (forall_nil)⟩) (fun _ => rfl) (fun _ => rfl)
    ⟨Tryz.func20, by kernel_rfl, by kernel_rfl, by kernel_rfl, by kernel_rfl, by kernel_rfl, by kernel_rfl⟩ (forall_cons (fun x => ⟨rfl, fun k => laws_eqStoreS.h9 k x.1 x.2.1 x.2.2.1⟩) (forall_nil)) (fun k x => laws_eqStoreS.hf k x.1 x.2.1) k
noncomputable def b82 : Code := Tryz.f82.body.getD .skip
theorem e82 : OM.Entry Tryz.prog 82 := ⟨_, Tryz.func82, by kernel_rfl, by kernel_rfl⟩
@[reducible] noncomputable def laws_eqEra.g : Sig := ⟨[.fz tEra, .fz tEra], [.v .bool .z], []⟩
@[reducible] noncomputable def laws_eqEra.fk : Nat → denI laws_eqEra.g.pms → Option (denR (outTys laws_eqEra.g.rts laws_eqEra.g.pms)) := fun k x => laws_eqEra.f k x.1 x.2.1
@[reducible] noncomputable def laws_eqEra.sm (k : Nat) : Sm := ⟨82, laws_eqEra.g.pms, laws_eqEra.g.rts, laws_eqEra.fk k⟩
noncomputable def laws_eqEra.E (k : Nat) : Env := ⟨tys, [laws_eqIntS.sm k], [], [], [4]⟩
noncomputable def laws_eqEra.pts : List (Pt (denR (outTys laws_eqEra.g.rts laws_eqEra.g.pms))) := []
theorem laws_eqEra.hf (k : Nat) (a0 : Era) (a1 : Era) : (laws_eqEra.f k a0 a1 : Option (denR (outTys laws_eqEra.g.rts laws_eqEra.g.pms))) = evC (laws_eqEra.E k) (fun κ s => lhOf k κ s laws_eqEra.pts) b82 (OM.start laws_eqEra.g.pms 0 (a0, a1, ())) (OM.fin laws_eqEra.g Tryz.f82.results.toList) := by kernel_rfl
theorem laws_eqEra.ok (k : Nat) : SmOk Tryz.prog (laws_eqEra.sm k) :=
  sm_ok mixed (E := laws_eqEra.E) (pts := laws_eqEra.pts) (fun k => ⟨⟨tysOk, by kernel_rfl⟩, forall_cons ⟨laws_eqIntS.ok k, e21⟩ (forall_nil)⟩) (fun _ => rfl) (fun _ => rfl)
    ⟨Tryz.func82, by kernel_rfl, by kernel_rfl, by kernel_rfl, by kernel_rfl, by kernel_rfl, by kernel_rfl⟩ (forall_nil) (fun k x => laws_eqEra.hf k x.1 x.2.1) k
noncomputable def b52 : Code := Tryz.f52.body.getD .skip
theorem e52 : OM.Entry Tryz.prog 52 := ⟨_, Tryz.func52, by kernel_rfl, by kernel_rfl⟩
@[reducible] noncomputable def laws_eqEraS.g : Sig := ⟨[.fz (.sl tEra), .fz (.sl tEra)], [.v .bool .z], []⟩
@[reducible] noncomputable def laws_eqEraS.fk : Nat → denI laws_eqEraS.g.pms → Option (denR (outTys laws_eqEraS.g.rts laws_eqEraS.g.pms)) := fun k x => laws_eqEraS.f k x.1 x.2.1
@[reducible] noncomputable def laws_eqEraS.sm (k : Nat) : Sm := ⟨52, laws_eqEraS.g.pms, laws_eqEraS.g.rts, laws_eqEraS.fk k⟩
noncomputable def laws_eqEraS.E (k : Nat) : Env := ⟨tys, [laws_eqEra.sm k], [], [], []⟩
@[reducible] noncomputable def laws_eqEraS.s9 : List Slot := [.v 0 (.sl tEra) .z [] 0, .v 4 (.sl tEra) .z [] 0, .v 20 (.int .i64) .z [] 0]
noncomputable def laws_eqEraS.pts : List (Pt (denR (outTys laws_eqEraS.g.rts laws_eqEraS.g.pms))) := [⟨9, laws_eqEraS.s9, fun k x => laws_eqEraS.p9 k x.1 x.2.1 x.2.2.1⟩]
theorem laws_eqEraS.h9 (k : Nat) (x0 : (List Era)) (x1 : (List Era)) (x2 : Int) : (laws_eqEraS.p9 (k + 1) x0 x1 x2 : Option (denR (outTys laws_eqEraS.g.rts laws_eqEraS.g.pms))) = evAt (laws_eqEraS.E k) (fun κ s => lhOf k κ s laws_eqEraS.pts) 9 b52 (unproj laws_eqEraS.s9 (x0, x1, x2, ())) (OM.fin laws_eqEraS.g Tryz.f52.results.toList) := by kernel_rfl
theorem laws_eqEraS.hf (k : Nat) (a0 : (List Era)) (a1 : (List Era)) : (laws_eqEraS.f k a0 a1 : Option (denR (outTys laws_eqEraS.g.rts laws_eqEraS.g.pms))) = evC (laws_eqEraS.E k) (fun κ s => lhOf k κ s laws_eqEraS.pts) b52 (OM.start laws_eqEraS.g.pms 0 (a0, a1, ())) (OM.fin laws_eqEraS.g Tryz.f52.results.toList) := by kernel_rfl
theorem laws_eqEraS.ok (k : Nat) : SmOk Tryz.prog (laws_eqEraS.sm k) :=
  sm_ok mixed (E := laws_eqEraS.E) (pts := laws_eqEraS.pts) (fun k => ⟨⟨tysOk, by kernel_rfl⟩, forall_cons ⟨laws_eqEra.ok k, e82⟩ (forall_nil)⟩) (fun _ => rfl) (fun _ => rfl)
    ⟨Tryz.func52, by kernel_rfl, by kernel_rfl, by kernel_rfl, by kernel_rfl, by kernel_rfl, by kernel_rfl⟩ (forall_cons (fun x => ⟨rfl, fun k => laws_eqEraS.h9 k x.1 x.2.1 x.2.2.1⟩) (forall_nil)) (fun k x => laws_eqEraS.hf k x.1 x.2.1) k
noncomputable def b22 : Code := Tryz.f22.body.getD .skip
theorem e22 : OM.Entry Tryz.prog 22 := ⟨_, Tryz.func22, by kernel_rfl, by kernel_rfl⟩
@[reducible] noncomputable def laws_eqRegister.g : Sig := ⟨[.fz tRegister, .fz tRegister], [.v .bool .z], []⟩
@[reducible] noncomputable def laws_eqRegister.fk : Nat → denI laws_eqRegister.g.pms → Option (denR (outTys laws_eqRegister.g.rts laws_eqRegister.g.pms)) := fun k x => laws_eqRegister.f k x.1 x.2.1
@[reducible] noncomputable def laws_eqRegister.sm (k : Nat) : Sm := ⟨22, laws_eqRegister.g.pms, laws_eqRegister.g.rts, laws_eqRegister.fk k⟩
noncomputable def laws_eqRegister.E (k : Nat) : Env := ⟨tys, [laws_eqEraS.sm k], [], [], []⟩
noncomputable def laws_eqRegister.pts : List (Pt (denR (outTys laws_eqRegister.g.rts laws_eqRegister.g.pms))) := []
theorem laws_eqRegister.hf (k : Nat) (a0 : Register) (a1 : Register) : (laws_eqRegister.f k a0 a1 : Option (denR (outTys laws_eqRegister.g.rts laws_eqRegister.g.pms))) = evC (laws_eqRegister.E k) (fun κ s => lhOf k κ s laws_eqRegister.pts) b22 (OM.start laws_eqRegister.g.pms 0 (a0, a1, ())) (OM.fin laws_eqRegister.g Tryz.f22.results.toList) := by kernel_rfl
theorem laws_eqRegister.ok (k : Nat) : SmOk Tryz.prog (laws_eqRegister.sm k) :=
  sm_ok mixed (E := laws_eqRegister.E) (pts := laws_eqRegister.pts) (fun k => ⟨⟨tysOk, by kernel_rfl⟩, forall_cons ⟨laws_eqEraS.ok k, e52⟩ (forall_nil)⟩) (fun _ => rfl) (fun _ => rfl)
    ⟨Tryz.func22, by kernel_rfl, by kernel_rfl, by kernel_rfl, by kernel_rfl, by kernel_rfl, by kernel_rfl⟩ (forall_nil) (fun k x => laws_eqRegister.hf k x.1 x.2.1) k
noncomputable def b97 : Code := Tryz.f97.body.getD .skip
theorem e97 : OM.Entry Tryz.prog 97 := ⟨_, Tryz.func97, by kernel_rfl, by kernel_rfl⟩
@[reducible] noncomputable def laws_eqWord.g : Sig := ⟨[.fz tWord, .fz tWord], [.v .bool .z], []⟩
@[reducible] noncomputable def laws_eqWord.fk : Nat → denI laws_eqWord.g.pms → Option (denR (outTys laws_eqWord.g.rts laws_eqWord.g.pms)) := fun k x => laws_eqWord.f k x.1 x.2.1
@[reducible] noncomputable def laws_eqWord.sm (k : Nat) : Sm := ⟨97, laws_eqWord.g.pms, laws_eqWord.g.rts, laws_eqWord.fk k⟩
noncomputable def laws_eqWord.E (k : Nat) : Env := ⟨tys, [laws_eqIntS.sm k], [], [], [4]⟩
noncomputable def laws_eqWord.pts : List (Pt (denR (outTys laws_eqWord.g.rts laws_eqWord.g.pms))) := []
theorem laws_eqWord.hf (k : Nat) (a0 : Word) (a1 : Word) : (laws_eqWord.f k a0 a1 : Option (denR (outTys laws_eqWord.g.rts laws_eqWord.g.pms))) = evC (laws_eqWord.E k) (fun κ s => lhOf k κ s laws_eqWord.pts) b97 (OM.start laws_eqWord.g.pms 0 (a0, a1, ())) (OM.fin laws_eqWord.g Tryz.f97.results.toList) := by kernel_rfl
theorem laws_eqWord.ok (k : Nat) : SmOk Tryz.prog (laws_eqWord.sm k) :=
  sm_ok mixed (E := laws_eqWord.E) (pts := laws_eqWord.pts) (fun k => ⟨⟨tysOk, by kernel_rfl⟩, forall_cons ⟨laws_eqIntS.ok k, e21⟩ (forall_nil)⟩) (fun _ => rfl) (fun _ => rfl)
    ⟨Tryz.func97, by kernel_rfl, by kernel_rfl, by kernel_rfl, by kernel_rfl, by kernel_rfl, by kernel_rfl⟩ (forall_nil) (fun k x => laws_eqWord.hf k x.1 x.2.1) k
noncomputable def b83 : Code := Tryz.f83.body.getD .skip
theorem e83 : OM.Entry Tryz.prog 83 := ⟨_, Tryz.func83, by kernel_rfl, by kernel_rfl⟩
@[reducible] noncomputable def laws_eqWordS.g : Sig := ⟨[.fz (.sl tWord), .fz (.sl tWord)], [.v .bool .z], []⟩
@[reducible] noncomputable def laws_eqWordS.fk : Nat → denI laws_eqWordS.g.pms → Option (denR (outTys laws_eqWordS.g.rts laws_eqWordS.g.pms)) := fun k x => laws_eqWordS.f k x.1 x.2.1
@[reducible] noncomputable def laws_eqWordS.sm (k : Nat) : Sm := ⟨83, laws_eqWordS.g.pms, laws_eqWordS.g.rts, laws_eqWordS.fk k⟩
noncomputable def laws_eqWordS.E (k : Nat) : Env := ⟨tys, [laws_eqWord.sm k], [], [], []⟩
@[reducible] noncomputable def laws_eqWordS.s9 : List Slot := [.v 0 (.sl tWord) .z [] 0, .v 4 (.sl tWord) .z [] 0, .v 20 (.int .i64) .z [] 0]
noncomputable def laws_eqWordS.pts : List (Pt (denR (outTys laws_eqWordS.g.rts laws_eqWordS.g.pms))) := [⟨9, laws_eqWordS.s9, fun k x => laws_eqWordS.p9 k x.1 x.2.1 x.2.2.1⟩]
theorem laws_eqWordS.h9 (k : Nat) (x0 : (List Word)) (x1 : (List Word)) (x2 : Int) : (laws_eqWordS.p9 (k + 1) x0 x1 x2 : Option (denR (outTys laws_eqWordS.g.rts laws_eqWordS.g.pms))) = evAt (laws_eqWordS.E k) (fun κ s => lhOf k κ s laws_eqWordS.pts) 9 b83 (unproj laws_eqWordS.s9 (x0, x1, x2, ())) (OM.fin laws_eqWordS.g Tryz.f83.results.toList) := by kernel_rfl
theorem laws_eqWordS.hf (k : Nat) (a0 : (List Word)) (a1 : (List Word)) : (laws_eqWordS.f k a0 a1 : Option (denR (outTys laws_eqWordS.g.rts laws_eqWordS.g.pms))) = evC (laws_eqWordS.E k) (fun κ s => lhOf k κ s laws_eqWordS.pts) b83 (OM.start laws_eqWordS.g.pms 0 (a0, a1, ())) (OM.fin laws_eqWordS.g Tryz.f83.results.toList) := by kernel_rfl
theorem laws_eqWordS.ok (k : Nat) : SmOk Tryz.prog (laws_eqWordS.sm k) :=
  sm_ok mixed (E := laws_eqWordS.E) (pts := laws_eqWordS.pts) (fun k => ⟨⟨tysOk, by kernel_rfl⟩, forall_cons ⟨laws_eqWord.ok k, e97⟩ (forall_nil)⟩) (fun _ => rfl) (fun _ => rfl)
    ⟨Tryz.func83, by kernel_rfl, by kernel_rfl, by kernel_rfl, by kernel_rfl, by kernel_rfl, by kernel_rfl⟩ (forall_cons (fun x => ⟨rfl, fun k => laws_eqWordS.h9 k x.1 x.2.1 x.2.2.1⟩) (forall_nil)) (fun k x => laws_eqWordS.hf k x.1 x.2.1) k
noncomputable def b53 : Code := Tryz.f53.body.getD .skip
theorem e53 : OM.Entry Tryz.prog 53 := ⟨_, Tryz.func53, by kernel_rfl, by kernel_rfl⟩
@[reducible] noncomputable def laws_eqWriter.g : Sig := ⟨[.fz tWriter, .fz tWriter], [.v .bool .z], []⟩
@[reducible] noncomputable def laws_eqWriter.fk : Nat → denI laws_eqWriter.g.pms → Option (denR (outTys laws_eqWriter.g.rts laws_eqWriter.g.pms)) := fun k x => laws_eqWriter.f k x.1 x.2.1
@[reducible] noncomputable def laws_eqWriter.sm (k : Nat) : Sm := ⟨53, laws_eqWriter.g.pms, laws_eqWriter.g.rts, laws_eqWriter.fk k⟩
noncomputable def laws_eqWriter.E (k : Nat) : Env := ⟨tys, [laws_eqWordS.sm k], [], [], []⟩
noncomputable def laws_eqWriter.pts : List (Pt (denR (outTys laws_eqWriter.g.rts laws_eqWriter.g.pms))) := []
theorem laws_eqWriter.hf (k : Nat) (a0 : Writer) (a1 : Writer) : (laws_eqWriter.f k a0 a1 : Option (denR (outTys laws_eqWriter.g.rts laws_eqWriter.g.pms))) = evC (laws_eqWriter.E k) (fun κ s => lhOf k κ s laws_eqWriter.pts) b53 (OM.start laws_eqWriter.g.pms 0 (a0, a1, ())) (OM.fin laws_eqWriter.g Tryz.f53.results.toList) := by kernel_rfl
theorem laws_eqWriter.ok (k : Nat) : SmOk Tryz.prog (laws_eqWriter.sm k) :=
  sm_ok mixed (E := laws_eqWriter.E) (pts := laws_eqWriter.pts) (fun k => ⟨⟨tysOk, by kernel_rfl⟩, forall_cons ⟨laws_eqWordS.ok k, e83⟩ (forall_nil)⟩) (fun _ => rfl) (fun _ => rfl)
    ⟨Tryz.func53, by kernel_rfl, by kernel_rfl, by kernel_rfl, by kernel_rfl, by kernel_rfl, by kernel_rfl⟩ (forall_nil) (fun k x => laws_eqWriter.hf k x.1 x.2.1) k
noncomputable def b23 : Code := Tryz.f23.body.getD .skip
theorem e23 : OM.Entry Tryz.prog 23 := ⟨_, Tryz.func23, by kernel_rfl, by kernel_rfl⟩
@[reducible] noncomputable def laws_eqWriterS.g : Sig := ⟨[.fz (.sl tWriter), .fz (.sl tWriter)], [.v .bool .z], []⟩
@[reducible] noncomputable def laws_eqWriterS.fk : Nat → denI laws_eqWriterS.g.pms → Option (denR (outTys laws_eqWriterS.g.rts laws_eqWriterS.g.pms)) := fun k x => laws_eqWriterS.f k x.1 x.2.1
@[reducible] noncomputable def laws_eqWriterS.sm (k : Nat) : Sm := ⟨23, laws_eqWriterS.g.pms, laws_eqWriterS.g.rts, laws_eqWriterS.fk k⟩
noncomputable def laws_eqWriterS.E (k : Nat) : Env := ⟨tys, [laws_eqWriter.sm k], [], [], []⟩
@[reducible] noncomputable def laws_eqWriterS.s9 : List Slot := [.v 0 (.sl tWriter) .z [] 0, .v 4 (.sl tWriter) .z [] 0, .v 20 (.int .i64) .z [] 0]
noncomputable def laws_eqWriterS.pts : List (Pt (denR (outTys laws_eqWriterS.g.rts laws_eqWriterS.g.pms))) := [⟨9, laws_eqWriterS.s9, fun k x => laws_eqWriterS.p9 k x.1 x.2.1 x.2.2.1⟩]
theorem laws_eqWriterS.h9 (k : Nat) (x0 : (List Writer)) (x1 : (List Writer)) (x2 : Int) : (laws_eqWriterS.p9 (k + 1) x0 x1 x2 : Option (denR (outTys laws_eqWriterS.g.rts laws_eqWriterS.g.pms))) = evAt (laws_eqWriterS.E k) (fun κ s => lhOf k κ s laws_eqWriterS.pts) 9 b23 (unproj laws_eqWriterS.s9 (x0, x1, x2, ())) (OM.fin laws_eqWriterS.g Tryz.f23.results.toList) := by kernel_rfl
theorem laws_eqWriterS.hf (k : Nat) (a0 : (List Writer)) (a1 : (List Writer)) : (laws_eqWriterS.f k a0 a1 : Option (denR (outTys laws_eqWriterS.g.rts laws_eqWriterS.g.pms))) = evC (laws_eqWriterS.E k) (fun κ s => lhOf k κ s laws_eqWriterS.pts) b23 (OM.start laws_eqWriterS.g.pms 0 (a0, a1, ())) (OM.fin laws_eqWriterS.g Tryz.f23.results.toList) := by kernel_rfl
theorem laws_eqWriterS.ok (k : Nat) : SmOk Tryz.prog (laws_eqWriterS.sm k) :=
  sm_ok mixed (E := laws_eqWriterS.E) (pts := laws_eqWriterS.pts) (fun k => ⟨⟨tysOk, by kernel_rfl⟩, forall_cons ⟨laws_eqWriter.ok k, e53⟩ (forall_nil)⟩) (fun _ => rfl) (fun _ => rfl)
    ⟨Tryz.func23, by kernel_rfl, by kernel_rfl, by kernel_rfl, by kernel_rfl, by kernel_rfl, by kernel_rfl⟩ (forall_cons (fun x => ⟨rfl, fun k => laws_eqWriterS.h9 k x.1 x.2.1 x.2.2.1⟩) (forall_nil)) (fun k x => laws_eqWriterS.hf k x.1 x.2.1) k
noncomputable def b84 : Code := Tryz.f84.body.getD .skip
theorem e84 : OM.Entry Tryz.prog 84 := ⟨_, Tryz.func84, by kernel_rfl, by kernel_rfl⟩
@[reducible] noncomputable def laws_eqIntSS.g : Sig := ⟨[.fz (.sl (.sl (.int .i64))), .fz (.sl (.sl (.int .i64)))], [.v .bool .z], []⟩
@[reducible] noncomputable def laws_eqIntSS.fk : Nat → denI laws_eqIntSS.g.pms → Option (denR (outTys laws_eqIntSS.g.rts laws_eqIntSS.g.pms)) := fun k x => laws_eqIntSS.f k x.1 x.2.1
@[reducible] noncomputable def laws_eqIntSS.sm (k : Nat) : Sm := ⟨84, laws_eqIntSS.g.pms, laws_eqIntSS.g.rts, laws_eqIntSS.fk k⟩
noncomputable def laws_eqIntSS.E (k : Nat) : Env := ⟨tys, [laws_eqIntS.sm k], [], [], []⟩
@[reducible] noncomputable def laws_eqIntSS.s9 : List Slot := [.v 0 (.sl (.sl (.int .i64))) .z [] 0, .v 4 (.sl (.sl (.int .i64))) .z [] 0, .v 20 (.int .i64) .z [] 0]
noncomputable def laws_eqIntSS.pts : List (Pt (denR (outTys laws_eqIntSS.g.rts laws_eqIntSS.g.pms))) := [⟨9, laws_eqIntSS.s9, fun k x => laws_eqIntSS.p9 k x.1 x.2.1 x.2.2.1⟩]
theorem laws_eqIntSS.h9 (k : Nat) (x0 : (List (List Int))) (x1 : (List (List Int))) (x2 : Int) : (laws_eqIntSS.p9 (k + 1) x0 x1 x2 : Option (denR (outTys laws_eqIntSS.g.rts laws_eqIntSS.g.pms))) = evAt (laws_eqIntSS.E k) (fun κ s => lhOf k κ s laws_eqIntSS.pts) 9 b84 (unproj laws_eqIntSS.s9 (x0, x1, x2, ())) (OM.fin laws_eqIntSS.g Tryz.f84.results.toList) := by kernel_rfl
theorem laws_eqIntSS.hf (k : Nat) (a0 : (List (List Int))) (a1 : (List (List Int))) : (laws_eqIntSS.f k a0 a1 : Option (denR (outTys laws_eqIntSS.g.rts laws_eqIntSS.g.pms))) = evC (laws_eqIntSS.E k) (fun κ s => lhOf k κ s laws_eqIntSS.pts) b84 (OM.start laws_eqIntSS.g.pms 0 (a0, a1, ())) (OM.fin laws_eqIntSS.g Tryz.f84.results.toList) := by kernel_rfl
theorem laws_eqIntSS.ok (k : Nat) : SmOk Tryz.prog (laws_eqIntSS.sm k) :=
  sm_ok mixed (E := laws_eqIntSS.E) (pts := laws_eqIntSS.pts) (fun k => ⟨⟨tysOk, by kernel_rfl⟩, forall_cons ⟨laws_eqIntS.ok k, e21⟩ (forall_nil)⟩) (fun _ => rfl) (fun _ => rfl)
    ⟨Tryz.func84, by kernel_rfl, by kernel_rfl, by kernel_rfl, by kernel_rfl, by kernel_rfl, by kernel_rfl⟩ (forall_cons (fun x => ⟨rfl, fun k => laws_eqIntSS.h9 k x.1 x.2.1 x.2.2.1⟩) (forall_nil)) (fun k x => laws_eqIntSS.hf k x.1 x.2.1) k
noncomputable def b54 : Code := Tryz.f54.body.getD .skip
theorem e54 : OM.Entry Tryz.prog 54 := ⟨_, Tryz.func54, by kernel_rfl, by kernel_rfl⟩
@[reducible] noncomputable def laws_eqMend.g : Sig := ⟨[.fz tMend, .fz tMend], [.v .bool .z], []⟩
@[reducible] noncomputable def laws_eqMend.fk : Nat → denI laws_eqMend.g.pms → Option (denR (outTys laws_eqMend.g.rts laws_eqMend.g.pms)) := fun k x => laws_eqMend.f k x.1 x.2.1
@[reducible] noncomputable def laws_eqMend.sm (k : Nat) : Sm := ⟨54, laws_eqMend.g.pms, laws_eqMend.g.rts, laws_eqMend.fk k⟩
noncomputable def laws_eqMend.E (k : Nat) : Env := ⟨tys, [laws_eqIntS.sm k, laws_eqEntryS.sm k, laws_eqIntSS.sm k], [], [], [4]⟩
noncomputable def laws_eqMend.pts : List (Pt (denR (outTys laws_eqMend.g.rts laws_eqMend.g.pms))) := []
theorem laws_eqMend.hf (k : Nat) (a0 : Mend) (a1 : Mend) : (laws_eqMend.f k a0 a1 : Option (denR (outTys laws_eqMend.g.rts laws_eqMend.g.pms))) = evC (laws_eqMend.E k) (fun κ s => lhOf k κ s laws_eqMend.pts) b54 (OM.start laws_eqMend.g.pms 0 (a0, a1, ())) (OM.fin laws_eqMend.g Tryz.f54.results.toList) := by kernel_rfl
theorem laws_eqMend.ok (k : Nat) : SmOk Tryz.prog (laws_eqMend.sm k) :=
  sm_ok mixed (E := laws_eqMend.E) (pts := laws_eqMend.pts) (fun k => ⟨⟨tysOk, by kernel_rfl⟩, forall_cons ⟨laws_eqIntS.ok k, e21⟩ (forall_cons ⟨laws_eqEntryS.ok k, e81⟩ (forall_cons ⟨laws_eqIntSS.ok k, e84⟩ (forall_nil)))⟩) (fun _ => rfl) (fun _ => rfl)
    ⟨Tryz.func54, by kernel_rfl, by kernel_rfl, by kernel_rfl, by kernel_rfl, by kernel_rfl, by kernel_rfl⟩ (forall_nil) (fun k x => laws_eqMend.hf k x.1 x.2.1) k
noncomputable def b24 : Code := Tryz.f24.body.getD .skip
theorem e24 : OM.Entry Tryz.prog 24 := ⟨_, Tryz.func24, by kernel_rfl, by kernel_rfl⟩
@[reducible] noncomputable def laws_eqMendS.g : Sig := ⟨[.fz (.sl tMend), .fz (.sl tMend)], [.v .bool .z], []⟩
@[reducible] noncomputable def laws_eqMendS.fk : Nat → denI laws_eqMendS.g.pms → Option (denR (outTys laws_eqMendS.g.rts laws_eqMendS.g.pms)) := fun k x => laws_eqMendS.f k x.1 x.2.1
@[reducible] noncomputable def laws_eqMendS.sm (k : Nat) : Sm := ⟨24, laws_eqMendS.g.pms, laws_eqMendS.g.rts, laws_eqMendS.fk k⟩
noncomputable def laws_eqMendS.E (k : Nat) : Env := ⟨tys, [laws_eqMend.sm k], [], [], []⟩
@[reducible] noncomputable def laws_eqMendS.s9 : List Slot := [.v 0 (.sl tMend) .z [] 0, .v 4 (.sl tMend) .z [] 0, .v 20 (.int .i64) .z [] 0]
noncomputable def laws_eqMendS.pts : List (Pt (denR (outTys laws_eqMendS.g.rts laws_eqMendS.g.pms))) := [⟨9, laws_eqMendS.s9, fun k x => laws_eqMendS.p9 k x.1 x.2.1 x.2.2.1⟩]
theorem laws_eqMendS.h9 (k : Nat) (x0 : (List Mend)) (x1 : (List Mend)) (x2 : Int) : (laws_eqMendS.p9 (k + 1) x0 x1 x2 : Option (denR (outTys laws_eqMendS.g.rts laws_eqMendS.g.pms))) = evAt (laws_eqMendS.E k) (fun κ s => lhOf k κ s laws_eqMendS.pts) 9 b24 (unproj laws_eqMendS.s9 (x0, x1, x2, ())) (OM.fin laws_eqMendS.g Tryz.f24.results.toList) := by kernel_rfl
theorem laws_eqMendS.hf (k : Nat) (a0 : (List Mend)) (a1 : (List Mend)) : (laws_eqMendS.f k a0 a1 : Option (denR (outTys laws_eqMendS.g.rts laws_eqMendS.g.pms))) = evC (laws_eqMendS.E k) (fun κ s => lhOf k κ s laws_eqMendS.pts) b24 (OM.start laws_eqMendS.g.pms 0 (a0, a1, ())) (OM.fin laws_eqMendS.g Tryz.f24.results.toList) := by kernel_rfl
theorem laws_eqMendS.ok (k : Nat) : SmOk Tryz.prog (laws_eqMendS.sm k) :=
  sm_ok mixed (E := laws_eqMendS.E) (pts := laws_eqMendS.pts) (fun k => ⟨⟨tysOk, by kernel_rfl⟩, forall_cons ⟨laws_eqMend.ok k, e54⟩ (forall_nil)⟩) (fun _ => rfl) (fun _ => rfl)
    ⟨Tryz.func24, by kernel_rfl, by kernel_rfl, by kernel_rfl, by kernel_rfl, by kernel_rfl, by kernel_rfl⟩ (forall_cons (fun x => ⟨rfl, fun k => laws_eqMendS.h9 k x.1 x.2.1 x.2.2.1⟩) (forall_nil)) (fun k x => laws_eqMendS.hf k x.1 x.2.1) k
noncomputable def b98 : Code := Tryz.f98.body.getD .skip
theorem e98 : OM.Entry Tryz.prog 98 := ⟨_, Tryz.func98, by kernel_rfl, by kernel_rfl⟩
@[reducible] noncomputable def laws_eqEvent.g : Sig := ⟨[.fz tEvent, .fz tEvent], [.v .bool .z], []⟩
@[reducible] noncomputable def laws_eqEvent.fk : Nat → denI laws_eqEvent.g.pms → Option (denR (outTys laws_eqEvent.g.rts laws_eqEvent.g.pms)) := fun k x => laws_eqEvent.f x.1 x.2.1
@[reducible] noncomputable def laws_eqEvent.sm (k : Nat) : Sm := ⟨98, laws_eqEvent.g.pms, laws_eqEvent.g.rts, laws_eqEvent.fk k⟩
noncomputable def laws_eqEvent.E (k : Nat) : Env := ⟨tys, [], [], [], []⟩
noncomputable def laws_eqEvent.pts : List (Pt (denR (outTys laws_eqEvent.g.rts laws_eqEvent.g.pms))) := []
theorem laws_eqEvent.hf (k : Nat) (a0 : Event) (a1 : Event) : (laws_eqEvent.f a0 a1 : Option (denR (outTys laws_eqEvent.g.rts laws_eqEvent.g.pms))) = evC (laws_eqEvent.E k) (fun κ s => lhOf k κ s laws_eqEvent.pts) b98 (OM.start laws_eqEvent.g.pms 0 (a0, a1, ())) (OM.fin laws_eqEvent.g Tryz.f98.results.toList) := by kernel_rfl
theorem laws_eqEvent.ok (k : Nat) : SmOk Tryz.prog (laws_eqEvent.sm k) :=
  sm_ok mixed (E := laws_eqEvent.E) (pts := laws_eqEvent.pts) (fun k => ⟨⟨tysOk, by kernel_rfl⟩, forall_nil⟩) (fun _ => rfl) (fun _ => rfl)
    ⟨Tryz.func98, by kernel_rfl, by kernel_rfl, by kernel_rfl, by kernel_rfl, by kernel_rfl, by kernel_rfl⟩ (forall_nil) (fun k x => laws_eqEvent.hf k x.1 x.2.1) k
noncomputable def b85 : Code := Tryz.f85.body.getD .skip
theorem e85 : OM.Entry Tryz.prog 85 := ⟨_, Tryz.func85, by kernel_rfl, by kernel_rfl⟩
@[reducible] noncomputable def laws_eqEventS.g : Sig := ⟨[.fz (.sl tEvent), .fz (.sl tEvent)], [.v .bool .z], []⟩
@[reducible] noncomputable def laws_eqEventS.fk : Nat → denI laws_eqEventS.g.pms → Option (denR (outTys laws_eqEventS.g.rts laws_eqEventS.g.pms)) := fun k x => laws_eqEventS.f k x.1 x.2.1
@[reducible] noncomputable def laws_eqEventS.sm (k : Nat) : Sm := ⟨85, laws_eqEventS.g.pms, laws_eqEventS.g.rts, laws_eqEventS.fk k⟩
noncomputable def laws_eqEventS.E (k : Nat) : Env := ⟨tys, [laws_eqEvent.sm k], [], [], []⟩
@[reducible] noncomputable def laws_eqEventS.s9 : List Slot := [.v 0 (.sl tEvent) .z [] 0, .v 4 (.sl tEvent) .z [] 0, .v 20 (.int .i64) .z [] 0]
noncomputable def laws_eqEventS.pts : List (Pt (denR (outTys laws_eqEventS.g.rts laws_eqEventS.g.pms))) := [⟨9, laws_eqEventS.s9, fun k x => laws_eqEventS.p9 k x.1 x.2.1 x.2.2.1⟩]
theorem laws_eqEventS.h9 (k : Nat) (x0 : (List Event)) (x1 : (List Event)) (x2 : Int) : (laws_eqEventS.p9 (k + 1) x0 x1 x2 : Option (denR (outTys laws_eqEventS.g.rts laws_eqEventS.g.pms))) = evAt (laws_eqEventS.E k) (fun κ s => lhOf k κ s laws_eqEventS.pts) 9 b85 (unproj laws_eqEventS.s9 (x0, x1, x2, ())) (OM.fin laws_eqEventS.g Tryz.f85.results.toList) := by kernel_rfl
theorem laws_eqEventS.hf (k : Nat) (a0 : (List Event)) (a1 : (List Event)) : (laws_eqEventS.f k a0 a1 : Option (denR (outTys laws_eqEventS.g.rts laws_eqEventS.g.pms))) = evC (laws_eqEventS.E k) (fun κ s => lhOf k κ s laws_eqEventS.pts) b85 (OM.start laws_eqEventS.g.pms 0 (a0, a1, ())) (OM.fin laws_eqEventS.g Tryz.f85.results.toList) := by kernel_rfl
theorem laws_eqEventS.ok (k : Nat) : SmOk Tryz.prog (laws_eqEventS.sm k) :=
  sm_ok mixed (E := laws_eqEventS.E) (pts := laws_eqEventS.pts) (fun k => ⟨⟨tysOk, by kernel_rfl⟩, forall_cons ⟨laws_eqEvent.ok k, e98⟩ (forall_nil)⟩) (fun _ => rfl) (fun _ => rfl)
    ⟨Tryz.func85, by kernel_rfl, by kernel_rfl, by kernel_rfl, by kernel_rfl, by kernel_rfl, by kernel_rfl⟩ (forall_cons (fun x => ⟨rfl, fun k => laws_eqEventS.h9 k x.1 x.2.1 x.2.2.1⟩) (forall_nil)) (fun k x => laws_eqEventS.hf k x.1 x.2.1) k
noncomputable def b55 : Code := Tryz.f55.body.getD .skip
theorem e55 : OM.Entry Tryz.prog 55 := ⟨_, Tryz.func55, by kernel_rfl, by kernel_rfl⟩
@[reducible] noncomputable def laws_eqReader.g : Sig := ⟨[.fz tReader, .fz tReader], [.v .bool .z], []⟩
@[reducible] noncomputable def laws_eqReader.fk : Nat → denI laws_eqReader.g.pms → Option (denR (outTys laws_eqReader.g.rts laws_eqReader.g.pms)) := fun k x => laws_eqReader.f k x.1 x.2.1
@[reducible] noncomputable def laws_eqReader.sm (k : Nat) : Sm := ⟨55, laws_eqReader.g.pms, laws_eqReader.g.rts, laws_eqReader.fk k⟩
noncomputable def laws_eqReader.E (k : Nat) : Env := ⟨tys, [laws_eqEventS.sm k], [], [], []⟩
noncomputable def laws_eqReader.pts : List (Pt (denR (outTys laws_eqReader.g.rts laws_eqReader.g.pms))) := []
theorem laws_eqReader.hf (k : Nat) (a0 : Reader) (a1 : Reader) : (laws_eqReader.f k a0 a1 : Option (denR (outTys laws_eqReader.g.rts laws_eqReader.g.pms))) = evC (laws_eqReader.E k) (fun κ s => lhOf k κ s laws_eqReader.pts) b55 (OM.start laws_eqReader.g.pms 0 (a0, a1, ())) (OM.fin laws_eqReader.g Tryz.f55.results.toList) := by kernel_rfl
theorem laws_eqReader.ok (k : Nat) : SmOk Tryz.prog (laws_eqReader.sm k) :=
  sm_ok mixed (E := laws_eqReader.E) (pts := laws_eqReader.pts) (fun k => ⟨⟨tysOk, by kernel_rfl⟩, forall_cons ⟨laws_eqEventS.ok k, e85⟩ (forall_nil)⟩) (fun _ => rfl) (fun _ => rfl)
    ⟨Tryz.func55, by kernel_rfl, by kernel_rfl, by kernel_rfl, by kernel_rfl, by kernel_rfl, by kernel_rfl⟩ (forall_nil) (fun k x => laws_eqReader.hf k x.1 x.2.1) k
noncomputable def b25 : Code := Tryz.f25.body.getD .skip
theorem e25 : OM.Entry Tryz.prog 25 := ⟨_, Tryz.func25, by kernel_rfl, by kernel_rfl⟩
@[reducible] noncomputable def laws_eqReaderS.g : Sig := ⟨[.fz (.sl tReader), .fz (.sl tReader)], [.v .bool .z], []⟩
@[reducible] noncomputable def laws_eqReaderS.fk : Nat → denI laws_eqReaderS.g.pms → Option (denR (outTys laws_eqReaderS.g.rts laws_eqReaderS.g.pms)) := fun k x => laws_eqReaderS.f k x.1 x.2.1
@[reducible] noncomputable def laws_eqReaderS.sm (k : Nat) : Sm := ⟨25, laws_eqReaderS.g.pms, laws_eqReaderS.g.rts, laws_eqReaderS.fk k⟩
noncomputable def laws_eqReaderS.E (k : Nat) : Env := ⟨tys, [laws_eqReader.sm k], [], [], []⟩
@[reducible] noncomputable def laws_eqReaderS.s9 : List Slot := [.v 0 (.sl tReader) .z [] 0, .v 4 (.sl tReader) .z [] 0, .v 20 (.int .i64) .z [] 0]
noncomputable def laws_eqReaderS.pts : List (Pt (denR (outTys laws_eqReaderS.g.rts laws_eqReaderS.g.pms))) := [⟨9, laws_eqReaderS.s9, fun k x => laws_eqReaderS.p9 k x.1 x.2.1 x.2.2.1⟩]
theorem laws_eqReaderS.h9 (k : Nat) (x0 : (List Reader)) (x1 : (List Reader)) (x2 : Int) : (laws_eqReaderS.p9 (k + 1) x0 x1 x2 : Option (denR (outTys laws_eqReaderS.g.rts laws_eqReaderS.g.pms))) = evAt (laws_eqReaderS.E k) (fun κ s => lhOf k κ s laws_eqReaderS.pts) 9 b25 (unproj laws_eqReaderS.s9 (x0, x1, x2, ())) (OM.fin laws_eqReaderS.g Tryz.f25.results.toList) := by kernel_rfl
theorem laws_eqReaderS.hf (k : Nat) (a0 : (List Reader)) (a1 : (List Reader)) : (laws_eqReaderS.f k a0 a1 : Option (denR (outTys laws_eqReaderS.g.rts laws_eqReaderS.g.pms))) = evC (laws_eqReaderS.E k) (fun κ s => lhOf k κ s laws_eqReaderS.pts) b25 (OM.start laws_eqReaderS.g.pms 0 (a0, a1, ())) (OM.fin laws_eqReaderS.g Tryz.f25.results.toList) := by kernel_rfl
theorem laws_eqReaderS.ok (k : Nat) : SmOk Tryz.prog (laws_eqReaderS.sm k) :=
  sm_ok mixed (E := laws_eqReaderS.E) (pts := laws_eqReaderS.pts) (fun k => ⟨⟨tysOk, by kernel_rfl⟩, forall_cons ⟨laws_eqReader.ok k, e55⟩ (forall_nil)⟩) (fun _ => rfl) (fun _ => rfl)
    ⟨Tryz.func25, by kernel_rfl, by kernel_rfl, by kernel_rfl, by kernel_rfl, by kernel_rfl, by kernel_rfl⟩ (forall_cons (fun x => ⟨rfl, fun k => laws_eqReaderS.h9 k x.1 x.2.1 x.2.2.1⟩) (forall_nil)) (fun k x => laws_eqReaderS.hf k x.1 x.2.1) k
noncomputable def b56 : Code := Tryz.f56.body.getD .skip
theorem e56 : OM.Entry Tryz.prog 56 := ⟨_, Tryz.func56, by kernel_rfl, by kernel_rfl⟩
@[reducible] noncomputable def laws_eqSent.g : Sig := ⟨[.fz tSent, .fz tSent], [.v .bool .z], []⟩
@[reducible] noncomputable def laws_eqSent.fk : Nat → denI laws_eqSent.g.pms → Option (denR (outTys laws_eqSent.g.rts laws_eqSent.g.pms)) := fun k x => laws_eqSent.f x.1 x.2.1
@[reducible] noncomputable def laws_eqSent.sm (k : Nat) : Sm := ⟨56, laws_eqSent.g.pms, laws_eqSent.g.rts, laws_eqSent.fk k⟩
noncomputable def laws_eqSent.E (k : Nat) : Env := ⟨tys, [], [], [], [4]⟩
noncomputable def laws_eqSent.pts : List (Pt (denR (outTys laws_eqSent.g.rts laws_eqSent.g.pms))) := []
theorem laws_eqSent.hf (k : Nat) (a0 : Sent) (a1 : Sent) : (laws_eqSent.f a0 a1 : Option (denR (outTys laws_eqSent.g.rts laws_eqSent.g.pms))) = evC (laws_eqSent.E k) (fun κ s => lhOf k κ s laws_eqSent.pts) b56 (OM.start laws_eqSent.g.pms 0 (a0, a1, ())) (OM.fin laws_eqSent.g Tryz.f56.results.toList) := by kernel_rfl
theorem laws_eqSent.ok (k : Nat) : SmOk Tryz.prog (laws_eqSent.sm k) :=
  sm_ok mixed (E := laws_eqSent.E) (pts := laws_eqSent.pts) (fun k => ⟨⟨tysOk, by kernel_rfl⟩, forall_nil⟩) (fun _ => rfl) (fun _ => rfl)
    ⟨Tryz.func56, by kernel_rfl, by kernel_rfl, by kernel_rfl, by kernel_rfl, by kernel_rfl, by kernel_rfl⟩ (forall_nil) (fun k x => laws_eqSent.hf k x.1 x.2.1) k
noncomputable def b26 : Code := Tryz.f26.body.getD .skip
theorem e26 : OM.Entry Tryz.prog 26 := ⟨_, Tryz.func26, by kernel_rfl, by kernel_rfl⟩
@[reducible] noncomputable def laws_eqSentS.g : Sig := ⟨[.fz (.sl tSent), .fz (.sl tSent)], [.v .bool .z], []⟩
@[reducible] noncomputable def laws_eqSentS.fk : Nat → denI laws_eqSentS.g.pms → Option (denR (outTys laws_eqSentS.g.rts laws_eqSentS.g.pms)) := fun k x => laws_eqSentS.f k x.1 x.2.1
@[reducible] noncomputable def laws_eqSentS.sm (k : Nat) : Sm := ⟨26, laws_eqSentS.g.pms, laws_eqSentS.g.rts, laws_eqSentS.fk k⟩
noncomputable def laws_eqSentS.E (k : Nat) : Env := ⟨tys, [laws_eqSent.sm k], [], [], []⟩
@[reducible] noncomputable def laws_eqSentS.s9 : List Slot := [.v 0 (.sl tSent) .z [] 0, .v 4 (.sl tSent) .z [] 0, .v 20 (.int .i64) .z [] 0]
noncomputable def laws_eqSentS.pts : List (Pt (denR (outTys laws_eqSentS.g.rts laws_eqSentS.g.pms))) := [⟨9, laws_eqSentS.s9, fun k x => laws_eqSentS.p9 k x.1 x.2.1 x.2.2.1⟩]
theorem laws_eqSentS.h9 (k : Nat) (x0 : (List Sent)) (x1 : (List Sent)) (x2 : Int) : (laws_eqSentS.p9 (k + 1) x0 x1 x2 : Option (denR (outTys laws_eqSentS.g.rts laws_eqSentS.g.pms))) = evAt (laws_eqSentS.E k) (fun κ s => lhOf k κ s laws_eqSentS.pts) 9 b26 (unproj laws_eqSentS.s9 (x0, x1, x2, ())) (OM.fin laws_eqSentS.g Tryz.f26.results.toList) := by kernel_rfl
theorem laws_eqSentS.hf (k : Nat) (a0 : (List Sent)) (a1 : (List Sent)) : (laws_eqSentS.f k a0 a1 : Option (denR (outTys laws_eqSentS.g.rts laws_eqSentS.g.pms))) = evC (laws_eqSentS.E k) (fun κ s => lhOf k κ s laws_eqSentS.pts) b26 (OM.start laws_eqSentS.g.pms 0 (a0, a1, ())) (OM.fin laws_eqSentS.g Tryz.f26.results.toList) := by kernel_rfl
theorem laws_eqSentS.ok (k : Nat) : SmOk Tryz.prog (laws_eqSentS.sm k) :=
  sm_ok mixed (E := laws_eqSentS.E) (pts := laws_eqSentS.pts) (fun k => ⟨⟨tysOk, by kernel_rfl⟩, forall_cons ⟨laws_eqSent.ok k, e56⟩ (forall_nil)⟩) (fun _ => rfl) (fun _ => rfl)
    ⟨Tryz.func26, by kernel_rfl, by kernel_rfl, by kernel_rfl, by kernel_rfl, by kernel_rfl, by kernel_rfl⟩ (forall_cons (fun x => ⟨rfl, fun k => laws_eqSentS.h9 k x.1 x.2.1 x.2.2.1⟩) (forall_nil)) (fun k x => laws_eqSentS.hf k x.1 x.2.1) k
noncomputable def b8 : Code := Tryz.f8.body.getD .skip
theorem e8 : OM.Entry Tryz.prog 8 := ⟨_, Tryz.func8, by kernel_rfl, by kernel_rfl⟩
@[reducible] noncomputable def laws_eqWorld.g : Sig := ⟨[.fz tWorld, .fz tWorld], [.v .bool .z], []⟩
@[reducible] noncomputable def laws_eqWorld.fk : Nat → denI laws_eqWorld.g.pms → Option (denR (outTys laws_eqWorld.g.rts laws_eqWorld.g.pms)) := fun k x => laws_eqWorld.f k x.1 x.2.1
@[reducible] noncomputable def laws_eqWorld.sm (k : Nat) : Sm := ⟨8, laws_eqWorld.g.pms, laws_eqWorld.g.rts, laws_eqWorld.fk k⟩
noncomputable def laws_eqWorld.E (k : Nat) : Env := ⟨tys, [laws_eqIntS.sm k, laws_eqConfig.sm k, laws_eqStoreS.sm k, laws_eqRegister.sm k, laws_eqWriterS.sm k, laws_eqMendS.sm k, laws_eqReaderS.sm k, laws_eqSentS.sm k], [], [], [4]⟩
noncomputable def laws_eqWorld.pts : List (Pt (denR (outTys laws_eqWorld.g.rts laws_eqWorld.g.pms))) := []
theorem laws_eqWorld.hf (k : Nat) (a0 : World) (a1 : World) : (laws_eqWorld.f k a0 a1 : Option (denR (outTys laws_eqWorld.g.rts laws_eqWorld.g.pms))) = evC (laws_eqWorld.E k) (fun κ s => lhOf k κ s laws_eqWorld.pts) b8 (OM.start laws_eqWorld.g.pms 0 (a0, a1, ())) (OM.fin laws_eqWorld.g Tryz.f8.results.toList) := by kernel_rfl
theorem laws_eqWorld.ok (k : Nat) : SmOk Tryz.prog (laws_eqWorld.sm k) :=
  sm_ok mixed (E := laws_eqWorld.E) (pts := laws_eqWorld.pts) (fun k => ⟨⟨tysOk, by kernel_rfl⟩, forall_cons ⟨laws_eqIntS.ok k, e21⟩ (forall_cons ⟨laws_eqConfig.ok k, e9⟩ (forall_cons ⟨laws_eqStoreS.ok k, e20⟩ (forall_cons ⟨laws_eqRegister.ok k, e22⟩ (forall_cons ⟨laws_eqWriterS.ok k, e23⟩ (forall_cons ⟨laws_eqMendS.ok k, e24⟩ (forall_cons ⟨laws_eqReaderS.ok k, e25⟩ (forall_cons ⟨laws_eqSentS.ok k, e26⟩ (forall_nil))))))))⟩) (fun _ => rfl) (fun _ => rfl)
    ⟨Tryz.func8, by kernel_rfl, by kernel_rfl, by kernel_rfl, by kernel_rfl, by kernel_rfl, by kernel_rfl⟩ (forall_nil) (fun k x => laws_eqWorld.hf k x.1 x.2.1) k
noncomputable def b27 : Code := Tryz.f27.body.getD .skip
theorem e27 : OM.Entry Tryz.prog 27 := ⟨_, Tryz.func27, by kernel_rfl, by kernel_rfl⟩
@[reducible] noncomputable def laws_markIntS.g : Sig := ⟨[.mut (.sl (.int .i64)) (.own .z), .fz (.int .i64)], [.v (.int .i64) .z], [0]⟩
@[reducible] noncomputable def laws_markIntS.fk : Nat → denI laws_markIntS.g.pms → Option (denR (outTys laws_markIntS.g.rts laws_markIntS.g.pms)) := fun k x => laws_markIntS.f k x.1 x.2.1
@[reducible] noncomputable def laws_markIntS.sm (k : Nat) : Sm := ⟨27, laws_markIntS.g.pms, laws_markIntS.g.rts, laws_markIntS.fk k⟩
noncomputable def laws_markIntS.E (k : Nat) : Env := ⟨tys, [], [], [], []⟩
@[reducible] noncomputable def laws_markIntS.s5 : List Slot := [.v 0 (.sl (.int .i64)) (.own .z) [] 1, .v 4 (.int .i64) .z [] 0, .v 20 (.int .i64) .z [] 0]
noncomputable def laws_markIntS.pts : List (Pt (denR (outTys laws_markIntS.g.rts laws_markIntS.g.pms))) := [⟨5, laws_markIntS.s5, fun k x => laws_markIntS.p5 k x.1 x.2.1 x.2.2.1⟩]
theorem laws_markIntS.h5 (k : Nat) (x0 : (List Int)) (x1 : Int) (x2 : Int) : (laws_markIntS.p5 (k + 1) x0 x1 x2 : Option (denR (outTys laws_markIntS.g.rts laws_markIntS.g.pms))) = evAt (laws_markIntS.E k) (fun κ s => lhOf k κ s laws_markIntS.pts) 5 b27 (unproj laws_markIntS.s5 (x0, x1, x2, ())) (OM.fin laws_markIntS.g Tryz.f27.results.toList) := by kernel_rfl
theorem laws_markIntS.hf (k : Nat) (a0 : (List Int)) (a1 : Int) : (laws_markIntS.f k a0 a1 : Option (denR (outTys laws_markIntS.g.rts laws_markIntS.g.pms))) = evC (laws_markIntS.E k) (fun κ s => lhOf k κ s laws_markIntS.pts) b27 (OM.start laws_markIntS.g.pms 0 (a0, a1, ())) (OM.fin laws_markIntS.g Tryz.f27.results.toList) := by kernel_rfl
theorem laws_markIntS.ok (k : Nat) : SmOk Tryz.prog (laws_markIntS.sm k) :=
  sm_ok mixed (E := laws_markIntS.E) (pts := laws_markIntS.pts) (fun k => ⟨⟨tysOk, by kernel_rfl⟩, forall_nil⟩) (fun _ => rfl) (fun _ => rfl)
    ⟨Tryz.func27, by kernel_rfl, by kernel_rfl, by kernel_rfl, by kernel_rfl, by kernel_rfl, by kernel_rfl⟩ (forall_cons (fun x => ⟨rfl, fun k => laws_markIntS.h5 k x.1 x.2.1 x.2.2.1⟩) (forall_nil)) (fun k x => laws_markIntS.hf k x.1 x.2.1) k
noncomputable def b10 : Code := Tryz.f10.body.getD .skip
theorem e10 : OM.Entry Tryz.prog 10 := ⟨_, Tryz.func10, by kernel_rfl, by kernel_rfl⟩
@[reducible] noncomputable def laws_markConfig.g : Sig := ⟨[.mut tConfig (.two (.own .z) .z), .fz (.int .i64)], [.v (.int .i64) .z], [9]⟩
@[reducible] noncomputable def laws_markConfig.fk : Nat → denI laws_markConfig.g.pms → Option (denR (outTys laws_markConfig.g.rts laws_markConfig.g.pms)) := fun k x => laws_markConfig.f k x.1 x.2.1
@[reducible] noncomputable def laws_markConfig.sm (k : Nat) : Sm := ⟨10, laws_markConfig.g.pms, laws_markConfig.g.rts, laws_markConfig.fk k⟩
noncomputable def laws_markConfig.E (k : Nat) : Env := ⟨tys, [laws_markIntS.sm k], [], [], []⟩
noncomputable def laws_markConfig.pts : List (Pt (denR (outTys laws_markConfig.g.rts laws_markConfig.g.pms))) := []
theorem laws_markConfig.hf (k : Nat) (a0 : Config) (a1 : Int) : (laws_markConfig.f k a0 a1 : Option (denR (outTys laws_markConfig.g.rts laws_markConfig.g.pms))) = evC (laws_markConfig.E k) (fun κ s => lhOf k κ s laws_markConfig.pts) b10 (OM.start laws_markConfig.g.pms 0 (a0, a1, ())) (OM.fin laws_markConfig.g Tryz.f10.results.toList) := by kernel_rfl
theorem laws_markConfig.ok (k : Nat) : SmOk Tryz.prog (laws_markConfig.sm k) :=
  sm_ok mixed (E := laws_markConfig.E) (pts := laws_markConfig.pts) (fun k => ⟨⟨tysOk, by kernel_rfl⟩, forall_cons ⟨laws_markIntS.ok k, e27⟩ (forall_nil)⟩) (fun _ => rfl) (fun _ => rfl)
    ⟨Tryz.func10, by kernel_rfl, by kernel_rfl, by kernel_rfl, by kernel_rfl, by kernel_rfl, by kernel_rfl⟩ (forall_nil) (fun k x => laws_markConfig.hf k x.1 x.2.1) k
noncomputable def b62 : Code := Tryz.f62.body.getD .skip
theorem e62 : OM.Entry Tryz.prog 62 := ⟨_, Tryz.func62, by kernel_rfl, by kernel_rfl⟩
@[reducible] noncomputable def laws_markText.g : Sig := ⟨[.fz (.int .i64)], [.v .str .z], []⟩
@[reducible] noncomputable def laws_markText.fk : Nat → denI laws_markText.g.pms → Option (denR (outTys laws_markText.g.rts laws_markText.g.pms)) := fun k x => laws_markText.f k x.1
@[reducible] noncomputable def laws_markText.sm (k : Nat) : Sm := ⟨62, laws_markText.g.pms, laws_markText.g.rts, laws_markText.fk k⟩
noncomputable def laws_markText.E (k : Nat) : Env := ⟨tys, [], [], [], []⟩
@[reducible] noncomputable def laws_markText.s9 : List Slot := [.v 0 (.int .i64) .z [] 0, .v 12 .str .z [] 0]
noncomputable def laws_markText.pts : List (Pt (denR (outTys laws_markText.g.rts laws_markText.g.pms))) := [⟨9, laws_markText.s9, fun k x => laws_markText.p9 k x.1 x.2.1⟩]
theorem laws_markText.h9 (k : Nat) (x0 : Int) (x1 : ByteArray) : (laws_markText.p9 (k + 1) x0 x1 : Option (denR (outTys laws_markText.g.rts laws_markText.g.pms))) = evAt (laws_markText.E k) (fun κ s => lhOf k κ s laws_markText.pts) 9 b62 (unproj laws_markText.s9 (x0, x1, ())) (OM.fin laws_markText.g Tryz.f62.results.toList) := by kernel_rfl
theorem laws_markText.hf (k : Nat) (a0 : Int) : (laws_markText.f k a0 : Option (denR (outTys laws_markText.g.rts laws_markText.g.pms))) = evC (laws_markText.E k) (fun κ s => lhOf k κ s laws_markText.pts) b62 (OM.start laws_markText.g.pms 0 (a0, ())) (OM.fin laws_markText.g Tryz.f62.results.toList) := by kernel_rfl
theorem laws_markText.ok (k : Nat) : SmOk Tryz.prog (laws_markText.sm k) :=
  sm_ok mixed (E := laws_markText.E) (pts := laws_markText.pts) (fun k => ⟨⟨tysOk, by kernel_rfl⟩, forall_nil⟩) (fun _ => rfl) (fun _ => rfl)
    ⟨Tryz.func62, by kernel_rfl, by kernel_rfl, by kernel_rfl, by kernel_rfl, by kernel_rfl, by kernel_rfl⟩ (forall_cons (fun x => ⟨rfl, fun k => laws_markText.h9 k x.1 x.2.1⟩) (forall_nil)) (fun k x => laws_markText.hf k x.1) k
noncomputable def b57 : Code := Tryz.f57.body.getD .skip
theorem e57 : OM.Entry Tryz.prog 57 := ⟨_, Tryz.func57, by kernel_rfl, by kernel_rfl⟩
@[reducible] noncomputable def laws_markEntryS.g : Sig := ⟨[.mut (.sl tEntry) (.own .z), .fz (.int .i64)], [.v (.int .i64) .z], [0]⟩
@[reducible] noncomputable def laws_markEntryS.fk : Nat → denI laws_markEntryS.g.pms → Option (denR (outTys laws_markEntryS.g.rts laws_markEntryS.g.pms)) := fun k x => laws_markEntryS.f k x.1 x.2.1
@[reducible] noncomputable def laws_markEntryS.sm (k : Nat) : Sm := ⟨57, laws_markEntryS.g.pms, laws_markEntryS.g.rts, laws_markEntryS.fk k⟩
noncomputable def laws_markEntryS.E (k : Nat) : Env := ⟨tys, [laws_markText.sm k], [], [], []⟩
@[reducible] noncomputable def laws_markEntryS.s5 : List Slot := [.v 0 (.sl tEntry) (.own .z) [] 1, .v 4 (.int .i64) .z [] 0, .v 20 (.int .i64) .z [] 0]
noncomputable def laws_markEntryS.pts : List (Pt (denR (outTys laws_markEntryS.g.rts laws_markEntryS.g.pms))) := [⟨5, laws_markEntryS.s5, fun k x => laws_markEntryS.p5 k x.1 x.2.1 x.2.2.1⟩]
theorem laws_markEntryS.h5 (k : Nat) (x0 : (List Entry)) (x1 : Int) (x2 : Int) : (laws_markEntryS.p5 (k + 1) x0 x1 x2 : Option (denR (outTys laws_markEntryS.g.rts laws_markEntryS.g.pms))) = evAt (laws_markEntryS.E k) (fun κ s => lhOf k κ s laws_markEntryS.pts) 5 b57 (unproj laws_markEntryS.s5 (x0, x1, x2, ())) (OM.fin laws_markEntryS.g Tryz.f57.results.toList) := by kernel_rfl
theorem laws_markEntryS.hf (k : Nat) (a0 : (List Entry)) (a1 : Int) : (laws_markEntryS.f k a0 a1 : Option (denR (outTys laws_markEntryS.g.rts laws_markEntryS.g.pms))) = evC (laws_markEntryS.E k) (fun κ s => lhOf k κ s laws_markEntryS.pts) b57 (OM.start laws_markEntryS.g.pms 0 (a0, a1, ())) (OM.fin laws_markEntryS.g Tryz.f57.results.toList) := by kernel_rfl
theorem laws_markEntryS.ok (k : Nat) : SmOk Tryz.prog (laws_markEntryS.sm k) :=
  sm_ok mixed (E := laws_markEntryS.E) (pts := laws_markEntryS.pts) (fun k => ⟨⟨tysOk, by kernel_rfl⟩, forall_cons ⟨laws_markText.ok k, e62⟩ (forall_nil)⟩) (fun _ => rfl) (fun _ => rfl)
    ⟨Tryz.func57, by kernel_rfl, by kernel_rfl, by kernel_rfl, by kernel_rfl, by kernel_rfl, by kernel_rfl⟩ (forall_cons (fun x => ⟨rfl, fun k => laws_markEntryS.h5 k x.1 x.2.1 x.2.2.1⟩) (forall_nil)) (fun k x => laws_markEntryS.hf k x.1 x.2.1) k
noncomputable def b28 : Code := Tryz.f28.body.getD .skip
theorem e28 : OM.Entry Tryz.prog 28 := ⟨_, Tryz.func28, by kernel_rfl, by kernel_rfl⟩
@[reducible] noncomputable def laws_markStoreS.g : Sig := ⟨[.mut (.sl tStore) (.own (.two (.own .z) (.two (.own .z) .z))), .fz (.int .i64)], [.v (.int .i64) .z], [0]⟩
@[reducible] noncomputable def laws_markStoreS.fk : Nat → denI laws_markStoreS.g.pms → Option (denR (outTys laws_markStoreS.g.rts laws_markStoreS.g.pms)) := fun k x => laws_markStoreS.f k x.1 x.2.1
@[reducible] noncomputable def laws_markStoreS.sm (k : Nat) : Sm := ⟨28, laws_markStoreS.g.pms, laws_markStoreS.g.rts, laws_markStoreS.fk k⟩
noncomputable def laws_markStoreS.E (k : Nat) : Env := ⟨tys, [laws_markEntryS.sm k], [], [], []⟩
@[reducible] noncomputable def laws_markStoreS.s5 : List Slot := [.v 0 (.sl tStore) (.own (.two (.own .z) (.two (.own .z) .z))) [] 1, .v 4 (.int .i64) .z [] 0, .v 20 (.int .i64) .z [] 0]
noncomputable def laws_markStoreS.pts : List (Pt (denR (outTys laws_markStoreS.g.rts laws_markStoreS.g.pms))) := [⟨5, laws_markStoreS.s5, fun k x => laws_markStoreS.p5 k x.1 x.2.1 x.2.2.1⟩]
theorem laws_markStoreS.h5 (k : Nat) (x0 : (List Store)) (x1 : Int) (x2 : Int) : (laws_markStoreS.p5 (k + 1) x0 x1 x2 : Option (denR (outTys laws_markStoreS.g.rts laws_markStoreS.g.pms))) = evAt (laws_markStoreS.E k) (fun κ s => lhOf k κ s laws_markStoreS.pts) 5 b28 (unproj laws_markStoreS.s5 (x0, x1, x2, ())) (OM.fin laws_markStoreS.g Tryz.f28.results.toList) := by kernel_rfl
theorem laws_markStoreS.hf (k : Nat) (a0 : (List Store)) (a1 : Int) : (laws_markStoreS.f k a0 a1 : Option (denR (outTys laws_markStoreS.g.rts laws_markStoreS.g.pms))) = evC (laws_markStoreS.E k) (fun κ s => lhOf k κ s laws_markStoreS.pts) b28 (OM.start laws_markStoreS.g.pms 0 (a0, a1, ())) (OM.fin laws_markStoreS.g Tryz.f28.results.toList) := by kernel_rfl
theorem laws_markStoreS.ok (k : Nat) : SmOk Tryz.prog (laws_markStoreS.sm k) :=
  sm_ok mixed (E := laws_markStoreS.E) (pts := laws_markStoreS.pts) (fun k => ⟨⟨tysOk, by kernel_rfl⟩, forall_cons ⟨laws_markEntryS.ok k, e57⟩ (forall_nil)⟩) (fun _ => rfl) (fun _ => rfl)
    ⟨Tryz.func28, by kernel_rfl, by kernel_rfl, by kernel_rfl, by kernel_rfl, by kernel_rfl, by kernel_rfl⟩ (forall_cons (fun x => ⟨rfl, fun k => laws_markStoreS.h5 k x.1 x.2.1 x.2.2.1⟩) (forall_nil)) (fun k x => laws_markStoreS.hf k x.1 x.2.1) k
noncomputable def b58 : Code := Tryz.f58.body.getD .skip
theorem e58 : OM.Entry Tryz.prog 58 := ⟨_, Tryz.func58, by kernel_rfl, by kernel_rfl⟩
@[reducible] noncomputable def laws_markEraS.g : Sig := ⟨[.mut (.sl tEra) (.own (.two (.own .z) .z)), .fz (.int .i64)], [.v (.int .i64) .z], [0]⟩
@[reducible] noncomputable def laws_markEraS.fk : Nat → denI laws_markEraS.g.pms → Option (denR (outTys laws_markEraS.g.rts laws_markEraS.g.pms)) := fun k x => laws_markEraS.f k x.1 x.2.1
@[reducible] noncomputable def laws_markEraS.sm (k : Nat) : Sm := ⟨58, laws_markEraS.g.pms, laws_markEraS.g.rts, laws_markEraS.fk k⟩
noncomputable def laws_markEraS.E (k : Nat) : Env := ⟨tys, [laws_markIntS.sm k], [], [], []⟩
@[reducible] noncomputable def laws_markEraS.s5 : List Slot := [.v 0 (.sl tEra) (.own (.two (.own .z) .z)) [] 1, .v 4 (.int .i64) .z [] 0, .v 20 (.int .i64) .z [] 0]
noncomputable def laws_markEraS.pts : List (Pt (denR (outTys laws_markEraS.g.rts laws_markEraS.g.pms))) := [⟨5, laws_markEraS.s5, fun k x => laws_markEraS.p5 k x.1 x.2.1 x.2.2.1⟩]
theorem laws_markEraS.h5 (k : Nat) (x0 : (List Era)) (x1 : Int) (x2 : Int) : (laws_markEraS.p5 (k + 1) x0 x1 x2 : Option (denR (outTys laws_markEraS.g.rts laws_markEraS.g.pms))) = evAt (laws_markEraS.E k) (fun κ s => lhOf k κ s laws_markEraS.pts) 5 b58 (unproj laws_markEraS.s5 (x0, x1, x2, ())) (OM.fin laws_markEraS.g Tryz.f58.results.toList) := by kernel_rfl
theorem laws_markEraS.hf (k : Nat) (a0 : (List Era)) (a1 : Int) : (laws_markEraS.f k a0 a1 : Option (denR (outTys laws_markEraS.g.rts laws_markEraS.g.pms))) = evC (laws_markEraS.E k) (fun κ s => lhOf k κ s laws_markEraS.pts) b58 (OM.start laws_markEraS.g.pms 0 (a0, a1, ())) (OM.fin laws_markEraS.g Tryz.f58.results.toList) := by kernel_rfl
theorem laws_markEraS.ok (k : Nat) : SmOk Tryz.prog (laws_markEraS.sm k) :=
  sm_ok mixed (E := laws_markEraS.E) (pts := laws_markEraS.pts) (fun k => ⟨⟨tysOk, by kernel_rfl⟩, forall_cons ⟨laws_markIntS.ok k, e27⟩ (forall_nil)⟩) (fun _ => rfl) (fun _ => rfl)
    ⟨Tryz.func58, by kernel_rfl, by kernel_rfl, by kernel_rfl, by kernel_rfl, by kernel_rfl, by kernel_rfl⟩ (forall_cons (fun x => ⟨rfl, fun k => laws_markEraS.h5 k x.1 x.2.1 x.2.2.1⟩) (forall_nil)) (fun k x => laws_markEraS.hf k x.1 x.2.1) k
noncomputable def b29 : Code := Tryz.f29.body.getD .skip
theorem e29 : OM.Entry Tryz.prog 29 := ⟨_, Tryz.func29, by kernel_rfl, by kernel_rfl⟩
@[reducible] noncomputable def laws_markRegister.g : Sig := ⟨[.mut tRegister (.two (.own (.two (.own .z) .z)) .z), .fz (.int .i64)], [.v (.int .i64) .z], [9]⟩
@[reducible] noncomputable def laws_markRegister.fk : Nat → denI laws_markRegister.g.pms → Option (denR (outTys laws_markRegister.g.rts laws_markRegister.g.pms)) := fun k x => laws_markRegister.f k x.1 x.2.1
@[reducible] noncomputable def laws_markRegister.sm (k : Nat) : Sm := ⟨29, laws_markRegister.g.pms, laws_markRegister.g.rts, laws_markRegister.fk k⟩
noncomputable def laws_markRegister.E (k : Nat) : Env := ⟨tys, [laws_markEraS.sm k], [], [], []⟩
noncomputable def laws_markRegister.pts : List (Pt (denR (outTys laws_markRegister.g.rts laws_markRegister.g.pms))) := []
theorem laws_markRegister.hf (k : Nat) (a0 : Register) (a1 : Int) : (laws_markRegister.f k a0 a1 : Option (denR (outTys laws_markRegister.g.rts laws_markRegister.g.pms))) = evC (laws_markRegister.E k) (fun κ s => lhOf k κ s laws_markRegister.pts) b29 (OM.start laws_markRegister.g.pms 0 (a0, a1, ())) (OM.fin laws_markRegister.g Tryz.f29.results.toList) := by kernel_rfl
theorem laws_markRegister.ok (k : Nat) : SmOk Tryz.prog (laws_markRegister.sm k) :=
  sm_ok mixed (E := laws_markRegister.E) (pts := laws_markRegister.pts) (fun k => ⟨⟨tysOk, by kernel_rfl⟩, forall_cons ⟨laws_markEraS.ok k, e58⟩ (forall_nil)⟩) (fun _ => rfl) (fun _ => rfl)
    ⟨Tryz.func29, by kernel_rfl, by kernel_rfl, by kernel_rfl, by kernel_rfl, by kernel_rfl, by kernel_rfl⟩ (forall_nil) (fun k x => laws_markRegister.hf k x.1 x.2.1) k
noncomputable def b59 : Code := Tryz.f59.body.getD .skip
theorem e59 : OM.Entry Tryz.prog 59 := ⟨_, Tryz.func59, by kernel_rfl, by kernel_rfl⟩
@[reducible] noncomputable def laws_markWordS.g : Sig := ⟨[.mut (.sl tWord) (.own (.two .z (.two (.own .z) .z))), .fz (.int .i64)], [.v (.int .i64) .z], [0]⟩
@[reducible] noncomputable def laws_markWordS.fk : Nat → denI laws_markWordS.g.pms → Option (denR (outTys laws_markWordS.g.rts laws_markWordS.g.pms)) := fun k x => laws_markWordS.f k x.1 x.2.1
@[reducible] noncomputable def laws_markWordS.sm (k : Nat) : Sm := ⟨59, laws_markWordS.g.pms, laws_markWordS.g.rts, laws_markWordS.fk k⟩
noncomputable def laws_markWordS.E (k : Nat) : Env := ⟨tys, [laws_markIntS.sm k, laws_markText.sm k], [], [], []⟩
@[reducible] noncomputable def laws_markWordS.s5 : List Slot := [.v 0 (.sl tWord) (.own (.two .z (.two (.own .z) .z))) [] 1, .v 4 (.int .i64) .z [] 0, .v 20 (.int .i64) .z [] 0]
noncomputable def laws_markWordS.pts : List (Pt (denR (outTys laws_markWordS.g.rts laws_markWordS.g.pms))) := [⟨5, laws_markWordS.s5, fun k x => laws_markWordS.p5 k x.1 x.2.1 x.2.2.1⟩]
theorem laws_markWordS.h5 (k : Nat) (x0 : (List Word)) (x1 : Int) (x2 : Int) : (laws_markWordS.p5 (k + 1) x0 x1 x2 : Option (denR (outTys laws_markWordS.g.rts laws_markWordS.g.pms))) = evAt (laws_markWordS.E k) (fun κ s => lhOf k κ s laws_markWordS.pts) 5 b59 (unproj laws_markWordS.s5 (x0, x1, x2, ())) (OM.fin laws_markWordS.g Tryz.f59.results.toList) := by kernel_rfl
theorem laws_markWordS.hf (k : Nat) (a0 : (List Word)) (a1 : Int) : (laws_markWordS.f k a0 a1 : Option (denR (outTys laws_markWordS.g.rts laws_markWordS.g.pms))) = evC (laws_markWordS.E k) (fun κ s => lhOf k κ s laws_markWordS.pts) b59 (OM.start laws_markWordS.g.pms 0 (a0, a1, ())) (OM.fin laws_markWordS.g Tryz.f59.results.toList) := by kernel_rfl
theorem laws_markWordS.ok (k : Nat) : SmOk Tryz.prog (laws_markWordS.sm k) :=
  sm_ok mixed (E := laws_markWordS.E) (pts := laws_markWordS.pts) (fun k => ⟨⟨tysOk, by kernel_rfl⟩, forall_cons ⟨laws_markIntS.ok k, e27⟩ (forall_cons ⟨laws_markText.ok k, e62⟩ (forall_nil))⟩) (fun _ => rfl) (fun _ => rfl)
    ⟨Tryz.func59, by kernel_rfl, by kernel_rfl, by kernel_rfl, by kernel_rfl, by kernel_rfl, by kernel_rfl⟩ (forall_cons (fun x => ⟨rfl, fun k => laws_markWordS.h5 k x.1 x.2.1 x.2.2.1⟩) (forall_nil)) (fun k x => laws_markWordS.hf k x.1 x.2.1) k
noncomputable def b30 : Code := Tryz.f30.body.getD .skip
theorem e30 : OM.Entry Tryz.prog 30 := ⟨_, Tryz.func30, by kernel_rfl, by kernel_rfl⟩
@[reducible] noncomputable def laws_markWriterS.g : Sig := ⟨[.mut (.sl tWriter) (.own (.two .z (.two (.own (.two .z (.two (.own .z) .z))) .z))), .fz (.int .i64)], [.v (.int .i64) .z], [0]⟩
@[reducible] noncomputable def laws_markWriterS.fk : Nat → denI laws_markWriterS.g.pms → Option (denR (outTys laws_markWriterS.g.rts laws_markWriterS.g.pms)) := fun k x => laws_markWriterS.f k x.1 x.2.1
@[reducible] noncomputable def laws_markWriterS.sm (k : Nat) : Sm := ⟨30, laws_markWriterS.g.pms, laws_markWriterS.g.rts, laws_markWriterS.fk k⟩
noncomputable def laws_markWriterS.E (k : Nat) : Env := ⟨tys, [laws_markWordS.sm k], [], [], []⟩
@[reducible] noncomputable def laws_markWriterS.s5 : List Slot := [.v 0 (.sl tWriter) (.own (.two .z (.two (.own (.two .z (.two (.own .z) .z))) .z))) [] 1, .v 4 (.int .i64) .z [] 0, .v 20 (.int .i64) .z [] 0]
noncomputable def laws_markWriterS.pts : List (Pt (denR (outTys laws_markWriterS.g.rts laws_markWriterS.g.pms))) := [⟨5, laws_markWriterS.s5, fun k x => laws_markWriterS.p5 k x.1 x.2.1 x.2.2.1⟩]
theorem laws_markWriterS.h5 (k : Nat) (x0 : (List Writer)) (x1 : Int) (x2 : Int) : (laws_markWriterS.p5 (k + 1) x0 x1 x2 : Option (denR (outTys laws_markWriterS.g.rts laws_markWriterS.g.pms))) = evAt (laws_markWriterS.E k) (fun κ s => lhOf k κ s laws_markWriterS.pts) 5 b30 (unproj laws_markWriterS.s5 (x0, x1, x2, ())) (OM.fin laws_markWriterS.g Tryz.f30.results.toList) := by kernel_rfl
theorem laws_markWriterS.hf (k : Nat) (a0 : (List Writer)) (a1 : Int) : (laws_markWriterS.f k a0 a1 : Option (denR (outTys laws_markWriterS.g.rts laws_markWriterS.g.pms))) = evC (laws_markWriterS.E k) (fun κ s => lhOf k κ s laws_markWriterS.pts) b30 (OM.start laws_markWriterS.g.pms 0 (a0, a1, ())) (OM.fin laws_markWriterS.g Tryz.f30.results.toList) := by kernel_rfl
theorem laws_markWriterS.ok (k : Nat) : SmOk Tryz.prog (laws_markWriterS.sm k) :=
  sm_ok mixed (E := laws_markWriterS.E) (pts := laws_markWriterS.pts) (fun k => ⟨⟨tysOk, by kernel_rfl⟩, forall_cons ⟨laws_markWordS.ok k, e59⟩ (forall_nil)⟩) (fun _ => rfl) (fun _ => rfl)
    ⟨Tryz.func30, by kernel_rfl, by kernel_rfl, by kernel_rfl, by kernel_rfl, by kernel_rfl, by kernel_rfl⟩ (forall_cons (fun x => ⟨rfl, fun k => laws_markWriterS.h5 k x.1 x.2.1 x.2.2.1⟩) (forall_nil)) (fun k x => laws_markWriterS.hf k x.1 x.2.1) k
noncomputable def b60 : Code := Tryz.f60.body.getD .skip
theorem e60 : OM.Entry Tryz.prog 60 := ⟨_, Tryz.func60, by kernel_rfl, by kernel_rfl⟩
@[reducible] noncomputable def laws_markIntSS.g : Sig := ⟨[.mut (.sl (.sl (.int .i64))) (.own (.own .z)), .fz (.int .i64)], [.v (.int .i64) .z], [0]⟩
@[reducible] noncomputable def laws_markIntSS.fk : Nat → denI laws_markIntSS.g.pms → Option (denR (outTys laws_markIntSS.g.rts laws_markIntSS.g.pms)) := fun k x => laws_markIntSS.f k x.1 x.2.1
@[reducible] noncomputable def laws_markIntSS.sm (k : Nat) : Sm := ⟨60, laws_markIntSS.g.pms, laws_markIntSS.g.rts, laws_markIntSS.fk k⟩
noncomputable def laws_markIntSS.E (k : Nat) : Env := ⟨tys, [laws_markIntS.sm k], [], [], []⟩
@[reducible] noncomputable def laws_markIntSS.s5 : List Slot := [.v 0 (.sl (.sl (.int .i64))) (.own (.own .z)) [] 1, .v 4 (.int .i64) .z [] 0, .v 20 (.int .i64) .z [] 0]
noncomputable def laws_markIntSS.pts : List (Pt (denR (outTys laws_markIntSS.g.rts laws_markIntSS.g.pms))) := [⟨5, laws_markIntSS.s5, fun k x => laws_markIntSS.p5 k x.1 x.2.1 x.2.2.1⟩]
theorem laws_markIntSS.h5 (k : Nat) (x0 : (List (List Int))) (x1 : Int) (x2 : Int) : (laws_markIntSS.p5 (k + 1) x0 x1 x2 : Option (denR (outTys laws_markIntSS.g.rts laws_markIntSS.g.pms))) = evAt (laws_markIntSS.E k) (fun κ s => lhOf k κ s laws_markIntSS.pts) 5 b60 (unproj laws_markIntSS.s5 (x0, x1, x2, ())) (OM.fin laws_markIntSS.g Tryz.f60.results.toList) := by kernel_rfl
theorem laws_markIntSS.hf (k : Nat) (a0 : (List (List Int))) (a1 : Int) : (laws_markIntSS.f k a0 a1 : Option (denR (outTys laws_markIntSS.g.rts laws_markIntSS.g.pms))) = evC (laws_markIntSS.E k) (fun κ s => lhOf k κ s laws_markIntSS.pts) b60 (OM.start laws_markIntSS.g.pms 0 (a0, a1, ())) (OM.fin laws_markIntSS.g Tryz.f60.results.toList) := by kernel_rfl
theorem laws_markIntSS.ok (k : Nat) : SmOk Tryz.prog (laws_markIntSS.sm k) :=
  sm_ok mixed (E := laws_markIntSS.E) (pts := laws_markIntSS.pts) (fun k => ⟨⟨tysOk, by kernel_rfl⟩, forall_cons ⟨laws_markIntS.ok k, e27⟩ (forall_nil)⟩) (fun _ => rfl) (fun _ => rfl)
    ⟨Tryz.func60, by kernel_rfl, by kernel_rfl, by kernel_rfl, by kernel_rfl, by kernel_rfl, by kernel_rfl⟩ (forall_cons (fun x => ⟨rfl, fun k => laws_markIntSS.h5 k x.1 x.2.1 x.2.2.1⟩) (forall_nil)) (fun k x => laws_markIntSS.hf k x.1 x.2.1) k
noncomputable def b31 : Code := Tryz.f31.body.getD .skip
theorem e31 : OM.Entry Tryz.prog 31 := ⟨_, Tryz.func31, by kernel_rfl, by kernel_rfl⟩
@[reducible] noncomputable def laws_markMendS.g : Sig := ⟨[.mut (.sl tMend) (.own (.two .z (.two .z (.two (.own .z) (.two (.own .z) (.two .z (.two (.own (.own .z)) .z))))))), .fz (.int .i64)], [.v (.int .i64) .z], [0]⟩
@[reducible] noncomputable def laws_markMendS.fk : Nat → denI laws_markMendS.g.pms → Option (denR (outTys laws_markMendS.g.rts laws_markMendS.g.pms)) := fun k x => laws_markMendS.f k x.1 x.2.1
@[reducible] noncomputable def laws_markMendS.sm (k : Nat) : Sm := ⟨31, laws_markMendS.g.pms, laws_markMendS.g.rts, laws_markMendS.fk k⟩
noncomputable def laws_markMendS.E (k : Nat) : Env := ⟨tys, [laws_markIntS.sm k, laws_markEntryS.sm k, laws_markIntSS.sm k], [], [], []⟩
@[reducible] noncomputable def laws_markMendS.s5 : List Slot := [.v 0 (.sl tMend) (.own (.two .z (.two .z (.two (.own .z) (.two (.own .z) (.two .z (.two (.own (.own .z)) .z))))))) [] 1, .v 4 (.int .i64) .z [] 0, .v 20 (.int .i64) .z [] 0]
noncomputable def laws_markMendS.pts : List (Pt (denR (outTys laws_markMendS.g.rts laws_markMendS.g.pms))) := [⟨5, laws_markMendS.s5, fun k x => laws_markMendS.p5 k x.1 x.2.1 x.2.2.1⟩]
theorem laws_markMendS.h5 (k : Nat) (x0 : (List Mend)) (x1 : Int) (x2 : Int) : (laws_markMendS.p5 (k + 1) x0 x1 x2 : Option (denR (outTys laws_markMendS.g.rts laws_markMendS.g.pms))) = evAt (laws_markMendS.E k) (fun κ s => lhOf k κ s laws_markMendS.pts) 5 b31 (unproj laws_markMendS.s5 (x0, x1, x2, ())) (OM.fin laws_markMendS.g Tryz.f31.results.toList) := by kernel_rfl
theorem laws_markMendS.hf (k : Nat) (a0 : (List Mend)) (a1 : Int) : (laws_markMendS.f k a0 a1 : Option (denR (outTys laws_markMendS.g.rts laws_markMendS.g.pms))) = evC (laws_markMendS.E k) (fun κ s => lhOf k κ s laws_markMendS.pts) b31 (OM.start laws_markMendS.g.pms 0 (a0, a1, ())) (OM.fin laws_markMendS.g Tryz.f31.results.toList) := by kernel_rfl
theorem laws_markMendS.ok (k : Nat) : SmOk Tryz.prog (laws_markMendS.sm k) :=
  sm_ok mixed (E := laws_markMendS.E) (pts := laws_markMendS.pts) (fun k => ⟨⟨tysOk, by kernel_rfl⟩, forall_cons ⟨laws_markIntS.ok k, e27⟩ (forall_cons ⟨laws_markEntryS.ok k, e57⟩ (forall_cons ⟨laws_markIntSS.ok k, e60⟩ (forall_nil)))⟩) (fun _ => rfl) (fun _ => rfl)
    ⟨Tryz.func31, by kernel_rfl, by kernel_rfl, by kernel_rfl, by kernel_rfl, by kernel_rfl, by kernel_rfl⟩ (forall_cons (fun x => ⟨rfl, fun k => laws_markMendS.h5 k x.1 x.2.1 x.2.2.1⟩) (forall_nil)) (fun k x => laws_markMendS.hf k x.1 x.2.1) k
noncomputable def b61 : Code := Tryz.f61.body.getD .skip
theorem e61 : OM.Entry Tryz.prog 61 := ⟨_, Tryz.func61, by kernel_rfl, by kernel_rfl⟩
@[reducible] noncomputable def laws_markEventS.g : Sig := ⟨[.mut (.sl tEvent) (.own .z), .fz (.int .i64)], [.v (.int .i64) .z], [0]⟩
@[reducible] noncomputable def laws_markEventS.fk : Nat → denI laws_markEventS.g.pms → Option (denR (outTys laws_markEventS.g.rts laws_markEventS.g.pms)) := fun k x => laws_markEventS.f k x.1 x.2.1
@[reducible] noncomputable def laws_markEventS.sm (k : Nat) : Sm := ⟨61, laws_markEventS.g.pms, laws_markEventS.g.rts, laws_markEventS.fk k⟩
noncomputable def laws_markEventS.E (k : Nat) : Env := ⟨tys, [laws_markText.sm k], [], [], []⟩
@[reducible] noncomputable def laws_markEventS.s5 : List Slot := [.v 0 (.sl tEvent) (.own .z) [] 1, .v 4 (.int .i64) .z [] 0, .v 20 (.int .i64) .z [] 0]
noncomputable def laws_markEventS.pts : List (Pt (denR (outTys laws_markEventS.g.rts laws_markEventS.g.pms))) := [⟨5, laws_markEventS.s5, fun k x => laws_markEventS.p5 k x.1 x.2.1 x.2.2.1⟩]
theorem laws_markEventS.h5 (k : Nat) (x0 : (List Event)) (x1 : Int) (x2 : Int) : (laws_markEventS.p5 (k + 1) x0 x1 x2 : Option (denR (outTys laws_markEventS.g.rts laws_markEventS.g.pms))) = evAt (laws_markEventS.E k) (fun κ s => lhOf k κ s laws_markEventS.pts) 5 b61 (unproj laws_markEventS.s5 (x0, x1, x2, ())) (OM.fin laws_markEventS.g Tryz.f61.results.toList) := by kernel_rfl
theorem laws_markEventS.hf (k : Nat) (a0 : (List Event)) (a1 : Int) : (laws_markEventS.f k a0 a1 : Option (denR (outTys laws_markEventS.g.rts laws_markEventS.g.pms))) = evC (laws_markEventS.E k) (fun κ s => lhOf k κ s laws_markEventS.pts) b61 (OM.start laws_markEventS.g.pms 0 (a0, a1, ())) (OM.fin laws_markEventS.g Tryz.f61.results.toList) := by kernel_rfl
theorem laws_markEventS.ok (k : Nat) : SmOk Tryz.prog (laws_markEventS.sm k) :=
  sm_ok mixed (E := laws_markEventS.E) (pts := laws_markEventS.pts) (fun k => ⟨⟨tysOk, by kernel_rfl⟩, forall_cons ⟨laws_markText.ok k, e62⟩ (forall_nil)⟩) (fun _ => rfl) (fun _ => rfl)
    ⟨Tryz.func61, by kernel_rfl, by kernel_rfl, by kernel_rfl, by kernel_rfl, by kernel_rfl, by kernel_rfl⟩ (forall_cons (fun x => ⟨rfl, fun k => laws_markEventS.h5 k x.1 x.2.1 x.2.2.1⟩) (forall_nil)) (fun k x => laws_markEventS.hf k x.1 x.2.1) k
noncomputable def b32 : Code := Tryz.f32.body.getD .skip
theorem e32 : OM.Entry Tryz.prog 32 := ⟨_, Tryz.func32, by kernel_rfl, by kernel_rfl⟩
@[reducible] noncomputable def laws_markReaderS.g : Sig := ⟨[.mut (.sl tReader) (.own (.two .z (.two .z (.two (.own .z) .z)))), .fz (.int .i64)], [.v (.int .i64) .z], [0]⟩
@[reducible] noncomputable def laws_markReaderS.fk : Nat → denI laws_markReaderS.g.pms → Option (denR (outTys laws_markReaderS.g.rts laws_markReaderS.g.pms)) := fun k x => laws_markReaderS.f k x.1 x.2.1
@[reducible] noncomputable def laws_markReaderS.sm (k : Nat) : Sm := ⟨32, laws_markReaderS.g.pms, laws_markReaderS.g.rts, laws_markReaderS.fk k⟩
noncomputable def laws_markReaderS.E (k : Nat) : Env := ⟨tys, [laws_markEventS.sm k], [], [], []⟩
@[reducible] noncomputable def laws_markReaderS.s5 : List Slot := [.v 0 (.sl tReader) (.own (.two .z (.two .z (.two (.own .z) .z)))) [] 1, .v 4 (.int .i64) .z [] 0, .v 20 (.int .i64) .z [] 0]
noncomputable def laws_markReaderS.pts : List (Pt (denR (outTys laws_markReaderS.g.rts laws_markReaderS.g.pms))) := [⟨5, laws_markReaderS.s5, fun k x => laws_markReaderS.p5 k x.1 x.2.1 x.2.2.1⟩]
theorem laws_markReaderS.h5 (k : Nat) (x0 : (List Reader)) (x1 : Int) (x2 : Int) : (laws_markReaderS.p5 (k + 1) x0 x1 x2 : Option (denR (outTys laws_markReaderS.g.rts laws_markReaderS.g.pms))) = evAt (laws_markReaderS.E k) (fun κ s => lhOf k κ s laws_markReaderS.pts) 5 b32 (unproj laws_markReaderS.s5 (x0, x1, x2, ())) (OM.fin laws_markReaderS.g Tryz.f32.results.toList) := by kernel_rfl
theorem laws_markReaderS.hf (k : Nat) (a0 : (List Reader)) (a1 : Int) : (laws_markReaderS.f k a0 a1 : Option (denR (outTys laws_markReaderS.g.rts laws_markReaderS.g.pms))) = evC (laws_markReaderS.E k) (fun κ s => lhOf k κ s laws_markReaderS.pts) b32 (OM.start laws_markReaderS.g.pms 0 (a0, a1, ())) (OM.fin laws_markReaderS.g Tryz.f32.results.toList) := by kernel_rfl
theorem laws_markReaderS.ok (k : Nat) : SmOk Tryz.prog (laws_markReaderS.sm k) :=
  sm_ok mixed (E := laws_markReaderS.E) (pts := laws_markReaderS.pts) (fun k => ⟨⟨tysOk, by kernel_rfl⟩, forall_cons ⟨laws_markEventS.ok k, e61⟩ (forall_nil)⟩) (fun _ => rfl) (fun _ => rfl)
    ⟨Tryz.func32, by kernel_rfl, by kernel_rfl, by kernel_rfl, by kernel_rfl, by kernel_rfl, by kernel_rfl⟩ (forall_cons (fun x => ⟨rfl, fun k => laws_markReaderS.h5 k x.1 x.2.1 x.2.2.1⟩) (forall_nil)) (fun k x => laws_markReaderS.hf k x.1 x.2.1) k
noncomputable def b33 : Code := Tryz.f33.body.getD .skip
theorem e33 : OM.Entry Tryz.prog 33 := ⟨_, Tryz.func33, by kernel_rfl, by kernel_rfl⟩
@[reducible] noncomputable def laws_markSentS.g : Sig := ⟨[.mut (.sl tSent) (.own .z), .fz (.int .i64)], [.v (.int .i64) .z], [0]⟩
@[reducible] noncomputable def laws_markSentS.fk : Nat → denI laws_markSentS.g.pms → Option (denR (outTys laws_markSentS.g.rts laws_markSentS.g.pms)) := fun k x => laws_markSentS.f k x.1 x.2.1
@[reducible] noncomputable def laws_markSentS.sm (k : Nat) : Sm := ⟨33, laws_markSentS.g.pms, laws_markSentS.g.rts, laws_markSentS.fk k⟩
noncomputable def laws_markSentS.E (k : Nat) : Env := ⟨tys, [laws_markText.sm k], [], [], []⟩
@[reducible] noncomputable def laws_markSentS.s5 : List Slot := [.v 0 (.sl tSent) (.own .z) [] 1, .v 4 (.int .i64) .z [] 0, .v 20 (.int .i64) .z [] 0]
noncomputable def laws_markSentS.pts : List (Pt (denR (outTys laws_markSentS.g.rts laws_markSentS.g.pms))) := [⟨5, laws_markSentS.s5, fun k x => laws_markSentS.p5 k x.1 x.2.1 x.2.2.1⟩]
theorem laws_markSentS.h5 (k : Nat) (x0 : (List Sent)) (x1 : Int) (x2 : Int) : (laws_markSentS.p5 (k + 1) x0 x1 x2 : Option (denR (outTys laws_markSentS.g.rts laws_markSentS.g.pms))) = evAt (laws_markSentS.E k) (fun κ s => lhOf k κ s laws_markSentS.pts) 5 b33 (unproj laws_markSentS.s5 (x0, x1, x2, ())) (OM.fin laws_markSentS.g Tryz.f33.results.toList) := by kernel_rfl
theorem laws_markSentS.hf (k : Nat) (a0 : (List Sent)) (a1 : Int) : (laws_markSentS.f k a0 a1 : Option (denR (outTys laws_markSentS.g.rts laws_markSentS.g.pms))) = evC (laws_markSentS.E k) (fun κ s => lhOf k κ s laws_markSentS.pts) b33 (OM.start laws_markSentS.g.pms 0 (a0, a1, ())) (OM.fin laws_markSentS.g Tryz.f33.results.toList) := by kernel_rfl
theorem laws_markSentS.ok (k : Nat) : SmOk Tryz.prog (laws_markSentS.sm k) :=
  sm_ok mixed (E := laws_markSentS.E) (pts := laws_markSentS.pts) (fun k => ⟨⟨tysOk, by kernel_rfl⟩, forall_cons ⟨laws_markText.ok k, e62⟩ (forall_nil)⟩) (fun _ => rfl) (fun _ => rfl)
    ⟨Tryz.func33, by kernel_rfl, by kernel_rfl, by kernel_rfl, by kernel_rfl, by kernel_rfl, by kernel_rfl⟩ (forall_cons (fun x => ⟨rfl, fun k => laws_markSentS.h5 k x.1 x.2.1 x.2.2.1⟩) (forall_nil)) (fun k x => laws_markSentS.hf k x.1 x.2.1) k
noncomputable def b11 : Code := Tryz.f11.body.getD .skip
theorem e11 : OM.Entry Tryz.prog 11 := ⟨_, Tryz.func11, by kernel_rfl, by kernel_rfl⟩
@[reducible] noncomputable def laws_markWorld.g : Sig := ⟨[.mut tWorld (.two (.two (.own .z) .z) (.two (.own (.two (.own .z) (.two (.own .z) .z))) (.two (.own .z) (.two (.two (.own (.two (.own .z) .z)) .z) (.two (.own (.two .z (.two (.own (.two .z (.two (.own .z) .z))) .z))) (.two (.own (.two .z (.two .z (.two (.own .z) (.two (.own .z) (.two .z (.two (.own (.own .z)) .z))))))) (.two (.own (.two .z (.two .z (.two (.own .z) .z)))) (.two (.own .z) .z)))))))), .fz (.int .i64)], [.v (.int .i64) .z], [9]⟩
@[reducible] noncomputable def laws_markWorld.fk : Nat → denI laws_markWorld.g.pms → Option (denR (outTys laws_markWorld.g.rts laws_markWorld.g.pms)) := fun k x => laws_markWorld.f k x.1 x.2.1
@[reducible] noncomputable def laws_markWorld.sm (k : Nat) : Sm := ⟨11, laws_markWorld.g.pms, laws_markWorld.g.rts, laws_markWorld.fk k⟩
noncomputable def laws_markWorld.E (k : Nat) : Env := ⟨tys, [laws_markIntS.sm k, laws_markConfig.sm k, laws_markStoreS.sm k, laws_markRegister.sm k, laws_markWriterS.sm k, laws_markMendS.sm k, laws_markReaderS.sm k, laws_markSentS.sm k], [], [], []⟩
noncomputable def laws_markWorld.pts : List (Pt (denR (outTys laws_markWorld.g.rts laws_markWorld.g.pms))) := []
theorem laws_markWorld.hf (k : Nat) (a0 : World) (a1 : Int) : (laws_markWorld.f k a0 a1 : Option (denR (outTys laws_markWorld.g.rts laws_markWorld.g.pms))) = evC (laws_markWorld.E k) (fun κ s => lhOf k κ s laws_markWorld.pts) b11 (OM.start laws_markWorld.g.pms 0 (a0, a1, ())) (OM.fin laws_markWorld.g Tryz.f11.results.toList) := by kernel_rfl
theorem laws_markWorld.ok (k : Nat) : SmOk Tryz.prog (laws_markWorld.sm k) :=
  sm_ok mixed (E := laws_markWorld.E) (pts := laws_markWorld.pts) (fun k => ⟨⟨tysOk, by kernel_rfl⟩, forall_cons ⟨laws_markIntS.ok k, e27⟩ (forall_cons ⟨laws_markConfig.ok k, e10⟩ (forall_cons ⟨laws_markStoreS.ok k, e28⟩ (forall_cons ⟨laws_markRegister.ok k, e29⟩ (forall_cons ⟨laws_markWriterS.ok k, e30⟩ (forall_cons ⟨laws_markMendS.ok k, e31⟩ (forall_cons ⟨laws_markReaderS.ok k, e32⟩ (forall_cons ⟨laws_markSentS.ok k, e33⟩ (forall_nil))))))))⟩) (fun _ => rfl) (fun _ => rfl)
    ⟨Tryz.func11, by kernel_rfl, by kernel_rfl, by kernel_rfl, by kernel_rfl, by kernel_rfl, by kernel_rfl⟩ (forall_nil) (fun k x => laws_markWorld.hf k x.1 x.2.1) k
noncomputable def b36 : Code := Tryz.f36.body.getD .skip
theorem e36 : OM.Entry Tryz.prog 36 := ⟨_, Tryz.func36, by kernel_rfl, by kernel_rfl⟩
@[reducible] noncomputable def laws_heldIntS.g : Sig := ⟨[.fz (.sl (.int .i64)), .fz (.int .i64)], [.v (.int .i64) .z], []⟩
@[reducible] noncomputable def laws_heldIntS.fk : Nat → denI laws_heldIntS.g.pms → Option (denR (outTys laws_heldIntS.g.rts laws_heldIntS.g.pms)) := fun k x => laws_heldIntS.f k x.1 x.2.1
@[reducible] noncomputable def laws_heldIntS.sm (k : Nat) : Sm := ⟨36, laws_heldIntS.g.pms, laws_heldIntS.g.rts, laws_heldIntS.fk k⟩
noncomputable def laws_heldIntS.E (k : Nat) : Env := ⟨tys, [], [], [], []⟩
@[reducible] noncomputable def laws_heldIntS.s5 : List Slot := [.v 0 (.sl (.int .i64)) .z [] 0, .v 4 (.int .i64) .z [] 0, .v 20 (.int .i64) .z [] 0]
noncomputable def laws_heldIntS.pts : List (Pt (denR (outTys laws_heldIntS.g.rts laws_heldIntS.g.pms))) := [⟨5, laws_heldIntS.s5, fun k x => laws_heldIntS.p5 k x.1 x.2.1 x.2.2.1⟩]
theorem laws_heldIntS.h5 (k : Nat) (x0 : (List Int)) (x1 : Int) (x2 : Int) : (laws_heldIntS.p5 (k + 1) x0 x1 x2 : Option (denR (outTys laws_heldIntS.g.rts laws_heldIntS.g.pms))) = evAt (laws_heldIntS.E k) (fun κ s => lhOf k κ s laws_heldIntS.pts) 5 b36 (unproj laws_heldIntS.s5 (x0, x1, x2, ())) (OM.fin laws_heldIntS.g Tryz.f36.results.toList) := by kernel_rfl
theorem laws_heldIntS.hf (k : Nat) (a0 : (List Int)) (a1 : Int) : (laws_heldIntS.f k a0 a1 : Option (denR (outTys laws_heldIntS.g.rts laws_heldIntS.g.pms))) = evC (laws_heldIntS.E k) (fun κ s => lhOf k κ s laws_heldIntS.pts) b36 (OM.start laws_heldIntS.g.pms 0 (a0, a1, ())) (OM.fin laws_heldIntS.g Tryz.f36.results.toList) := by kernel_rfl
theorem laws_heldIntS.ok (k : Nat) : SmOk Tryz.prog (laws_heldIntS.sm k) :=
  sm_ok mixed (E := laws_heldIntS.E) (pts := laws_heldIntS.pts) (fun k => ⟨⟨tysOk, by kernel_rfl⟩, forall_nil⟩) (fun _ => rfl) (fun _ => rfl)
    ⟨Tryz.func36, by kernel_rfl, by kernel_rfl, by kernel_rfl, by kernel_rfl, by kernel_rfl, by kernel_rfl⟩ (forall_cons (fun x => ⟨rfl, fun k => laws_heldIntS.h5 k x.1 x.2.1 x.2.2.1⟩) (forall_nil)) (fun k x => laws_heldIntS.hf k x.1 x.2.1) k
noncomputable def b34 : Code := Tryz.f34.body.getD .skip
theorem e34 : OM.Entry Tryz.prog 34 := ⟨_, Tryz.func34, by kernel_rfl, by kernel_rfl⟩
@[reducible] noncomputable def laws_heldConfig.g : Sig := ⟨[.fz tConfig, .fz (.int .i64)], [.v (.int .i64) .z], []⟩
@[reducible] noncomputable def laws_heldConfig.fk : Nat → denI laws_heldConfig.g.pms → Option (denR (outTys laws_heldConfig.g.rts laws_heldConfig.g.pms)) := fun k x => laws_heldConfig.f k x.1 x.2.1
@[reducible] noncomputable def laws_heldConfig.sm (k : Nat) : Sm := ⟨34, laws_heldConfig.g.pms, laws_heldConfig.g.rts, laws_heldConfig.fk k⟩
noncomputable def laws_heldConfig.E (k : Nat) : Env := ⟨tys, [laws_heldIntS.sm k], [], [], []⟩
noncomputable def laws_heldConfig.pts : List (Pt (denR (outTys laws_heldConfig.g.rts laws_heldConfig.g.pms))) := []
theorem laws_heldConfig.hf (k : Nat) (a0 : Config) (a1 : Int) : (laws_heldConfig.f k a0 a1 : Option (denR (outTys laws_heldConfig.g.rts laws_heldConfig.g.pms))) = evC (laws_heldConfig.E k) (fun κ s => lhOf k κ s laws_heldConfig.pts) b34 (OM.start laws_heldConfig.g.pms 0 (a0, a1, ())) (OM.fin laws_heldConfig.g Tryz.f34.results.toList) := by kernel_rfl
theorem laws_heldConfig.ok (k : Nat) : SmOk Tryz.prog (laws_heldConfig.sm k) :=
  sm_ok mixed (E := laws_heldConfig.E) (pts := laws_heldConfig.pts) (fun k => ⟨⟨tysOk, by kernel_rfl⟩, forall_cons ⟨laws_heldIntS.ok k, e36⟩ (forall_nil)⟩) (fun _ => rfl) (fun _ => rfl)
    ⟨Tryz.func34, by kernel_rfl, by kernel_rfl, by kernel_rfl, by kernel_rfl, by kernel_rfl, by kernel_rfl⟩ (forall_nil) (fun k x => laws_heldConfig.hf k x.1 x.2.1) k
noncomputable def b63 : Code := Tryz.f63.body.getD .skip
theorem e63 : OM.Entry Tryz.prog 63 := ⟨_, Tryz.func63, by kernel_rfl, by kernel_rfl⟩
@[reducible] noncomputable def laws_heldEntryS.g : Sig := ⟨[.fz (.sl tEntry), .fz (.int .i64)], [.v (.int .i64) .z], []⟩
@[reducible] noncomputable def laws_heldEntryS.fk : Nat → denI laws_heldEntryS.g.pms → Option (denR (outTys laws_heldEntryS.g.rts laws_heldEntryS.g.pms)) := fun k x => laws_heldEntryS.f k x.1 x.2.1
@[reducible] noncomputable def laws_heldEntryS.sm (k : Nat) : Sm := ⟨63, laws_heldEntryS.g.pms, laws_heldEntryS.g.rts, laws_heldEntryS.fk k⟩
noncomputable def laws_heldEntryS.E (k : Nat) : Env := ⟨tys, [laws_markText.sm k], [], [], [4]⟩
@[reducible] noncomputable def laws_heldEntryS.s5 : List Slot := [.v 0 (.sl tEntry) .z [] 0, .v 4 (.int .i64) .z [] 0, .v 20 (.int .i64) .z [] 0]
noncomputable def laws_heldEntryS.pts : List (Pt (denR (outTys laws_heldEntryS.g.rts laws_heldEntryS.g.pms))) := [⟨5, laws_heldEntryS.s5, fun k x => laws_heldEntryS.p5 k x.1 x.2.1 x.2.2.1⟩]
theorem laws_heldEntryS.h5 (k : Nat) (x0 : (List Entry)) (x1 : Int) (x2 : Int) : (laws_heldEntryS.p5 (k + 1) x0 x1 x2 : Option (denR (outTys laws_heldEntryS.g.rts laws_heldEntryS.g.pms))) = evAt (laws_heldEntryS.E k) (fun κ s => lhOf k κ s laws_heldEntryS.pts) 5 b63 (unproj laws_heldEntryS.s5 (x0, x1, x2, ())) (OM.fin laws_heldEntryS.g Tryz.f63.results.toList) := by kernel_rfl
theorem laws_heldEntryS.hf (k : Nat) (a0 : (List Entry)) (a1 : Int) : (laws_heldEntryS.f k a0 a1 : Option (denR (outTys laws_heldEntryS.g.rts laws_heldEntryS.g.pms))) = evC (laws_heldEntryS.E k) (fun κ s => lhOf k κ s laws_heldEntryS.pts) b63 (OM.start laws_heldEntryS.g.pms 0 (a0, a1, ())) (OM.fin laws_heldEntryS.g Tryz.f63.results.toList) := by kernel_rfl
theorem laws_heldEntryS.ok (k : Nat) : SmOk Tryz.prog (laws_heldEntryS.sm k) :=
  sm_ok mixed (E := laws_heldEntryS.E) (pts := laws_heldEntryS.pts) (fun k => ⟨⟨tysOk, by kernel_rfl⟩, forall_cons ⟨laws_markText.ok k, e62⟩ (forall_nil)⟩) (fun _ => rfl) (fun _ => rfl)
    ⟨Tryz.func63, by kernel_rfl, by kernel_rfl, by kernel_rfl, by kernel_rfl, by kernel_rfl, by kernel_rfl⟩ (forall_cons (fun x => ⟨rfl, fun k => laws_heldEntryS.h5 k x.1 x.2.1 x.2.2.1⟩) (forall_nil)) (fun k x => laws_heldEntryS.hf k x.1 x.2.1) k
noncomputable def b35 : Code := Tryz.f35.body.getD .skip
theorem e35 : OM.Entry Tryz.prog 35 := ⟨_, Tryz.func35, by kernel_rfl, by kernel_rfl⟩
@[reducible] noncomputable def laws_heldStoreS.g : Sig := ⟨[.fz (.sl tStore), .fz (.int .i64)], [.v (.int .i64) .z], []⟩
@[reducible] noncomputable def laws_heldStoreS.fk : Nat → denI laws_heldStoreS.g.pms → Option (denR (outTys laws_heldStoreS.g.rts laws_heldStoreS.g.pms)) := fun k x => laws_heldStoreS.f k x.1 x.2.1
@[reducible] noncomputable def laws_heldStoreS.sm (k : Nat) : Sm := ⟨35, laws_heldStoreS.g.pms, laws_heldStoreS.g.rts, laws_heldStoreS.fk k⟩
noncomputable def laws_heldStoreS.E (k : Nat) : Env := ⟨tys, [laws_heldEntryS.sm k], [], [], []⟩
@[reducible] noncomputable def laws_heldStoreS.s5 : List Slot := [.v 0 (.sl tStore) .z [] 0, .v 4 (.int .i64) .z [] 0, .v 20 (.int .i64) .z [] 0]
noncomputable def laws_heldStoreS.pts : List (Pt (denR (outTys laws_heldStoreS.g.rts laws_heldStoreS.g.pms))) := [⟨5, laws_heldStoreS.s5, fun k x => laws_heldStoreS.p5 k x.1 x.2.1 x.2.2.1⟩]
theorem laws_heldStoreS.h5 (k : Nat) (x0 : (List Store)) (x1 : Int) (x2 : Int) : (laws_heldStoreS.p5 (k + 1) x0 x1 x2 : Option (denR (outTys laws_heldStoreS.g.rts laws_heldStoreS.g.pms))) = evAt (laws_heldStoreS.E k) (fun κ s => lhOf k κ s laws_heldStoreS.pts) 5 b35 (unproj laws_heldStoreS.s5 (x0, x1, x2, ())) (OM.fin laws_heldStoreS.g Tryz.f35.results.toList) := by kernel_rfl
theorem laws_heldStoreS.hf (k : Nat) (a0 : (List Store)) (a1 : Int) : (laws_heldStoreS.f k a0 a1 : Option (denR (outTys laws_heldStoreS.g.rts laws_heldStoreS.g.pms))) = evC (laws_heldStoreS.E k) (fun κ s => lhOf k κ s laws_heldStoreS.pts) b35 (OM.start laws_heldStoreS.g.pms 0 (a0, a1, ())) (OM.fin laws_heldStoreS.g Tryz.f35.results.toList) := by kernel_rfl
theorem laws_heldStoreS.ok (k : Nat) : SmOk Tryz.prog (laws_heldStoreS.sm k) :=
  sm_ok mixed (E := laws_heldStoreS.E) (pts := laws_heldStoreS.pts) (fun k => ⟨⟨tysOk, by kernel_rfl⟩, forall_cons ⟨laws_heldEntryS.ok k, e63⟩ (forall_nil)⟩) (fun _ => rfl) (fun _ => rfl)
    ⟨Tryz.func35, by kernel_rfl, by kernel_rfl, by kernel_rfl, by kernel_rfl, by kernel_rfl, by kernel_rfl⟩ (forall_cons (fun x => ⟨rfl, fun k => laws_heldStoreS.h5 k x.1 x.2.1 x.2.2.1⟩) (forall_nil)) (fun k x => laws_heldStoreS.hf k x.1 x.2.1) k
noncomputable def b64 : Code := Tryz.f64.body.getD .skip
theorem e64 : OM.Entry Tryz.prog 64 := ⟨_, Tryz.func64, by kernel_rfl, by kernel_rfl⟩
@[reducible] noncomputable def laws_heldEraS.g : Sig := ⟨[.fz (.sl tEra), .fz (.int .i64)], [.v (.int .i64) .z], []⟩
@[reducible] noncomputable def laws_heldEraS.fk : Nat → denI laws_heldEraS.g.pms → Option (denR (outTys laws_heldEraS.g.rts laws_heldEraS.g.pms)) := fun k x => laws_heldEraS.f k x.1 x.2.1
@[reducible] noncomputable def laws_heldEraS.sm (k : Nat) : Sm := ⟨64, laws_heldEraS.g.pms, laws_heldEraS.g.rts, laws_heldEraS.fk k⟩
noncomputable def laws_heldEraS.E (k : Nat) : Env := ⟨tys, [laws_heldIntS.sm k], [], [], [4]⟩
@[reducible] noncomputable def laws_heldEraS.s5 : List Slot := [.v 0 (.sl tEra) .z [] 0, .v 4 (.int .i64) .z [] 0, .v 20 (.int .i64) .z [] 0]
noncomputable def laws_heldEraS.pts : List (Pt (denR (outTys laws_heldEraS.g.rts laws_heldEraS.g.pms))) := [⟨5, laws_heldEraS.s5, fun k x => laws_heldEraS.p5 k x.1 x.2.1 x.2.2.1⟩]
theorem laws_heldEraS.h5 (k : Nat) (x0 : (List Era)) (x1 : Int) (x2 : Int) : (laws_heldEraS.p5 (k + 1) x0 x1 x2 : Option (denR (outTys laws_heldEraS.g.rts laws_heldEraS.g.pms))) = evAt (laws_heldEraS.E k) (fun κ s => lhOf k κ s laws_heldEraS.pts) 5 b64 (unproj laws_heldEraS.s5 (x0, x1, x2, ())) (OM.fin laws_heldEraS.g Tryz.f64.results.toList) := by kernel_rfl
theorem laws_heldEraS.hf (k : Nat) (a0 : (List Era)) (a1 : Int) : (laws_heldEraS.f k a0 a1 : Option (denR (outTys laws_heldEraS.g.rts laws_heldEraS.g.pms))) = evC (laws_heldEraS.E k) (fun κ s => lhOf k κ s laws_heldEraS.pts) b64 (OM.start laws_heldEraS.g.pms 0 (a0, a1, ())) (OM.fin laws_heldEraS.g Tryz.f64.results.toList) := by kernel_rfl
theorem laws_heldEraS.ok (k : Nat) : SmOk Tryz.prog (laws_heldEraS.sm k) :=
  sm_ok mixed (E := laws_heldEraS.E) (pts := laws_heldEraS.pts) (fun k => ⟨⟨tysOk, by kernel_rfl⟩, forall_cons ⟨laws_heldIntS.ok k, e36⟩ (forall_nil)⟩) (fun _ => rfl) (fun _ => rfl)
    ⟨Tryz.func64, by kernel_rfl, by kernel_rfl, by kernel_rfl, by kernel_rfl, by kernel_rfl, by kernel_rfl⟩ (forall_cons (fun x => ⟨rfl, fun k => laws_heldEraS.h5 k x.1 x.2.1 x.2.2.1⟩) (forall_nil)) (fun k x => laws_heldEraS.hf k x.1 x.2.1) k
noncomputable def b37 : Code := Tryz.f37.body.getD .skip
theorem e37 : OM.Entry Tryz.prog 37 := ⟨_, Tryz.func37, by kernel_rfl, by kernel_rfl⟩
@[reducible] noncomputable def laws_heldRegister.g : Sig := ⟨[.fz tRegister, .fz (.int .i64)], [.v (.int .i64) .z], []⟩
@[reducible] noncomputable def laws_heldRegister.fk : Nat → denI laws_heldRegister.g.pms → Option (denR (outTys laws_heldRegister.g.rts laws_heldRegister.g.pms)) := fun k x => laws_heldRegister.f k x.1 x.2.1
@[reducible] noncomputable def laws_heldRegister.sm (k : Nat) : Sm := ⟨37, laws_heldRegister.g.pms, laws_heldRegister.g.rts, laws_heldRegister.fk k⟩
noncomputable def laws_heldRegister.E (k : Nat) : Env := ⟨tys, [laws_heldEraS.sm k], [], [], []⟩
noncomputable def laws_heldRegister.pts : List (Pt (denR (outTys laws_heldRegister.g.rts laws_heldRegister.g.pms))) := []
theorem laws_heldRegister.hf (k : Nat) (a0 : Register) (a1 : Int) : (laws_heldRegister.f k a0 a1 : Option (denR (outTys laws_heldRegister.g.rts laws_heldRegister.g.pms))) = evC (laws_heldRegister.E k) (fun κ s => lhOf k κ s laws_heldRegister.pts) b37 (OM.start laws_heldRegister.g.pms 0 (a0, a1, ())) (OM.fin laws_heldRegister.g Tryz.f37.results.toList) := by kernel_rfl
theorem laws_heldRegister.ok (k : Nat) : SmOk Tryz.prog (laws_heldRegister.sm k) :=
  sm_ok mixed (E := laws_heldRegister.E) (pts := laws_heldRegister.pts) (fun k => ⟨⟨tysOk, by kernel_rfl⟩, forall_cons ⟨laws_heldEraS.ok k, e64⟩ (forall_nil)⟩) (fun _ => rfl) (fun _ => rfl)
    ⟨Tryz.func37, by kernel_rfl, by kernel_rfl, by kernel_rfl, by kernel_rfl, by kernel_rfl, by kernel_rfl⟩ (forall_nil) (fun k x => laws_heldRegister.hf k x.1 x.2.1) k
noncomputable def b65 : Code := Tryz.f65.body.getD .skip
theorem e65 : OM.Entry Tryz.prog 65 := ⟨_, Tryz.func65, by kernel_rfl, by kernel_rfl⟩
@[reducible] noncomputable def laws_heldWordS.g : Sig := ⟨[.fz (.sl tWord), .fz (.int .i64)], [.v (.int .i64) .z], []⟩
@[reducible] noncomputable def laws_heldWordS.fk : Nat → denI laws_heldWordS.g.pms → Option (denR (outTys laws_heldWordS.g.rts laws_heldWordS.g.pms)) := fun k x => laws_heldWordS.f k x.1 x.2.1
@[reducible] noncomputable def laws_heldWordS.sm (k : Nat) : Sm := ⟨65, laws_heldWordS.g.pms, laws_heldWordS.g.rts, laws_heldWordS.fk k⟩
noncomputable def laws_heldWordS.E (k : Nat) : Env := ⟨tys, [laws_markText.sm k, laws_heldIntS.sm k], [], [], [4]⟩
@[reducible] noncomputable def laws_heldWordS.s5 : List Slot := [.v 0 (.sl tWord) .z [] 0, .v 4 (.int .i64) .z [] 0, .v 20 (.int .i64) .z [] 0]
noncomputable def laws_heldWordS.pts : List (Pt (denR (outTys laws_heldWordS.g.rts laws_heldWordS.g.pms))) := [⟨5, laws_heldWordS.s5, fun k x => laws_heldWordS.p5 k x.1 x.2.1 x.2.2.1⟩]
theorem laws_heldWordS.h5 (k : Nat) (x0 : (List Word)) (x1 : Int) (x2 : Int) : (laws_heldWordS.p5 (k + 1) x0 x1 x2 : Option (denR (outTys laws_heldWordS.g.rts laws_heldWordS.g.pms))) = evAt (laws_heldWordS.E k) (fun κ s => lhOf k κ s laws_heldWordS.pts) 5 b65 (unproj laws_heldWordS.s5 (x0, x1, x2, ())) (OM.fin laws_heldWordS.g Tryz.f65.results.toList) := by kernel_rfl
theorem laws_heldWordS.hf (k : Nat) (a0 : (List Word)) (a1 : Int) : (laws_heldWordS.f k a0 a1 : Option (denR (outTys laws_heldWordS.g.rts laws_heldWordS.g.pms))) = evC (laws_heldWordS.E k) (fun κ s => lhOf k κ s laws_heldWordS.pts) b65 (OM.start laws_heldWordS.g.pms 0 (a0, a1, ())) (OM.fin laws_heldWordS.g Tryz.f65.results.toList) := by kernel_rfl
theorem laws_heldWordS.ok (k : Nat) : SmOk Tryz.prog (laws_heldWordS.sm k) :=
  sm_ok mixed (E := laws_heldWordS.E) (pts := laws_heldWordS.pts) (fun k => ⟨⟨tysOk, by kernel_rfl⟩, forall_cons ⟨laws_markText.ok k, e62⟩ (forall_cons ⟨laws_heldIntS.ok k, e36⟩ (forall_nil))⟩) (fun _ => rfl) (fun _ => rfl)
    ⟨Tryz.func65, by kernel_rfl, by kernel_rfl, by kernel_rfl, by kernel_rfl, by kernel_rfl, by kernel_rfl⟩ (forall_cons (fun x => ⟨rfl, fun k => laws_heldWordS.h5 k x.1 x.2.1 x.2.2.1⟩) (forall_nil)) (fun k x => laws_heldWordS.hf k x.1 x.2.1) k
noncomputable def b38 : Code := Tryz.f38.body.getD .skip
theorem e38 : OM.Entry Tryz.prog 38 := ⟨_, Tryz.func38, by kernel_rfl, by kernel_rfl⟩
@[reducible] noncomputable def laws_heldWriterS.g : Sig := ⟨[.fz (.sl tWriter), .fz (.int .i64)], [.v (.int .i64) .z], []⟩
@[reducible] noncomputable def laws_heldWriterS.fk : Nat → denI laws_heldWriterS.g.pms → Option (denR (outTys laws_heldWriterS.g.rts laws_heldWriterS.g.pms)) := fun k x => laws_heldWriterS.f k x.1 x.2.1
@[reducible] noncomputable def laws_heldWriterS.sm (k : Nat) : Sm := ⟨38, laws_heldWriterS.g.pms, laws_heldWriterS.g.rts, laws_heldWriterS.fk k⟩
noncomputable def laws_heldWriterS.E (k : Nat) : Env := ⟨tys, [laws_heldWordS.sm k], [], [], []⟩
@[reducible] noncomputable def laws_heldWriterS.s5 : List Slot := [.v 0 (.sl tWriter) .z [] 0, .v 4 (.int .i64) .z [] 0, .v 20 (.int .i64) .z [] 0]
noncomputable def laws_heldWriterS.pts : List (Pt (denR (outTys laws_heldWriterS.g.rts laws_heldWriterS.g.pms))) := [⟨5, laws_heldWriterS.s5, fun k x => laws_heldWriterS.p5 k x.1 x.2.1 x.2.2.1⟩]
theorem laws_heldWriterS.h5 (k : Nat) (x0 : (List Writer)) (x1 : Int) (x2 : Int) : (laws_heldWriterS.p5 (k + 1) x0 x1 x2 : Option (denR (outTys laws_heldWriterS.g.rts laws_heldWriterS.g.pms))) = evAt (laws_heldWriterS.E k) (fun κ s => lhOf k κ s laws_heldWriterS.pts) 5 b38 (unproj laws_heldWriterS.s5 (x0, x1, x2, ())) (OM.fin laws_heldWriterS.g Tryz.f38.results.toList) := by kernel_rfl
theorem laws_heldWriterS.hf (k : Nat) (a0 : (List Writer)) (a1 : Int) : (laws_heldWriterS.f k a0 a1 : Option (denR (outTys laws_heldWriterS.g.rts laws_heldWriterS.g.pms))) = evC (laws_heldWriterS.E k) (fun κ s => lhOf k κ s laws_heldWriterS.pts) b38 (OM.start laws_heldWriterS.g.pms 0 (a0, a1, ())) (OM.fin laws_heldWriterS.g Tryz.f38.results.toList) := by kernel_rfl
theorem laws_heldWriterS.ok (k : Nat) : SmOk Tryz.prog (laws_heldWriterS.sm k) :=
  sm_ok mixed (E := laws_heldWriterS.E) (pts := laws_heldWriterS.pts) (fun k => ⟨⟨tysOk, by kernel_rfl⟩, forall_cons ⟨laws_heldWordS.ok k, e65⟩ (forall_nil)⟩) (fun _ => rfl) (fun _ => rfl)
    ⟨Tryz.func38, by kernel_rfl, by kernel_rfl, by kernel_rfl, by kernel_rfl, by kernel_rfl, by kernel_rfl⟩ (forall_cons (fun x => ⟨rfl, fun k => laws_heldWriterS.h5 k x.1 x.2.1 x.2.2.1⟩) (forall_nil)) (fun k x => laws_heldWriterS.hf k x.1 x.2.1) k
noncomputable def b66 : Code := Tryz.f66.body.getD .skip
theorem e66 : OM.Entry Tryz.prog 66 := ⟨_, Tryz.func66, by kernel_rfl, by kernel_rfl⟩
@[reducible] noncomputable def laws_heldIntSS.g : Sig := ⟨[.fz (.sl (.sl (.int .i64))), .fz (.int .i64)], [.v (.int .i64) .z], []⟩
@[reducible] noncomputable def laws_heldIntSS.fk : Nat → denI laws_heldIntSS.g.pms → Option (denR (outTys laws_heldIntSS.g.rts laws_heldIntSS.g.pms)) := fun k x => laws_heldIntSS.f k x.1 x.2.1
@[reducible] noncomputable def laws_heldIntSS.sm (k : Nat) : Sm := ⟨66, laws_heldIntSS.g.pms, laws_heldIntSS.g.rts, laws_heldIntSS.fk k⟩
noncomputable def laws_heldIntSS.E (k : Nat) : Env := ⟨tys, [laws_heldIntS.sm k], [], [], []⟩
@[reducible] noncomputable def laws_heldIntSS.s5 : List Slot := [.v 0 (.sl (.sl (.int .i64))) .z [] 0, .v 4 (.int .i64) .z [] 0, .v 20 (.int .i64) .z [] 0]
noncomputable def laws_heldIntSS.pts : List (Pt (denR (outTys laws_heldIntSS.g.rts laws_heldIntSS.g.pms))) := [⟨5, laws_heldIntSS.s5, fun k x => laws_heldIntSS.p5 k x.1 x.2.1 x.2.2.1⟩]
theorem laws_heldIntSS.h5 (k : Nat) (x0 : (List (List Int))) (x1 : Int) (x2 : Int) : (laws_heldIntSS.p5 (k + 1) x0 x1 x2 : Option (denR (outTys laws_heldIntSS.g.rts laws_heldIntSS.g.pms))) = evAt (laws_heldIntSS.E k) (fun κ s => lhOf k κ s laws_heldIntSS.pts) 5 b66 (unproj laws_heldIntSS.s5 (x0, x1, x2, ())) (OM.fin laws_heldIntSS.g Tryz.f66.results.toList) := by kernel_rfl
theorem laws_heldIntSS.hf (k : Nat) (a0 : (List (List Int))) (a1 : Int) : (laws_heldIntSS.f k a0 a1 : Option (denR (outTys laws_heldIntSS.g.rts laws_heldIntSS.g.pms))) = evC (laws_heldIntSS.E k) (fun κ s => lhOf k κ s laws_heldIntSS.pts) b66 (OM.start laws_heldIntSS.g.pms 0 (a0, a1, ())) (OM.fin laws_heldIntSS.g Tryz.f66.results.toList) := by kernel_rfl
theorem laws_heldIntSS.ok (k : Nat) : SmOk Tryz.prog (laws_heldIntSS.sm k) :=
  sm_ok mixed (E := laws_heldIntSS.E) (pts := laws_heldIntSS.pts) (fun k => ⟨⟨tysOk, by kernel_rfl⟩, forall_cons ⟨laws_heldIntS.ok k, e36⟩ (forall_nil)⟩) (fun _ => rfl) (fun _ => rfl)
    ⟨Tryz.func66, by kernel_rfl, by kernel_rfl, by kernel_rfl, by kernel_rfl, by kernel_rfl, by kernel_rfl⟩ (forall_cons (fun x => ⟨rfl, fun k => laws_heldIntSS.h5 k x.1 x.2.1 x.2.2.1⟩) (forall_nil)) (fun k x => laws_heldIntSS.hf k x.1 x.2.1) k
noncomputable def b39 : Code := Tryz.f39.body.getD .skip
theorem e39 : OM.Entry Tryz.prog 39 := ⟨_, Tryz.func39, by kernel_rfl, by kernel_rfl⟩
@[reducible] noncomputable def laws_heldMendS.g : Sig := ⟨[.fz (.sl tMend), .fz (.int .i64)], [.v (.int .i64) .z], []⟩
@[reducible] noncomputable def laws_heldMendS.fk : Nat → denI laws_heldMendS.g.pms → Option (denR (outTys laws_heldMendS.g.rts laws_heldMendS.g.pms)) := fun k x => laws_heldMendS.f k x.1 x.2.1
@[reducible] noncomputable def laws_heldMendS.sm (k : Nat) : Sm := ⟨39, laws_heldMendS.g.pms, laws_heldMendS.g.rts, laws_heldMendS.fk k⟩
noncomputable def laws_heldMendS.E (k : Nat) : Env := ⟨tys, [laws_heldIntS.sm k, laws_heldEntryS.sm k, laws_heldIntSS.sm k], [], [], [4]⟩
@[reducible] noncomputable def laws_heldMendS.s5 : List Slot := [.v 0 (.sl tMend) .z [] 0, .v 4 (.int .i64) .z [] 0, .v 20 (.int .i64) .z [] 0]
noncomputable def laws_heldMendS.pts : List (Pt (denR (outTys laws_heldMendS.g.rts laws_heldMendS.g.pms))) := [⟨5, laws_heldMendS.s5, fun k x => laws_heldMendS.p5 k x.1 x.2.1 x.2.2.1⟩]
theorem laws_heldMendS.h5 (k : Nat) (x0 : (List Mend)) (x1 : Int) (x2 : Int) : (laws_heldMendS.p5 (k + 1) x0 x1 x2 : Option (denR (outTys laws_heldMendS.g.rts laws_heldMendS.g.pms))) = evAt (laws_heldMendS.E k) (fun κ s => lhOf k κ s laws_heldMendS.pts) 5 b39 (unproj laws_heldMendS.s5 (x0, x1, x2, ())) (OM.fin laws_heldMendS.g Tryz.f39.results.toList) := by kernel_rfl
theorem laws_heldMendS.hf (k : Nat) (a0 : (List Mend)) (a1 : Int) : (laws_heldMendS.f k a0 a1 : Option (denR (outTys laws_heldMendS.g.rts laws_heldMendS.g.pms))) = evC (laws_heldMendS.E k) (fun κ s => lhOf k κ s laws_heldMendS.pts) b39 (OM.start laws_heldMendS.g.pms 0 (a0, a1, ())) (OM.fin laws_heldMendS.g Tryz.f39.results.toList) := by kernel_rfl
theorem laws_heldMendS.ok (k : Nat) : SmOk Tryz.prog (laws_heldMendS.sm k) :=
  sm_ok mixed (E := laws_heldMendS.E) (pts := laws_heldMendS.pts) (fun k => ⟨⟨tysOk, by kernel_rfl⟩, forall_cons ⟨laws_heldIntS.ok k, e36⟩ (forall_cons ⟨laws_heldEntryS.ok k, e63⟩ (forall_cons ⟨laws_heldIntSS.ok k, e66⟩ (forall_nil)))⟩) (fun _ => rfl) (fun _ => rfl)
    ⟨Tryz.func39, by kernel_rfl, by kernel_rfl, by kernel_rfl, by kernel_rfl, by kernel_rfl, by kernel_rfl⟩ (forall_cons (fun x => ⟨rfl, fun k => laws_heldMendS.h5 k x.1 x.2.1 x.2.2.1⟩) (forall_nil)) (fun k x => laws_heldMendS.hf k x.1 x.2.1) k
noncomputable def b67 : Code := Tryz.f67.body.getD .skip
theorem e67 : OM.Entry Tryz.prog 67 := ⟨_, Tryz.func67, by kernel_rfl, by kernel_rfl⟩
@[reducible] noncomputable def laws_heldEventS.g : Sig := ⟨[.fz (.sl tEvent), .fz (.int .i64)], [.v (.int .i64) .z], []⟩
@[reducible] noncomputable def laws_heldEventS.fk : Nat → denI laws_heldEventS.g.pms → Option (denR (outTys laws_heldEventS.g.rts laws_heldEventS.g.pms)) := fun k x => laws_heldEventS.f k x.1 x.2.1
@[reducible] noncomputable def laws_heldEventS.sm (k : Nat) : Sm := ⟨67, laws_heldEventS.g.pms, laws_heldEventS.g.rts, laws_heldEventS.fk k⟩
noncomputable def laws_heldEventS.E (k : Nat) : Env := ⟨tys, [laws_markText.sm k], [], [], []⟩
@[reducible] noncomputable def laws_heldEventS.s5 : List Slot := [.v 0 (.sl tEvent) .z [] 0, .v 4 (.int .i64) .z [] 0, .v 20 (.int .i64) .z [] 0]
noncomputable def laws_heldEventS.pts : List (Pt (denR (outTys laws_heldEventS.g.rts laws_heldEventS.g.pms))) := [⟨5, laws_heldEventS.s5, fun k x => laws_heldEventS.p5 k x.1 x.2.1 x.2.2.1⟩]
theorem laws_heldEventS.h5 (k : Nat) (x0 : (List Event)) (x1 : Int) (x2 : Int) : (laws_heldEventS.p5 (k + 1) x0 x1 x2 : Option (denR (outTys laws_heldEventS.g.rts laws_heldEventS.g.pms))) = evAt (laws_heldEventS.E k) (fun κ s => lhOf k κ s laws_heldEventS.pts) 5 b67 (unproj laws_heldEventS.s5 (x0, x1, x2, ())) (OM.fin laws_heldEventS.g Tryz.f67.results.toList) := by kernel_rfl
theorem laws_heldEventS.hf (k : Nat) (a0 : (List Event)) (a1 : Int) : (laws_heldEventS.f k a0 a1 : Option (denR (outTys laws_heldEventS.g.rts laws_heldEventS.g.pms))) = evC (laws_heldEventS.E k) (fun κ s => lhOf k κ s laws_heldEventS.pts) b67 (OM.start laws_heldEventS.g.pms 0 (a0, a1, ())) (OM.fin laws_heldEventS.g Tryz.f67.results.toList) := by kernel_rfl
theorem laws_heldEventS.ok (k : Nat) : SmOk Tryz.prog (laws_heldEventS.sm k) :=
  sm_ok mixed (E := laws_heldEventS.E) (pts := laws_heldEventS.pts) (fun k => ⟨⟨tysOk, by kernel_rfl⟩, forall_cons ⟨laws_markText.ok k, e62⟩ (forall_nil)⟩) (fun _ => rfl) (fun _ => rfl)
    ⟨Tryz.func67, by kernel_rfl, by kernel_rfl, by kernel_rfl, by kernel_rfl, by kernel_rfl, by kernel_rfl⟩ (forall_cons (fun x => ⟨rfl, fun k => laws_heldEventS.h5 k x.1 x.2.1 x.2.2.1⟩) (forall_nil)) (fun k x => laws_heldEventS.hf k x.1 x.2.1) k
noncomputable def b40 : Code := Tryz.f40.body.getD .skip
theorem e40 : OM.Entry Tryz.prog 40 := ⟨_, Tryz.func40, by kernel_rfl, by kernel_rfl⟩
@[reducible] noncomputable def laws_heldReaderS.g : Sig := ⟨[.fz (.sl tReader), .fz (.int .i64)], [.v (.int .i64) .z], []⟩
@[reducible] noncomputable def laws_heldReaderS.fk : Nat → denI laws_heldReaderS.g.pms → Option (denR (outTys laws_heldReaderS.g.rts laws_heldReaderS.g.pms)) := fun k x => laws_heldReaderS.f k x.1 x.2.1
@[reducible] noncomputable def laws_heldReaderS.sm (k : Nat) : Sm := ⟨40, laws_heldReaderS.g.pms, laws_heldReaderS.g.rts, laws_heldReaderS.fk k⟩
noncomputable def laws_heldReaderS.E (k : Nat) : Env := ⟨tys, [laws_heldEventS.sm k], [], [], []⟩
@[reducible] noncomputable def laws_heldReaderS.s5 : List Slot := [.v 0 (.sl tReader) .z [] 0, .v 4 (.int .i64) .z [] 0, .v 20 (.int .i64) .z [] 0]
noncomputable def laws_heldReaderS.pts : List (Pt (denR (outTys laws_heldReaderS.g.rts laws_heldReaderS.g.pms))) := [⟨5, laws_heldReaderS.s5, fun k x => laws_heldReaderS.p5 k x.1 x.2.1 x.2.2.1⟩]
theorem laws_heldReaderS.h5 (k : Nat) (x0 : (List Reader)) (x1 : Int) (x2 : Int) : (laws_heldReaderS.p5 (k + 1) x0 x1 x2 : Option (denR (outTys laws_heldReaderS.g.rts laws_heldReaderS.g.pms))) = evAt (laws_heldReaderS.E k) (fun κ s => lhOf k κ s laws_heldReaderS.pts) 5 b40 (unproj laws_heldReaderS.s5 (x0, x1, x2, ())) (OM.fin laws_heldReaderS.g Tryz.f40.results.toList) := by kernel_rfl
theorem laws_heldReaderS.hf (k : Nat) (a0 : (List Reader)) (a1 : Int) : (laws_heldReaderS.f k a0 a1 : Option (denR (outTys laws_heldReaderS.g.rts laws_heldReaderS.g.pms))) = evC (laws_heldReaderS.E k) (fun κ s => lhOf k κ s laws_heldReaderS.pts) b40 (OM.start laws_heldReaderS.g.pms 0 (a0, a1, ())) (OM.fin laws_heldReaderS.g Tryz.f40.results.toList) := by kernel_rfl
theorem laws_heldReaderS.ok (k : Nat) : SmOk Tryz.prog (laws_heldReaderS.sm k) :=
  sm_ok mixed (E := laws_heldReaderS.E) (pts := laws_heldReaderS.pts) (fun k => ⟨⟨tysOk, by kernel_rfl⟩, forall_cons ⟨laws_heldEventS.ok k, e67⟩ (forall_nil)⟩) (fun _ => rfl) (fun _ => rfl)
    ⟨Tryz.func40, by kernel_rfl, by kernel_rfl, by kernel_rfl, by kernel_rfl, by kernel_rfl, by kernel_rfl⟩ (forall_cons (fun x => ⟨rfl, fun k => laws_heldReaderS.h5 k x.1 x.2.1 x.2.2.1⟩) (forall_nil)) (fun k x => laws_heldReaderS.hf k x.1 x.2.1) k
noncomputable def b41 : Code := Tryz.f41.body.getD .skip
theorem e41 : OM.Entry Tryz.prog 41 := ⟨_, Tryz.func41, by kernel_rfl, by kernel_rfl⟩
@[reducible] noncomputable def laws_heldSentS.g : Sig := ⟨[.fz (.sl tSent), .fz (.int .i64)], [.v (.int .i64) .z], []⟩
@[reducible] noncomputable def laws_heldSentS.fk : Nat → denI laws_heldSentS.g.pms → Option (denR (outTys laws_heldSentS.g.rts laws_heldSentS.g.pms)) := fun k x => laws_heldSentS.f k x.1 x.2.1
@[reducible] noncomputable def laws_heldSentS.sm (k : Nat) : Sm := ⟨41, laws_heldSentS.g.pms, laws_heldSentS.g.rts, laws_heldSentS.fk k⟩
noncomputable def laws_heldSentS.E (k : Nat) : Env := ⟨tys, [laws_markText.sm k], [], [], [4]⟩
@[reducible] noncomputable def laws_heldSentS.s5 : List Slot := [.v 0 (.sl tSent) .z [] 0, .v 4 (.int .i64) .z [] 0, .v 20 (.int .i64) .z [] 0]
noncomputable def laws_heldSentS.pts : List (Pt (denR (outTys laws_heldSentS.g.rts laws_heldSentS.g.pms))) := [⟨5, laws_heldSentS.s5, fun k x => laws_heldSentS.p5 k x.1 x.2.1 x.2.2.1⟩]
theorem laws_heldSentS.h5 (k : Nat) (x0 : (List Sent)) (x1 : Int) (x2 : Int) : (laws_heldSentS.p5 (k + 1) x0 x1 x2 : Option (denR (outTys laws_heldSentS.g.rts laws_heldSentS.g.pms))) = evAt (laws_heldSentS.E k) (fun κ s => lhOf k κ s laws_heldSentS.pts) 5 b41 (unproj laws_heldSentS.s5 (x0, x1, x2, ())) (OM.fin laws_heldSentS.g Tryz.f41.results.toList) := by kernel_rfl
theorem laws_heldSentS.hf (k : Nat) (a0 : (List Sent)) (a1 : Int) : (laws_heldSentS.f k a0 a1 : Option (denR (outTys laws_heldSentS.g.rts laws_heldSentS.g.pms))) = evC (laws_heldSentS.E k) (fun κ s => lhOf k κ s laws_heldSentS.pts) b41 (OM.start laws_heldSentS.g.pms 0 (a0, a1, ())) (OM.fin laws_heldSentS.g Tryz.f41.results.toList) := by kernel_rfl
theorem laws_heldSentS.ok (k : Nat) : SmOk Tryz.prog (laws_heldSentS.sm k) :=
  sm_ok mixed (E := laws_heldSentS.E) (pts := laws_heldSentS.pts) (fun k => ⟨⟨tysOk, by kernel_rfl⟩, forall_cons ⟨laws_markText.ok k, e62⟩ (forall_nil)⟩) (fun _ => rfl) (fun _ => rfl)
    ⟨Tryz.func41, by kernel_rfl, by kernel_rfl, by kernel_rfl, by kernel_rfl, by kernel_rfl, by kernel_rfl⟩ (forall_cons (fun x => ⟨rfl, fun k => laws_heldSentS.h5 k x.1 x.2.1 x.2.2.1⟩) (forall_nil)) (fun k x => laws_heldSentS.hf k x.1 x.2.1) k
noncomputable def b12 : Code := Tryz.f12.body.getD .skip
theorem e12 : OM.Entry Tryz.prog 12 := ⟨_, Tryz.func12, by kernel_rfl, by kernel_rfl⟩
@[reducible] noncomputable def laws_heldWorld.g : Sig := ⟨[.fz tWorld, .fz (.int .i64)], [.v (.int .i64) .z], []⟩
@[reducible] noncomputable def laws_heldWorld.fk : Nat → denI laws_heldWorld.g.pms → Option (denR (outTys laws_heldWorld.g.rts laws_heldWorld.g.pms)) := fun k x => laws_heldWorld.f k x.1 x.2.1
@[reducible] noncomputable def laws_heldWorld.sm (k : Nat) : Sm := ⟨12, laws_heldWorld.g.pms, laws_heldWorld.g.rts, laws_heldWorld.fk k⟩
noncomputable def laws_heldWorld.E (k : Nat) : Env := ⟨tys, [laws_heldIntS.sm k, laws_heldConfig.sm k, laws_heldStoreS.sm k, laws_heldRegister.sm k, laws_heldWriterS.sm k, laws_heldMendS.sm k, laws_heldReaderS.sm k, laws_heldSentS.sm k], [], [], []⟩
noncomputable def laws_heldWorld.pts : List (Pt (denR (outTys laws_heldWorld.g.rts laws_heldWorld.g.pms))) := []
theorem laws_heldWorld.hf (k : Nat) (a0 : World) (a1 : Int) : (laws_heldWorld.f k a0 a1 : Option (denR (outTys laws_heldWorld.g.rts laws_heldWorld.g.pms))) = evC (laws_heldWorld.E k) (fun κ s => lhOf k κ s laws_heldWorld.pts) b12 (OM.start laws_heldWorld.g.pms 0 (a0, a1, ())) (OM.fin laws_heldWorld.g Tryz.f12.results.toList) := by kernel_rfl
theorem laws_heldWorld.ok (k : Nat) : SmOk Tryz.prog (laws_heldWorld.sm k) :=
  sm_ok mixed (E := laws_heldWorld.E) (pts := laws_heldWorld.pts) (fun k => ⟨⟨tysOk, by kernel_rfl⟩, forall_cons ⟨laws_heldIntS.ok k, e36⟩ (forall_cons ⟨laws_heldConfig.ok k, e34⟩ (forall_cons ⟨laws_heldStoreS.ok k, e35⟩ (forall_cons ⟨laws_heldRegister.ok k, e37⟩ (forall_cons ⟨laws_heldWriterS.ok k, e38⟩ (forall_cons ⟨laws_heldMendS.ok k, e39⟩ (forall_cons ⟨laws_heldReaderS.ok k, e40⟩ (forall_cons ⟨laws_heldSentS.ok k, e41⟩ (forall_nil))))))))⟩) (fun _ => rfl) (fun _ => rfl)
    ⟨Tryz.func12, by kernel_rfl, by kernel_rfl, by kernel_rfl, by kernel_rfl, by kernel_rfl, by kernel_rfl⟩ (forall_nil) (fun k x => laws_heldWorld.hf k x.1 x.2.1) k
noncomputable def b3 : Code := Tryz.f3.body.getD .skip
theorem e3 : OM.Entry Tryz.prog 3 := ⟨_, Tryz.func3, by kernel_rfl, by kernel_rfl⟩
@[reducible] noncomputable def laws_FnExactWorldNew.g : Sig := ⟨[.fz tConfig], [.v .bool .z], []⟩
@[reducible] noncomputable def laws_FnExactWorldNew.fk : Nat → denI laws_FnExactWorldNew.g.pms → Option (denR (outTys laws_FnExactWorldNew.g.rts laws_FnExactWorldNew.g.pms)) := fun k x => laws_FnExactWorldNew.f k x.1
@[reducible] noncomputable def laws_FnExactWorldNew.sm (k : Nat) : Sm := ⟨3, laws_FnExactWorldNew.g.pms, laws_FnExactWorldNew.g.rts, laws_FnExactWorldNew.fk k⟩
noncomputable def laws_FnExactWorldNew.E (k : Nat) : Env := ⟨tys, [laws_szConfig.sm k, laws_toConfig.sm k, spec_WorldNew.sm k, impl_WorldNew.sm k, laws_eqConfig.sm k, laws_eqWorld.sm k, laws_markConfig.sm k, laws_markWorld.sm k, laws_heldWorld.sm k], [], [], [4]⟩
noncomputable def laws_FnExactWorldNew.pts : List (Pt (denR (outTys laws_FnExactWorldNew.g.rts laws_FnExactWorldNew.g.pms))) := []
theorem laws_FnExactWorldNew.hf (k : Nat) (a0 : Config) : (laws_FnExactWorldNew.f k a0 : Option (denR (outTys laws_FnExactWorldNew.g.rts laws_FnExactWorldNew.g.pms))) = evC (laws_FnExactWorldNew.E k) (fun κ s => lhOf k κ s laws_FnExactWorldNew.pts) b3 (OM.start laws_FnExactWorldNew.g.pms 0 (a0, ())) (OM.fin laws_FnExactWorldNew.g Tryz.f3.results.toList) := by kernel_rfl
theorem laws_FnExactWorldNew.ok (k : Nat) : SmOk Tryz.prog (laws_FnExactWorldNew.sm k) :=
  sm_ok mixed (E := laws_FnExactWorldNew.E) (pts := laws_FnExactWorldNew.pts) (fun k => ⟨⟨tysOk, by kernel_rfl⟩, forall_cons ⟨laws_szConfig.ok k, e4⟩ (forall_cons ⟨laws_toConfig.ok k, e6⟩ (forall_cons ⟨spec_WorldNew.ok k, e5⟩ (forall_cons ⟨impl_WorldNew.ok k, e7⟩ (forall_cons ⟨laws_eqConfig.ok k, e9⟩ (forall_cons ⟨laws_eqWorld.ok k, e8⟩ (forall_cons ⟨laws_markConfig.ok k, e10⟩ (forall_cons ⟨laws_markWorld.ok k, e11⟩ (forall_cons ⟨laws_heldWorld.ok k, e12⟩ (forall_nil)))))))))⟩) (fun _ => rfl) (fun _ => rfl)
    ⟨Tryz.func3, by kernel_rfl, by kernel_rfl, by kernel_rfl, by kernel_rfl, by kernel_rfl, by kernel_rfl⟩ (forall_nil) (fun k x => laws_FnExactWorldNew.hf k x.1) k
end Go.Proofs.YthgnikafeamidabGreat.OmFnExactWorldNew
