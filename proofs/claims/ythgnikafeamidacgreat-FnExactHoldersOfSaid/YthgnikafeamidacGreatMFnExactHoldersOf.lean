import Derived.Test.YthgnikafeamidacGreatNFnExactHoldersOf
import Derived.Test.YthgnikafeamidacGreatChecked
set_option maxRecDepth 1000000
set_option linter.unusedVariables false
namespace Go.Proofs.YthgnikafeamidacGreat.OmFnExactHoldersOf
open Go Go.OM
noncomputable def b195 : Code := Tryz.f195.body.getD .skip
theorem e195 : OM.Entry Tryz.prog 195 := ⟨_, Tryz.func195, by kernel_rfl, by kernel_rfl⟩
@[reducible] noncomputable def impl_isOff.g : Sig := ⟨[.fz (.int .i64)], [.v .bool .z], []⟩
@[reducible] noncomputable def impl_isOff.fk : Nat → denI impl_isOff.g.pms → Option (denR (outTys impl_isOff.g.rts impl_isOff.g.pms)) := fun k x => impl_isOff.f x.1
@[reducible] noncomputable def impl_isOff.sm (k : Nat) : Sm := ⟨195, impl_isOff.g.pms, impl_isOff.g.rts, impl_isOff.fk k⟩
noncomputable def impl_isOff.E (k : Nat) : Env := ⟨tys, [impl_within.sm k], [], [], []⟩
noncomputable def impl_isOff.pts : List (Pt (denR (outTys impl_isOff.g.rts impl_isOff.g.pms))) := []
theorem impl_isOff.hf (k : Nat) (a0 : Int) : (impl_isOff.f a0 : Option (denR (outTys impl_isOff.g.rts impl_isOff.g.pms))) = evC (impl_isOff.E k) (fun κ s => lhOf k κ s impl_isOff.pts) b195 (OM.start impl_isOff.g.pms 0 (a0, ())) (OM.fin impl_isOff.g Tryz.f195.results.toList) := by kernel_rfl
theorem impl_isOff.ok (k : Nat) : SmOk Tryz.prog (impl_isOff.sm k) :=
  sm_ok mixed (E := impl_isOff.E) (pts := impl_isOff.pts) (fun k => ⟨⟨tysOk, by kernel_rfl⟩, forall_cons ⟨impl_within.ok k, e101⟩ (forall_nil)⟩) (fun _ => rfl) (fun _ => rfl)
    ⟨Tryz.func195, by kernel_rfl, by kernel_rfl, by kernel_rfl, by kernel_rfl, by kernel_rfl, by kernel_rfl⟩ (forall_nil) (fun k x => impl_isOff.hf k x.1) k
noncomputable def b159 : Code := Tryz.f159.body.getD .skip
theorem e159 : OM.Entry Tryz.prog 159 := ⟨_, Tryz.func159, by kernel_rfl, by kernel_rfl⟩
@[reducible] noncomputable def impl_PlaceOk.g : Sig := ⟨[.fz (.int .i64)], [.v .bool .z], []⟩
@[reducible] noncomputable def impl_PlaceOk.fk : Nat → denI impl_PlaceOk.g.pms → Option (denR (outTys impl_PlaceOk.g.rts impl_PlaceOk.g.pms)) := fun k x => impl_PlaceOk.f x.1
@[reducible] noncomputable def impl_PlaceOk.sm (k : Nat) : Sm := ⟨159, impl_PlaceOk.g.pms, impl_PlaceOk.g.rts, impl_PlaceOk.fk k⟩
noncomputable def impl_PlaceOk.E (k : Nat) : Env := ⟨tys, [impl_isEpoch.sm k, impl_isOff.sm k], [], [], []⟩
noncomputable def impl_PlaceOk.pts : List (Pt (denR (outTys impl_PlaceOk.g.rts impl_PlaceOk.g.pms))) := []
theorem impl_PlaceOk.hf (k : Nat) (a0 : Int) : (impl_PlaceOk.f a0 : Option (denR (outTys impl_PlaceOk.g.rts impl_PlaceOk.g.pms))) = evC (impl_PlaceOk.E k) (fun κ s => lhOf k κ s impl_PlaceOk.pts) b159 (OM.start impl_PlaceOk.g.pms 0 (a0, ())) (OM.fin impl_PlaceOk.g Tryz.f159.results.toList) := by kernel_rfl
theorem impl_PlaceOk.ok (k : Nat) : SmOk Tryz.prog (impl_PlaceOk.sm k) :=
  sm_ok mixed (E := impl_PlaceOk.E) (pts := impl_PlaceOk.pts) (fun k => ⟨⟨tysOk, by kernel_rfl⟩, forall_cons ⟨impl_isEpoch.ok k, e161⟩ (forall_cons ⟨impl_isOff.ok k, e195⟩ (forall_nil))⟩) (fun _ => rfl) (fun _ => rfl)
    ⟨Tryz.func159, by kernel_rfl, by kernel_rfl, by kernel_rfl, by kernel_rfl, by kernel_rfl, by kernel_rfl⟩ (forall_nil) (fun k x => impl_PlaceOk.hf k x.1) k
noncomputable def b112 : Code := Tryz.f112.body.getD .skip
theorem e112 : OM.Entry Tryz.prog 112 := ⟨_, Tryz.func112, by kernel_rfl, by kernel_rfl⟩
@[reducible] noncomputable def impl_dataOk.g : Sig := ⟨[.fz .str], [.v .bool .z], []⟩
@[reducible] noncomputable def impl_dataOk.fk : Nat → denI impl_dataOk.g.pms → Option (denR (outTys impl_dataOk.g.rts impl_dataOk.g.pms)) := fun k x => impl_dataOk.f x.1
@[reducible] noncomputable def impl_dataOk.sm (k : Nat) : Sm := ⟨112, impl_dataOk.g.pms, impl_dataOk.g.rts, impl_dataOk.fk k⟩
noncomputable def impl_dataOk.E (k : Nat) : Env := ⟨tys, [], [], [], []⟩
noncomputable def impl_dataOk.pts : List (Pt (denR (outTys impl_dataOk.g.rts impl_dataOk.g.pms))) := []
theorem impl_dataOk.hf (k : Nat) (a0 : ByteArray) : (impl_dataOk.f a0 : Option (denR (outTys impl_dataOk.g.rts impl_dataOk.g.pms))) = evC (impl_dataOk.E k) (fun κ s => lhOf k κ s impl_dataOk.pts) b112 (OM.start impl_dataOk.g.pms 0 (a0, ())) (OM.fin impl_dataOk.g Tryz.f112.results.toList) := by kernel_rfl
theorem impl_dataOk.ok (k : Nat) : SmOk Tryz.prog (impl_dataOk.sm k) :=
  sm_ok mixed (E := impl_dataOk.E) (pts := impl_dataOk.pts) (fun k => ⟨⟨tysOk, by kernel_rfl⟩, forall_nil⟩) (fun _ => rfl) (fun _ => rfl)
    ⟨Tryz.func112, by kernel_rfl, by kernel_rfl, by kernel_rfl, by kernel_rfl, by kernel_rfl, by kernel_rfl⟩ (forall_nil) (fun k x => impl_dataOk.hf k x.1) k
noncomputable def b106 : Code := Tryz.f106.body.getD .skip
theorem e106 : OM.Entry Tryz.prog 106 := ⟨_, Tryz.func106, by kernel_rfl, by kernel_rfl⟩
@[reducible] noncomputable def impl_EpochOf.g : Sig := ⟨[.fz (.int .i64)], [.v (.int .i64) .z], []⟩
@[reducible] noncomputable def impl_EpochOf.fk : Nat → denI impl_EpochOf.g.pms → Option (denR (outTys impl_EpochOf.g.rts impl_EpochOf.g.pms)) := fun k x => impl_EpochOf.f x.1
@[reducible] noncomputable def impl_EpochOf.sm (k : Nat) : Sm := ⟨106, impl_EpochOf.g.pms, impl_EpochOf.g.rts, impl_EpochOf.fk k⟩
noncomputable def impl_EpochOf.E (k : Nat) : Env := ⟨tys, [impl_PlaceOk.sm k], [], [], []⟩
noncomputable def impl_EpochOf.pts : List (Pt (denR (outTys impl_EpochOf.g.rts impl_EpochOf.g.pms))) := []
theorem impl_EpochOf.hf (k : Nat) (a0 : Int) : (impl_EpochOf.f a0 : Option (denR (outTys impl_EpochOf.g.rts impl_EpochOf.g.pms))) = evC (impl_EpochOf.E k) (fun κ s => lhOf k κ s impl_EpochOf.pts) b106 (OM.start impl_EpochOf.g.pms 0 (a0, ())) (OM.fin impl_EpochOf.g Tryz.f106.results.toList) := by kernel_rfl
theorem impl_EpochOf.ok (k : Nat) : SmOk Tryz.prog (impl_EpochOf.sm k) :=
  sm_ok mixed (E := impl_EpochOf.E) (pts := impl_EpochOf.pts) (fun k => ⟨⟨tysOk, by kernel_rfl⟩, forall_cons ⟨impl_PlaceOk.ok k, e159⟩ (forall_nil)⟩) (fun _ => rfl) (fun _ => rfl)
    ⟨Tryz.func106, by kernel_rfl, by kernel_rfl, by kernel_rfl, by kernel_rfl, by kernel_rfl, by kernel_rfl⟩ (forall_nil) (fun k x => impl_EpochOf.hf k x.1) k
noncomputable def b183 : Code := Tryz.f183.body.getD .skip
theorem e183 : OM.Entry Tryz.prog 183 := ⟨_, Tryz.func183, by kernel_rfl, by kernel_rfl⟩
@[reducible] noncomputable def impl_EntryOk.g : Sig := ⟨[.fz tEntry], [.v .bool .z], []⟩
@[reducible] noncomputable def impl_EntryOk.fk : Nat → denI impl_EntryOk.g.pms → Option (denR (outTys impl_EntryOk.g.rts impl_EntryOk.g.pms)) := fun k x => impl_EntryOk.f k x.1
@[reducible] noncomputable def impl_EntryOk.sm (k : Nat) : Sm := ⟨183, impl_EntryOk.g.pms, impl_EntryOk.g.rts, impl_EntryOk.fk k⟩
noncomputable def impl_EntryOk.E (k : Nat) : Env := ⟨tys, [impl_within.sm k, impl_PlaceOk.sm k, impl_dataOk.sm k, impl_EpochOf.sm k], [], [2, 3], []⟩
@[reducible] noncomputable def impl_EntryOk.s4 : List Slot := [.r 4 5 [] tEntry, .v 12 .bool .z [] 0, .v 5 tEntry .z [] 0]
@[reducible] noncomputable def impl_EntryOk.s6 : List Slot := [.r 4 5 [] tEntry, .v 12 .bool .z [] 0, .v 16 .bool .z [] 0, .v 5 tEntry .z [] 0]
noncomputable def impl_EntryOk.pts : List (Pt (denR (outTys impl_EntryOk.g.rts impl_EntryOk.g.pms))) := [⟨4, impl_EntryOk.s4, fun k x => impl_EntryOk.p4 k x.1 x.2.1⟩, ⟨6, impl_EntryOk.s6, fun k x => impl_EntryOk.p6 k x.1 x.2.1 x.2.2.1⟩]
theorem impl_EntryOk.h4 (k : Nat) (x0 : Bool) (x1 : Entry) : (impl_EntryOk.p4 (k + 1) x0 x1 : Option (denR (outTys impl_EntryOk.g.rts impl_EntryOk.g.pms))) = evAt (impl_EntryOk.E k) (fun κ s => lhOf k κ s impl_EntryOk.pts) 4 b183 (unproj impl_EntryOk.s4 (x0, x1, ())) (OM.fin impl_EntryOk.g Tryz.f183.results.toList) := by kernel_rfl
theorem impl_EntryOk.h6 (k : Nat) (x0 : Bool) (x1 : Bool) (x2 : Entry) : (impl_EntryOk.p6 (k + 1) x0 x1 x2 : Option (denR (outTys impl_EntryOk.g.rts impl_EntryOk.g.pms))) = evAt (impl_EntryOk.E k) (fun κ s => lhOf k κ s impl_EntryOk.pts) 6 b183 (unproj impl_EntryOk.s6 (x0, x1, x2, ())) (OM.fin impl_EntryOk.g Tryz.f183.results.toList) := by kernel_rfl
theorem impl_EntryOk.hf (k : Nat) (a0 : Entry) : (impl_EntryOk.f k a0 : Option (denR (outTys impl_EntryOk.g.rts impl_EntryOk.g.pms))) = evC (impl_EntryOk.E k) (fun κ s => lhOf k κ s impl_EntryOk.pts) b183 (OM.start impl_EntryOk.g.pms 0 (a0, ())) (OM.fin impl_EntryOk.g Tryz.f183.results.toList) := by kernel_rfl
theorem impl_EntryOk.ok (k : Nat) : SmOk Tryz.prog (impl_EntryOk.sm k) :=
  sm_ok mixed (E := impl_EntryOk.E) (pts := impl_EntryOk.pts) (fun k => ⟨⟨tysOk, by kernel_rfl⟩, forall_cons ⟨impl_within.ok k, e101⟩ (forall_cons ⟨impl_PlaceOk.ok k, e159⟩ (forall_cons ⟨impl_dataOk.ok k, e112⟩ (forall_cons ⟨impl_EpochOf.ok k, e106⟩ (forall_nil))))⟩) (fun _ => rfl) (fun _ => rfl)
    ⟨Tryz.func183, by kernel_rfl, by kernel_rfl, by kernel_rfl, by kernel_rfl, by kernel_rfl, by kernel_rfl⟩ (forall_cons (fun x => ⟨rfl, fun k => impl_EntryOk.h4 k x.1 x.2.1⟩) (forall_cons (fun x => ⟨rfl, fun k => impl_EntryOk.h6 k x.1 x.2.1 x.2.2.1⟩) (forall_nil))) (fun k x => impl_EntryOk.hf k x.1) k
noncomputable def b135 : Code := Tryz.f135.body.getD .skip
theorem e135 : OM.Entry Tryz.prog 135 := ⟨_, Tryz.func135, by kernel_rfl, by kernel_rfl⟩
@[reducible] noncomputable def impl_entriesOk.g : Sig := ⟨[.fz (.sl tEntry)], [.v .bool .z], []⟩
@[reducible] noncomputable def impl_entriesOk.fk : Nat → denI impl_entriesOk.g.pms → Option (denR (outTys impl_entriesOk.g.rts impl_entriesOk.g.pms)) := fun k x => impl_entriesOk.f k x.1
@[reducible] noncomputable def impl_entriesOk.sm (k : Nat) : Sm := ⟨135, impl_entriesOk.g.pms, impl_entriesOk.g.rts, impl_entriesOk.fk k⟩
noncomputable def impl_entriesOk.E (k : Nat) : Env := ⟨tys, [impl_EntryOk.sm k], [10], [], []⟩
@[reducible] noncomputable def impl_entriesOk.s5 : List Slot := [.v 20 (.sl tEntry) .z [] 0, .v 24 (.int .i64) .z [] 0, .v 28 (.int .i64) .z [] 0]
noncomputable def impl_entriesOk.pts : List (Pt (denR (outTys impl_entriesOk.g.rts impl_entriesOk.g.pms))) := [⟨5, impl_entriesOk.s5, fun k x => impl_entriesOk.p5 k x.1 x.2.1 x.2.2.1⟩]
theorem impl_entriesOk.h5 (k : Nat) (x0 : (List Entry)) (x1 : Int) (x2 : Int) : (impl_entriesOk.p5 (k + 1) x0 x1 x2 : Option (denR (outTys impl_entriesOk.g.rts impl_entriesOk.g.pms))) = evAt (impl_entriesOk.E k) (fun κ s => lhOf k κ s impl_entriesOk.pts) 5 b135 (unproj impl_entriesOk.s5 (x0, x1, x2, ())) (OM.fin impl_entriesOk.g Tryz.f135.results.toList) := by kernel_rfl
theorem impl_entriesOk.hf (k : Nat) (a0 : (List Entry)) : (impl_entriesOk.f k a0 : Option (denR (outTys impl_entriesOk.g.rts impl_entriesOk.g.pms))) = evC (impl_entriesOk.E k) (fun κ s => lhOf k κ s impl_entriesOk.pts) b135 (OM.start impl_entriesOk.g.pms 0 (a0, ())) (OM.fin impl_entriesOk.g Tryz.f135.results.toList) := by kernel_rfl
theorem impl_entriesOk.ok (k : Nat) : SmOk Tryz.prog (impl_entriesOk.sm k) :=
  sm_ok mixed (E := impl_entriesOk.E) (pts := impl_entriesOk.pts) (fun k => ⟨⟨tysOk, by kernel_rfl⟩, forall_cons ⟨impl_EntryOk.ok k, e183⟩ (forall_nil)⟩) (fun _ => rfl) (fun _ => rfl)
    ⟨Tryz.func135, by kernel_rfl, by kernel_rfl, by kernel_rfl, by kernel_rfl, by kernel_rfl, by kernel_rfl⟩ (forall_cons (fun x => ⟨rfl, fun k => impl_entriesOk.h5 k x.1 x.2.1 x.2.2.1⟩) (forall_nil)) (fun k x => impl_entriesOk.hf k x.1) k
noncomputable def b136 : Code := Tryz.f136.body.getD .skip
theorem e136 : OM.Entry Tryz.prog 136 := ⟨_, Tryz.func136, by kernel_rfl, by kernel_rfl⟩
@[reducible] noncomputable def impl_placesAscend.g : Sig := ⟨[.fz (.sl tEntry)], [.v .bool .z], []⟩
@[reducible] noncomputable def impl_placesAscend.fk : Nat → denI impl_placesAscend.g.pms → Option (denR (outTys impl_placesAscend.g.rts impl_placesAscend.g.pms)) := fun k x => impl_placesAscend.f k x.1
@[reducible] noncomputable def impl_placesAscend.sm (k : Nat) : Sm := ⟨136, impl_placesAscend.g.pms, impl_placesAscend.g.rts, impl_placesAscend.fk k⟩
noncomputable def impl_placesAscend.E (k : Nat) : Env := ⟨tys, [], [11], [], []⟩
@[reducible] noncomputable def impl_placesAscend.s5 : List Slot := [.v 0 (.sl tEntry) .z [] 0, .v 20 (.sl tEntry) .z [] 0, .v 24 (.int .i64) .z [] 0, .v 28 (.int .i64) .z [] 0]
noncomputable def impl_placesAscend.pts : List (Pt (denR (outTys impl_placesAscend.g.rts impl_placesAscend.g.pms))) := [⟨5, impl_placesAscend.s5, fun k x => impl_placesAscend.p5 k x.1 x.2.1 x.2.2.1 x.2.2.2.1⟩]
theorem impl_placesAscend.h5 (k : Nat) (x0 : (List Entry)) (x1 : (List Entry)) (x2 : Int) (x3 : Int) : (impl_placesAscend.p5 (k + 1) x0 x1 x2 x3 : Option (denR (outTys impl_placesAscend.g.rts impl_placesAscend.g.pms))) = evAt (impl_placesAscend.E k) (fun κ s => lhOf k κ s impl_placesAscend.pts) 5 b136 (unproj impl_placesAscend.s5 (x0, x1, x2, x3, ())) (OM.fin impl_placesAscend.g Tryz.f136.results.toList) := by kernel_rfl
theorem impl_placesAscend.hf (k : Nat) (a0 : (List Entry)) : (impl_placesAscend.f k a0 : Option (denR (outTys impl_placesAscend.g.rts impl_placesAscend.g.pms))) = evC (impl_placesAscend.E k) (fun κ s => lhOf k κ s impl_placesAscend.pts) b136 (OM.start impl_placesAscend.g.pms 0 (a0, ())) (OM.fin impl_placesAscend.g Tryz.f136.results.toList) := by kernel_rfl
theorem impl_placesAscend.ok (k : Nat) : SmOk Tryz.prog (impl_placesAscend.sm k) :=
  sm_ok mixed (E := impl_placesAscend.E) (pts := impl_placesAscend.pts) (fun k => ⟨⟨tysOk, by kernel_rfl⟩, forall_nil⟩) (fun _ => rfl) (fun _ => rfl)
    ⟨Tryz.func136, by kernel_rfl, by kernel_rfl, by kernel_rfl, by kernel_rfl, by kernel_rfl, by kernel_rfl⟩ (forall_cons (fun x => ⟨rfl, fun k => impl_placesAscend.h5 k x.1 x.2.1 x.2.2.1 x.2.2.2.1⟩) (forall_nil)) (fun k x => impl_placesAscend.hf k x.1) k
noncomputable def b70 : Code := Tryz.f70.body.getD .skip
theorem e70 : OM.Entry Tryz.prog 70 := ⟨_, Tryz.func70, by kernel_rfl, by kernel_rfl⟩
@[reducible] noncomputable def impl_StoreOk.g : Sig := ⟨[.fz tStore], [.v .bool .z], []⟩
@[reducible] noncomputable def impl_StoreOk.fk : Nat → denI impl_StoreOk.g.pms → Option (denR (outTys impl_StoreOk.g.rts impl_StoreOk.g.pms)) := fun k x => impl_StoreOk.f k x.1
@[reducible] noncomputable def impl_StoreOk.sm (k : Nat) : Sm := ⟨70, impl_StoreOk.g.pms, impl_StoreOk.g.rts, impl_StoreOk.fk k⟩
noncomputable def impl_StoreOk.E (k : Nat) : Env := ⟨tys, [impl_within.sm k, impl_entriesOk.sm k, impl_placesAscend.sm k], [], [], []⟩
noncomputable def impl_StoreOk.pts : List (Pt (denR (outTys impl_StoreOk.g.rts impl_StoreOk.g.pms))) := []
theorem impl_StoreOk.hf (k : Nat) (a0 : Store) : (impl_StoreOk.f k a0 : Option (denR (outTys impl_StoreOk.g.rts impl_StoreOk.g.pms))) = evC (impl_StoreOk.E k) (fun κ s => lhOf k κ s impl_StoreOk.pts) b70 (OM.start impl_StoreOk.g.pms 0 (a0, ())) (OM.fin impl_StoreOk.g Tryz.f70.results.toList) := by kernel_rfl
theorem impl_StoreOk.ok (k : Nat) : SmOk Tryz.prog (impl_StoreOk.sm k) :=
  sm_ok mixed (E := impl_StoreOk.E) (pts := impl_StoreOk.pts) (fun k => ⟨⟨tysOk, by kernel_rfl⟩, forall_cons ⟨impl_within.ok k, e101⟩ (forall_cons ⟨impl_entriesOk.ok k, e135⟩ (forall_cons ⟨impl_placesAscend.ok k, e136⟩ (forall_nil)))⟩) (fun _ => rfl) (fun _ => rfl)
    ⟨Tryz.func70, by kernel_rfl, by kernel_rfl, by kernel_rfl, by kernel_rfl, by kernel_rfl, by kernel_rfl⟩ (forall_nil) (fun k x => impl_StoreOk.hf k x.1) k
noncomputable def b192 : Code := Tryz.f192.body.getD .skip
theorem e192 : OM.Entry Tryz.prog 192 := ⟨_, Tryz.func192, by kernel_rfl, by kernel_rfl⟩
@[reducible] noncomputable def impl_copyInts.g : Sig := ⟨[.fz (.sl (.int .i64))], [.v (.sl (.int .i64)) (.own .z)], []⟩
@[reducible] noncomputable def impl_copyInts.fk : Nat → denI impl_copyInts.g.pms → Option (denR (outTys impl_copyInts.g.rts impl_copyInts.g.pms)) := fun k x => impl_copyInts.f x.1
@[reducible] noncomputable def impl_copyInts.sm (k : Nat) : Sm := ⟨192, impl_copyInts.g.pms, impl_copyInts.g.rts, impl_copyInts.fk k⟩
noncomputable def impl_copyInts.E (k : Nat) : Env := ⟨tys, [], [4], [], []⟩
noncomputable def impl_copyInts.pts : List (Pt (denR (outTys impl_copyInts.g.rts impl_copyInts.g.pms))) := []
theorem impl_copyInts.hf (k : Nat) (a0 : (List Int)) : (impl_copyInts.f a0 : Option (denR (outTys impl_copyInts.g.rts impl_copyInts.g.pms))) = evC (impl_copyInts.E k) (fun κ s => lhOf k κ s impl_copyInts.pts) b192 (OM.start impl_copyInts.g.pms 0 (a0, ())) (OM.fin impl_copyInts.g Tryz.f192.results.toList) := by kernel_rfl
theorem impl_copyInts.ok (k : Nat) : SmOk Tryz.prog (impl_copyInts.sm k) :=
  sm_ok mixed (E := impl_copyInts.E) (pts := impl_copyInts.pts) (fun k => ⟨⟨tysOk, by kernel_rfl⟩, forall_nil⟩) (fun _ => rfl) (fun _ => rfl)
    ⟨Tryz.func192, by kernel_rfl, by kernel_rfl, by kernel_rfl, by kernel_rfl, by kernel_rfl, by kernel_rfl⟩ (forall_nil) (fun k x => impl_copyInts.hf k x.1) k
noncomputable def b191 : Code := Tryz.f191.body.getD .skip
theorem e191 : OM.Entry Tryz.prog 191 := ⟨_, Tryz.func191, by kernel_rfl, by kernel_rfl⟩
noncomputable def slices_DeleteFunc_int_int_impl_both_1.rho : Shelf.Ren := ⟨fun n => cond (Nat.beq n 6) 223 (cond (Nat.beq n 10) 191 (n)), fun n => cond (Nat.beq n 22) 22 (cond (Nat.beq n 23) 3 (cond (Nat.beq n 25) 146 (cond (Nat.beq n 0) 0 (cond (Nat.beq n 3) 3 (cond (Nat.beq n 4) 4 (n)))))), fun n => n⟩
theorem slices_DeleteFunc_int_int_impl_both_1.lay : Proofs.SlLaysH.n10 Tryz.prog slices_DeleteFunc_int_int_impl_both_1.rho := { mixed := mixed, f6 := ⟨"slices.IndexFunc[[]int,int]", by kernel_rfl, (Tryz.func223).trans (congrArg some (by kernel_rfl))⟩, f10 := ⟨"slices.DeleteFunc[[]int,int]", by kernel_rfl, (Tryz.func191).trans (congrArg some (by kernel_rfl))⟩, t0 := Tryz.underlying0, a0 := Tryz.isAgg0, z0 := Tryz.sizeOf0, v0 := Tryz.zeroValue0, t3 := Tryz.underlying3, a3 := Tryz.isAgg3, z3 := Tryz.sizeOf3, v3 := Tryz.zeroValue3, t4 := Tryz.underlying4, a4 := Tryz.isAgg4, z4 := Tryz.sizeOf4, v4 := Tryz.zeroValue4, t22 := Tryz.underlying22, a22 := Tryz.isAgg22, z22 := Tryz.sizeOf22, v22 := Tryz.zeroValue22, a23 := Tryz.isAgg3, z23 := Tryz.sizeOf3, t25 := Tryz.underlying146, a25 := Tryz.isAgg146, z25 := Tryz.sizeOf146, v25 := Tryz.zeroValue146 }
noncomputable def slices_DeleteFunc_int_int_impl_both_1.rhoC : Shelf.Ren := ⟨fun n => cond (Nat.beq n 29) 224 (cond (Nat.beq n 31) 194 (n)), fun n => cond (Nat.beq n 22) 22 (cond (Nat.beq n 23) 3 (cond (Nat.beq n 0) 0 (cond (Nat.beq n 3) 3 (cond (Nat.beq n 4) 4 (n))))), fun n => n⟩
theorem slices_DeleteFunc_int_int_impl_both_1.layC : Proofs.SlLaysE.n31 Tryz.prog slices_DeleteFunc_int_int_impl_both_1.rhoC := { mixed := mixed, f29 := ⟨"slices.Index[[]int,int]", by kernel_rfl, (Tryz.func224).trans (congrArg some (by kernel_rfl))⟩, f31 := ⟨"slices.Contains[[]int,int]", by kernel_rfl, (Tryz.func194).trans (congrArg some (by kernel_rfl))⟩, t0 := Tryz.underlying0, a0 := Tryz.isAgg0, z0 := Tryz.sizeOf0, v0 := Tryz.zeroValue0, t3 := Tryz.underlying3, a3 := Tryz.isAgg3, z3 := Tryz.sizeOf3, v3 := Tryz.zeroValue3, t4 := Tryz.underlying4, a4 := Tryz.isAgg4, z4 := Tryz.sizeOf4, v4 := Tryz.zeroValue4, t22 := Tryz.underlying22, a22 := Tryz.isAgg22, z22 := Tryz.sizeOf22, v22 := Tryz.zeroValue22, a23 := Tryz.isAgg3, z23 := Tryz.sizeOf3 }
theorem slices_DeleteFunc_int_int_impl_both_1.gives (w : Go.World) (S : Nat → Prop) (y : ((List Int) × Unit)) (cap : List Value) (x : Int) (hy : slices_DeleteFunc_int_int_impl_both_1.okp y) (h : Rp w S (.pair (.fp (.sl (.int .i64))) .unit) .z y cap (fun _ => False)) : Proofs.FnGives Tryz.prog 193 cap.toArray #[.int .i64 x] (.bool (slices_DeleteFunc_int_int_impl_both_1.pred y x)) w := by
  obtain ⟨b, off, c1, rfl, h1, h2⟩ := cap_one h
  obtain ⟨a, n, c, rfl⟩ : ∃ a n c, c1 = [.slice a n c] := by
    obtain ⟨a, c, e, _⟩ := h2
    exact ⟨a, _, c, e⟩
  have hcell : w.cell? ⟨b, off, none⟩ = some (.slice a n c) := h1 0 _ rfl
  have hcon := contains_calls slices_DeleteFunc_int_int_impl_both_1.layC h2 hy x
  change Calls Tryz.prog 194 _ _ _ at hcon
  unfold slices_DeleteFunc_int_int_impl_both_1.pred
  generalize (y.1.any fun u => decide (x = u)) = r at hcon ⊢
  clear h h1 h2 hy
  show Calls Tryz.prog 193 #[.int .i64 x, .pointer (some ⟨b, off, none⟩)] w _
  go_enter Tryz.func193, Tryz.ntmps193
  go_wp2_with (go_at_call 194; refine hcon.mono ?_; rintro e w' ⟨rfl, rfl⟩)
  all_goals (go_ret; exact ⟨rfl, 0, rfl⟩)
@[reducible] noncomputable def slices_DeleteFunc_int_int_impl_both_1.g : Sig := ⟨[.own (.sl (.int .i64)) (.own .z), .fz (.fn 193 (.pair (.fp (.sl (.int .i64))) .unit))], [.v (.sl (.int .i64)) (.own .z)], []⟩
@[reducible] noncomputable def slices_DeleteFunc_int_int_impl_both_1.fk : Nat → denI slices_DeleteFunc_int_int_impl_both_1.g.pms → Option (denR (outTys slices_DeleteFunc_int_int_impl_both_1.g.rts slices_DeleteFunc_int_int_impl_both_1.g.pms)) := fun k x => slices_DeleteFunc_int_int_impl_both_1.f x.1 x.2.1
@[reducible] noncomputable def slices_DeleteFunc_int_int_impl_both_1.sm (k : Nat) : Sm := ⟨191, slices_DeleteFunc_int_int_impl_both_1.g.pms, slices_DeleteFunc_int_int_impl_both_1.g.rts, slices_DeleteFunc_int_int_impl_both_1.fk k⟩
theorem slices_DeleteFunc_int_int_impl_both_1.ok (k : Nat) : SmOk Tryz.prog (slices_DeleteFunc_int_int_impl_both_1.sm k) :=
  del_ok (t := (.pair (.fp (.sl (.int .i64))) .unit)) slices_DeleteFunc_int_int_impl_both_1.lay Tryz.zeroValue3 (Proofs.enters_of Tryz.func193 (by kernel_rfl) rfl) slices_DeleteFunc_int_int_impl_both_1.pred slices_DeleteFunc_int_int_impl_both_1.okp slices_DeleteFunc_int_int_impl_both_1.gives

noncomputable def b157 : Code := Tryz.f157.body.getD .skip
theorem e157 : OM.Entry Tryz.prog 157 := ⟨_, Tryz.func157, by kernel_rfl, by kernel_rfl⟩
@[reducible] noncomputable def impl_both.g : Sig := ⟨[.fz (.sl (.int .i64)), .fz (.sl (.int .i64))], [.v (.sl (.int .i64)) (.own .z)], []⟩
@[reducible] noncomputable def impl_both.fk : Nat → denI impl_both.g.pms → Option (denR (outTys impl_both.g.rts impl_both.g.pms)) := fun k x => impl_both.f x.1 x.2.1
@[reducible] noncomputable def impl_both.sm (k : Nat) : Sm := ⟨157, impl_both.g.pms, impl_both.g.rts, impl_both.fk k⟩
noncomputable def impl_both.E (k : Nat) : Env := ⟨tys, [impl_copyInts.sm k, slices_DeleteFunc_int_int_impl_both_1.sm k], [], [], []⟩
noncomputable def impl_both.pts : List (Pt (denR (outTys impl_both.g.rts impl_both.g.pms))) := []
theorem impl_both.hf (k : Nat) (a0 : (List Int)) (a1 : (List Int)) : (impl_both.f a0 a1 : Option (denR (outTys impl_both.g.rts impl_both.g.pms))) = evC (impl_both.E k) (fun κ s => lhOf k κ s impl_both.pts) b157 (OM.start impl_both.g.pms 0 (a0, a1, ())) (OM.fin impl_both.g Tryz.f157.results.toList) := by kernel_rfl
theorem impl_both.ok (k : Nat) : SmOk Tryz.prog (impl_both.sm k) :=
  sm_ok mixed (E := impl_both.E) (pts := impl_both.pts) (fun k => ⟨⟨tysOk, by kernel_rfl⟩, forall_cons ⟨impl_copyInts.ok k, e192⟩ (forall_cons ⟨slices_DeleteFunc_int_int_impl_both_1.ok k, e191⟩ (forall_nil))⟩) (fun _ => rfl) (fun _ => rfl)
    ⟨Tryz.func157, by kernel_rfl, by kernel_rfl, by kernel_rfl, by kernel_rfl, by kernel_rfl, by kernel_rfl⟩ (forall_nil) (fun k x => impl_both.hf k x.1 x.2.1) k
noncomputable def b103 : Code := Tryz.f103.body.getD .skip
theorem e103 : OM.Entry Tryz.prog 103 := ⟨_, Tryz.func103, by kernel_rfl, by kernel_rfl⟩
@[reducible] noncomputable def impl_World_isLost.g : Sig := ⟨[.fz (.fp tWorld), .fz (.int .i64)], [.v .bool .z], []⟩
@[reducible] noncomputable def impl_World_isLost.fk : Nat → denI impl_World_isLost.g.pms → Option (denR (outTys impl_World_isLost.g.rts impl_World_isLost.g.pms)) := fun k x => impl_World_isLost.f x.1 x.2.1
@[reducible] noncomputable def impl_World_isLost.sm (k : Nat) : Sm := ⟨103, impl_World_isLost.g.pms, impl_World_isLost.g.rts, impl_World_isLost.fk k⟩
noncomputable def impl_World_isLost.E (k : Nat) : Env := ⟨tys, [impl_both.sm k], [5], [], []⟩
noncomputable def impl_World_isLost.pts : List (Pt (denR (outTys impl_World_isLost.g.rts impl_World_isLost.g.pms))) := []
theorem impl_World_isLost.hf (k : Nat) (a0 : World) (a1 : Int) : (impl_World_isLost.f a0 a1 : Option (denR (outTys impl_World_isLost.g.rts impl_World_isLost.g.pms))) = evC (impl_World_isLost.E k) (fun κ s => lhOf k κ s impl_World_isLost.pts) b103 (OM.start impl_World_isLost.g.pms 0 (a0, a1, ())) (OM.fin impl_World_isLost.g Tryz.f103.results.toList) := by kernel_rfl
theorem impl_World_isLost.ok (k : Nat) : SmOk Tryz.prog (impl_World_isLost.sm k) :=
  sm_ok mixed (E := impl_World_isLost.E) (pts := impl_World_isLost.pts) (fun k => ⟨⟨tysOk, by kernel_rfl⟩, forall_cons ⟨impl_both.ok k, e157⟩ (forall_nil)⟩) (fun _ => rfl) (fun _ => rfl)
    ⟨Tryz.func103, by kernel_rfl, by kernel_rfl, by kernel_rfl, by kernel_rfl, by kernel_rfl, by kernel_rfl⟩ (forall_nil) (fun k x => impl_World_isLost.hf k x.1 x.2.1) k
noncomputable def b224 : Code := Tryz.f224.body.getD .skip
theorem e224 : OM.Entry Tryz.prog 224 := ⟨_, Tryz.func224, by kernel_rfl, by kernel_rfl⟩
@[reducible] noncomputable def slices_Index_int_int.g : Sig := ⟨[.fz (.sl (.int .i64)), .fz (.int .i64)], [.v (.int .i64) .z], []⟩
@[reducible] noncomputable def slices_Index_int_int.fk : Nat → denI slices_Index_int_int.g.pms → Option (denR (outTys slices_Index_int_int.g.rts slices_Index_int_int.g.pms)) := fun k x => slices_Index_int_int.f k x.1 x.2.1
@[reducible] noncomputable def slices_Index_int_int.sm (k : Nat) : Sm := ⟨224, slices_Index_int_int.g.pms, slices_Index_int_int.g.rts, slices_Index_int_int.fk k⟩
noncomputable def slices_Index_int_int.E (k : Nat) : Env := ⟨tys, [], [], [], []⟩
@[reducible] noncomputable def slices_Index_int_int.s5 : List Slot := [.v 0 (.sl (.int .i64)) .z [] 0, .v 4 (.int .i64) .z [] 0, .v 28 (.int .i64) .z [] 0, .v 32 (.int .i64) .z [] 0]
noncomputable def slices_Index_int_int.pts : List (Pt (denR (outTys slices_Index_int_int.g.rts slices_Index_int_int.g.pms))) := [⟨5, slices_Index_int_int.s5, fun k x => slices_Index_int_int.p5 k x.1 x.2.1 x.2.2.1 x.2.2.2.1⟩]
theorem slices_Index_int_int.h5 (k : Nat) (x0 : (List Int)) (x1 : Int) (x2 : Int) (x3 : Int) : (slices_Index_int_int.p5 (k + 1) x0 x1 x2 x3 : Option (denR (outTys slices_Index_int_int.g.rts slices_Index_int_int.g.pms))) = evAt (slices_Index_int_int.E k) (fun κ s => lhOf k κ s slices_Index_int_int.pts) 5 b224 (unproj slices_Index_int_int.s5 (x0, x1, x2, x3, ())) (OM.fin slices_Index_int_int.g Tryz.f224.results.toList) := by kernel_rfl
theorem slices_Index_int_int.hf (k : Nat) (a0 : (List Int)) (a1 : Int) : (slices_Index_int_int.f k a0 a1 : Option (denR (outTys slices_Index_int_int.g.rts slices_Index_int_int.g.pms))) = evC (slices_Index_int_int.E k) (fun κ s => lhOf k κ s slices_Index_int_int.pts) b224 (OM.start slices_Index_int_int.g.pms 0 (a0, a1, ())) (OM.fin slices_Index_int_int.g Tryz.f224.results.toList) := by kernel_rfl
theorem slices_Index_int_int.ok (k : Nat) : SmOk Tryz.prog (slices_Index_int_int.sm k) :=
  sm_ok mixed (E := slices_Index_int_int.E) (pts := slices_Index_int_int.pts) (fun k => ⟨⟨tysOk, by kernel_rfl⟩, forall_nil⟩) (fun _ => rfl) (fun _ => rfl)
    ⟨Tryz.func224, by kernel_rfl, by kernel_rfl, by kernel_rfl, by kernel_rfl, by kernel_rfl, by kernel_rfl⟩ (forall_cons (fun x => ⟨rfl, fun k => slices_Index_int_int.h5 k x.1 x.2.1 x.2.2.1 x.2.2.2.1⟩) (forall_nil)) (fun k x => slices_Index_int_int.hf k x.1 x.2.1) k
noncomputable def b194 : Code := Tryz.f194.body.getD .skip
theorem e194 : OM.Entry Tryz.prog 194 := ⟨_, Tryz.func194, by kernel_rfl, by kernel_rfl⟩
@[reducible] noncomputable def slices_Contains_int_int.g : Sig := ⟨[.fz (.sl (.int .i64)), .fz (.int .i64)], [.v .bool .z], []⟩
@[reducible] noncomputable def slices_Contains_int_int.fk : Nat → denI slices_Contains_int_int.g.pms → Option (denR (outTys slices_Contains_int_int.g.rts slices_Contains_int_int.g.pms)) := fun k x => slices_Contains_int_int.f k x.1 x.2.1
@[reducible] noncomputable def slices_Contains_int_int.sm (k : Nat) : Sm := ⟨194, slices_Contains_int_int.g.pms, slices_Contains_int_int.g.rts, slices_Contains_int_int.fk k⟩
noncomputable def slices_Contains_int_int.E (k : Nat) : Env := ⟨tys, [slices_Index_int_int.sm k], [], [], []⟩
noncomputable def slices_Contains_int_int.pts : List (Pt (denR (outTys slices_Contains_int_int.g.rts slices_Contains_int_int.g.pms))) := []
theorem slices_Contains_int_int.hf (k : Nat) (a0 : (List Int)) (a1 : Int) : (slices_Contains_int_int.f k a0 a1 : Option (denR (outTys slices_Contains_int_int.g.rts slices_Contains_int_int.g.pms))) = evC (slices_Contains_int_int.E k) (fun κ s => lhOf k κ s slices_Contains_int_int.pts) b194 (OM.start slices_Contains_int_int.g.pms 0 (a0, a1, ())) (OM.fin slices_Contains_int_int.g Tryz.f194.results.toList) := by kernel_rfl
theorem slices_Contains_int_int.ok (k : Nat) : SmOk Tryz.prog (slices_Contains_int_int.sm k) :=
  sm_ok mixed (E := slices_Contains_int_int.E) (pts := slices_Contains_int_int.pts) (fun k => ⟨⟨tysOk, by kernel_rfl⟩, forall_cons ⟨slices_Index_int_int.ok k, e224⟩ (forall_nil)⟩) (fun _ => rfl) (fun _ => rfl)
    ⟨Tryz.func194, by kernel_rfl, by kernel_rfl, by kernel_rfl, by kernel_rfl, by kernel_rfl, by kernel_rfl⟩ (forall_nil) (fun k x => slices_Contains_int_int.hf k x.1 x.2.1) k
noncomputable def b158 : Code := Tryz.f158.body.getD .skip
theorem e158 : OM.Entry Tryz.prog 158 := ⟨_, Tryz.func158, by kernel_rfl, by kernel_rfl⟩
@[reducible] noncomputable def impl_SpanOf.g : Sig := ⟨[.fz tConfig, .fz (.sl (.int .i64))], [.v (.int .i64) .z], []⟩
@[reducible] noncomputable def impl_SpanOf.fk : Nat → denI impl_SpanOf.g.pms → Option (denR (outTys impl_SpanOf.g.rts impl_SpanOf.g.pms)) := fun k x => impl_SpanOf.f k x.1 x.2.1
@[reducible] noncomputable def impl_SpanOf.sm (k : Nat) : Sm := ⟨158, impl_SpanOf.g.pms, impl_SpanOf.g.rts, impl_SpanOf.fk k⟩
noncomputable def impl_SpanOf.E (k : Nat) : Env := ⟨tys, [impl_NodesOk.sm k, slices_Contains_int_int.sm k], [18, 32], [], []⟩
@[reducible] noncomputable def impl_SpanOf.s11 : List Slot := [.r 8 9 [] tConfig, .v 20 (.sl (.int .i64)) (.own .z) [] 0, .v 52 (.sl (.int .i64)) .z [] 0, .v 56 (.int .i64) .z [] 0, .v 60 (.int .i64) .z [] 0, .v 9 tConfig .z [] 0]
noncomputable def impl_SpanOf.pts : List (Pt (denR (outTys impl_SpanOf.g.rts impl_SpanOf.g.pms))) := [⟨11, impl_SpanOf.s11, fun k x => impl_SpanOf.p11 k x.1 x.2.1 x.2.2.1 x.2.2.2.1 x.2.2.2.2.1⟩]
theorem impl_SpanOf.h11 (k : Nat) (x0 : (List Int)) (x1 : (List Int)) (x2 : Int) (x3 : Int) (x4 : Config) : (impl_SpanOf.p11 (k + 1) x0 x1 x2 x3 x4 : Option (denR (outTys impl_SpanOf.g.rts impl_SpanOf.g.pms))) = evAt (impl_SpanOf.E k) (fun κ s => lhOf k κ s impl_SpanOf.pts) 11 b158 (unproj impl_SpanOf.s11 (x0, x1, x2, x3, x4, ())) (OM.fin impl_SpanOf.g Tryz.f158.results.toList) := by kernel_rfl
theorem impl_SpanOf.hf (k : Nat) (a0 : Config) (a1 : (List Int)) : (impl_SpanOf.f k a0 a1 : Option (denR (outTys impl_SpanOf.g.rts impl_SpanOf.g.pms))) = evC (impl_SpanOf.E k) (fun κ s => lhOf k κ s impl_SpanOf.pts) b158 (OM.start impl_SpanOf.g.pms 0 (a0, a1, ())) (OM.fin impl_SpanOf.g Tryz.f158.results.toList) := by kernel_rfl
theorem impl_SpanOf.ok (k : Nat) : SmOk Tryz.prog (impl_SpanOf.sm k) :=
  sm_ok mixed (E := impl_SpanOf.E) (pts := impl_SpanOf.pts) (fun k => ⟨⟨tysOk, by kernel_rfl⟩, forall_cons ⟨impl_NodesOk.ok k, e102⟩ (forall_cons ⟨slices_Contains_int_int.ok k, e194⟩ (forall_nil))⟩) (fun _ => rfl) (fun _ => rfl)
    ⟨Tryz.func158, by kernel_rfl, by kernel_rfl, by kernel_rfl, by kernel_rfl, by kernel_rfl, by kernel_rfl⟩ (forall_cons (fun x => ⟨rfl, fun k => impl_SpanOf.h11 k x.1 x.2.1 x.2.2.1 x.2.2.2.1 x.2.2.2.2.1⟩) (forall_nil)) (fun k x => impl_SpanOf.hf k x.1 x.2.1) k
noncomputable def b104 : Code := Tryz.f104.body.getD .skip
theorem e104 : OM.Entry Tryz.prog 104 := ⟨_, Tryz.func104, by kernel_rfl, by kernel_rfl⟩
@[reducible] noncomputable def impl_Holds.g : Sig := ⟨[.fz tConfig, .fz (.sl (.int .i64))], [.v .bool .z], []⟩
@[reducible] noncomputable def impl_Holds.fk : Nat → denI impl_Holds.g.pms → Option (denR (outTys impl_Holds.g.rts impl_Holds.g.pms)) := fun k x => impl_Holds.f k x.1 x.2.1
@[reducible] noncomputable def impl_Holds.sm (k : Nat) : Sm := ⟨104, impl_Holds.g.pms, impl_Holds.g.rts, impl_Holds.fk k⟩
noncomputable def impl_Holds.E (k : Nat) : Env := ⟨tys, [impl_NodesOk.sm k, impl_SpanOf.sm k], [], [], []⟩
noncomputable def impl_Holds.pts : List (Pt (denR (outTys impl_Holds.g.rts impl_Holds.g.pms))) := []
theorem impl_Holds.hf (k : Nat) (a0 : Config) (a1 : (List Int)) : (impl_Holds.f k a0 a1 : Option (denR (outTys impl_Holds.g.rts impl_Holds.g.pms))) = evC (impl_Holds.E k) (fun κ s => lhOf k κ s impl_Holds.pts) b104 (OM.start impl_Holds.g.pms 0 (a0, a1, ())) (OM.fin impl_Holds.g Tryz.f104.results.toList) := by kernel_rfl
theorem impl_Holds.ok (k : Nat) : SmOk Tryz.prog (impl_Holds.sm k) :=
  sm_ok mixed (E := impl_Holds.E) (pts := impl_Holds.pts) (fun k => ⟨⟨tysOk, by kernel_rfl⟩, forall_cons ⟨impl_NodesOk.ok k, e102⟩ (forall_cons ⟨impl_SpanOf.ok k, e158⟩ (forall_nil))⟩) (fun _ => rfl) (fun _ => rfl)
    ⟨Tryz.func104, by kernel_rfl, by kernel_rfl, by kernel_rfl, by kernel_rfl, by kernel_rfl, by kernel_rfl⟩ (forall_nil) (fun k x => impl_Holds.hf k x.1 x.2.1) k
noncomputable def b46 : Code := Tryz.f46.body.getD .skip
theorem e46 : OM.Entry Tryz.prog 46 := ⟨_, Tryz.func46, by kernel_rfl, by kernel_rfl⟩
@[reducible] noncomputable def impl_World_storesOk.g : Sig := ⟨[.fz (.fp tWorld)], [.v .bool .z], []⟩
@[reducible] noncomputable def impl_World_storesOk.fk : Nat → denI impl_World_storesOk.g.pms → Option (denR (outTys impl_World_storesOk.g.rts impl_World_storesOk.g.pms)) := fun k x => impl_World_storesOk.f k x.1
@[reducible] noncomputable def impl_World_storesOk.sm (k : Nat) : Sm := ⟨46, impl_World_storesOk.g.pms, impl_World_storesOk.g.rts, impl_World_storesOk.fk k⟩
noncomputable def impl_World_storesOk.E (k : Nat) : Env := ⟨tys, [impl_NodesOk.sm k, impl_StoreOk.sm k, impl_World_isLost.sm k, impl_Holds.sm k], [38], [], []⟩
@[reducible] noncomputable def impl_World_storesOk.s9 : List Slot := [.v 0 (.fp tWorld) .z [] 0, .v 128 (.sl tStore) .z [] 0, .v 132 (.int .i64) .z [] 0, .v 136 (.int .i64) .z [] 0]
noncomputable def impl_World_storesOk.pts : List (Pt (denR (outTys impl_World_storesOk.g.rts impl_World_storesOk.g.pms))) := [⟨9, impl_World_storesOk.s9, fun k x => impl_World_storesOk.p9 k x.1 x.2.1 x.2.2.1 x.2.2.2.1⟩]
theorem impl_World_storesOk.h9 (k : Nat) (x0 : World) (x1 : (List Store)) (x2 : Int) (x3 : Int) : (impl_World_storesOk.p9 (k + 1) x0 x1 x2 x3 : Option (denR (outTys impl_World_storesOk.g.rts impl_World_storesOk.g.pms))) = evAt (impl_World_storesOk.E k) (fun κ s => lhOf k κ s impl_World_storesOk.pts) 9 b46 (unproj impl_World_storesOk.s9 (x0, x1, x2, x3, ())) (OM.fin impl_World_storesOk.g Tryz.f46.results.toList) := by kernel_rfl
theorem impl_World_storesOk.hf (k : Nat) (a0 : World) : (impl_World_storesOk.f k a0 : Option (denR (outTys impl_World_storesOk.g.rts impl_World_storesOk.g.pms))) = evC (impl_World_storesOk.E k) (fun κ s => lhOf k κ s impl_World_storesOk.pts) b46 (OM.start impl_World_storesOk.g.pms 0 (a0, ())) (OM.fin impl_World_storesOk.g Tryz.f46.results.toList) := by kernel_rfl
theorem impl_World_storesOk.ok (k : Nat) : SmOk Tryz.prog (impl_World_storesOk.sm k) :=
  sm_ok mixed (E := impl_World_storesOk.E) (pts := impl_World_storesOk.pts) (fun k => ⟨⟨tysOk, by kernel_rfl⟩, forall_cons ⟨impl_NodesOk.ok k, e102⟩ (forall_cons ⟨impl_StoreOk.ok k, e70⟩ (forall_cons ⟨impl_World_isLost.ok k, e103⟩ (forall_cons ⟨impl_Holds.ok k, e104⟩ (forall_nil))))⟩) (fun _ => rfl) (fun _ => rfl)
    ⟨Tryz.func46, by kernel_rfl, by kernel_rfl, by kernel_rfl, by kernel_rfl, by kernel_rfl, by kernel_rfl⟩ (forall_cons (fun x => ⟨rfl, fun k => impl_World_storesOk.h9 k x.1 x.2.1 x.2.2.1 x.2.2.2.1⟩) (forall_nil)) (fun k x => impl_World_storesOk.hf k x.1) k
noncomputable def b105 : Code := Tryz.f105.body.getD .skip
theorem e105 : OM.Entry Tryz.prog 105 := ⟨_, Tryz.func105, by kernel_rfl, by kernel_rfl⟩
@[reducible] noncomputable def impl_eraOk.g : Sig := ⟨[.fz tConfig, .fz tEra], [.v .bool .z], []⟩
@[reducible] noncomputable def impl_eraOk.fk : Nat → denI impl_eraOk.g.pms → Option (denR (outTys impl_eraOk.g.rts impl_eraOk.g.pms)) := fun k x => impl_eraOk.f k x.1 x.2.1
@[reducible] noncomputable def impl_eraOk.sm (k : Nat) : Sm := ⟨105, impl_eraOk.g.pms, impl_eraOk.g.rts, impl_eraOk.fk k⟩
noncomputable def impl_eraOk.E (k : Nat) : Env := ⟨tys, [impl_within.sm k, impl_Holds.sm k], [], [], []⟩
noncomputable def impl_eraOk.pts : List (Pt (denR (outTys impl_eraOk.g.rts impl_eraOk.g.pms))) := []
theorem impl_eraOk.hf (k : Nat) (a0 : Config) (a1 : Era) : (impl_eraOk.f k a0 a1 : Option (denR (outTys impl_eraOk.g.rts impl_eraOk.g.pms))) = evC (impl_eraOk.E k) (fun κ s => lhOf k κ s impl_eraOk.pts) b105 (OM.start impl_eraOk.g.pms 0 (a0, a1, ())) (OM.fin impl_eraOk.g Tryz.f105.results.toList) := by kernel_rfl
theorem impl_eraOk.ok (k : Nat) : SmOk Tryz.prog (impl_eraOk.sm k) :=
  sm_ok mixed (E := impl_eraOk.E) (pts := impl_eraOk.pts) (fun k => ⟨⟨tysOk, by kernel_rfl⟩, forall_cons ⟨impl_within.ok k, e101⟩ (forall_cons ⟨impl_Holds.ok k, e104⟩ (forall_nil))⟩) (fun _ => rfl) (fun _ => rfl)
    ⟨Tryz.func105, by kernel_rfl, by kernel_rfl, by kernel_rfl, by kernel_rfl, by kernel_rfl, by kernel_rfl⟩ (forall_nil) (fun k x => impl_eraOk.hf k x.1 x.2.1) k
noncomputable def b47 : Code := Tryz.f47.body.getD .skip
theorem e47 : OM.Entry Tryz.prog 47 := ⟨_, Tryz.func47, by kernel_rfl, by kernel_rfl⟩
@[reducible] noncomputable def impl_RegOk.g : Sig := ⟨[.fz tConfig, .fz tRegister], [.v .bool .z], []⟩
@[reducible] noncomputable def impl_RegOk.fk : Nat → denI impl_RegOk.g.pms → Option (denR (outTys impl_RegOk.g.rts impl_RegOk.g.pms)) := fun k x => impl_RegOk.f k x.1 x.2.1
@[reducible] noncomputable def impl_RegOk.sm (k : Nat) : Sm := ⟨47, impl_RegOk.g.pms, impl_RegOk.g.rts, impl_RegOk.fk k⟩
noncomputable def impl_RegOk.E (k : Nat) : Env := ⟨tys, [impl_within.sm k, impl_ConfigOk.sm k, impl_EpochOf.sm k, impl_eraOk.sm k], [15], [8], []⟩
@[reducible] noncomputable def impl_RegOk.s5 : List Slot := [.r 8 9 [] tConfig, .r 12 13 [] tRegister, .v 36 (.sl tEra) .z [] 0, .v 40 (.int .i64) .z [] 0, .v 44 (.int .i64) .z [] 0, .v 9 tConfig .z [] 0, .v 13 tRegister .z [] 0]
@[reducible] noncomputable def impl_RegOk.s16 : List Slot := [.r 8 9 [] tConfig, .r 12 13 [] tRegister, .v 28 .bool .z [] 0, .v 9 tConfig .z [] 0, .v 13 tRegister .z [] 0]
noncomputable def impl_RegOk.pts : List (Pt (denR (outTys impl_RegOk.g.rts impl_RegOk.g.pms))) := [⟨5, impl_RegOk.s5, fun k x => impl_RegOk.p5 k x.1 x.2.1 x.2.2.1 x.2.2.2.1 x.2.2.2.2.1⟩, ⟨16, impl_RegOk.s16, fun k x => impl_RegOk.p16 k x.1 x.2.1 x.2.2.1⟩]
theorem impl_RegOk.h5 (k : Nat) (x0 : (List Era)) (x1 : Int) (x2 : Int) (x3 : Config) (x4 : Register) : (impl_RegOk.p5 (k + 1) x0 x1 x2 x3 x4 : Option (denR (outTys impl_RegOk.g.rts impl_RegOk.g.pms))) = evAt (impl_RegOk.E k) (fun κ s => lhOf k κ s impl_RegOk.pts) 5 b47 (unproj impl_RegOk.s5 (x0, x1, x2, x3, x4, ())) (OM.fin impl_RegOk.g Tryz.f47.results.toList) := by kernel_rfl
theorem impl_RegOk.h16 (k : Nat) (x0 : Bool) (x1 : Config) (x2 : Register) : (impl_RegOk.p16 (k + 1) x0 x1 x2 : Option (denR (outTys impl_RegOk.g.rts impl_RegOk.g.pms))) = evAt (impl_RegOk.E k) (fun κ s => lhOf k κ s impl_RegOk.pts) 16 b47 (unproj impl_RegOk.s16 (x0, x1, x2, ())) (OM.fin impl_RegOk.g Tryz.f47.results.toList) := by kernel_rfl
theorem impl_RegOk.hf (k : Nat) (a0 : Config) (a1 : Register) : (impl_RegOk.f k a0 a1 : Option (denR (outTys impl_RegOk.g.rts impl_RegOk.g.pms))) = evC (impl_RegOk.E k) (fun κ s => lhOf k κ s impl_RegOk.pts) b47 (OM.start impl_RegOk.g.pms 0 (a0, a1, ())) (OM.fin impl_RegOk.g Tryz.f47.results.toList) := by kernel_rfl
theorem impl_RegOk.ok (k : Nat) : SmOk Tryz.prog (impl_RegOk.sm k) :=
  sm_ok mixed (E := impl_RegOk.E) (pts := impl_RegOk.pts) (fun k => ⟨⟨tysOk, by kernel_rfl⟩, forall_cons ⟨impl_within.ok k, e101⟩ (forall_cons ⟨impl_ConfigOk.ok k, e45⟩ (forall_cons ⟨impl_EpochOf.ok k, e106⟩ (forall_cons ⟨impl_eraOk.ok k, e105⟩ (forall_nil))))⟩) (fun _ => rfl) (fun _ => rfl)
    ⟨Tryz.func47, by kernel_rfl, by kernel_rfl, by kernel_rfl, by kernel_rfl, by kernel_rfl, by kernel_rfl⟩ (forall_cons (fun x => ⟨rfl, fun k => impl_RegOk.h5 k x.1 x.2.1 x.2.2.1 x.2.2.2.1 x.2.2.2.2.1⟩) (forall_cons (fun x => ⟨rfl, fun k => impl_RegOk.h16 k x.1 x.2.1 x.2.2.1⟩) (forall_nil))) (fun k x => impl_RegOk.hf k x.1 x.2.1) k
noncomputable def b160 : Code := Tryz.f160.body.getD .skip
theorem e160 : OM.Entry Tryz.prog 160 := ⟨_, Tryz.func160, by kernel_rfl, by kernel_rfl⟩
@[reducible] noncomputable def impl_flagNum.g : Sig := ⟨[.fz .bool], [.v (.int .i64) .z], []⟩
@[reducible] noncomputable def impl_flagNum.fk : Nat → denI impl_flagNum.g.pms → Option (denR (outTys impl_flagNum.g.rts impl_flagNum.g.pms)) := fun k x => impl_flagNum.f x.1
@[reducible] noncomputable def impl_flagNum.sm (k : Nat) : Sm := ⟨160, impl_flagNum.g.pms, impl_flagNum.g.rts, impl_flagNum.fk k⟩
noncomputable def impl_flagNum.E (k : Nat) : Env := ⟨tys, [], [], [], []⟩
noncomputable def impl_flagNum.pts : List (Pt (denR (outTys impl_flagNum.g.rts impl_flagNum.g.pms))) := []
theorem impl_flagNum.hf (k : Nat) (a0 : Bool) : (impl_flagNum.f a0 : Option (denR (outTys impl_flagNum.g.rts impl_flagNum.g.pms))) = evC (impl_flagNum.E k) (fun κ s => lhOf k κ s impl_flagNum.pts) b160 (OM.start impl_flagNum.g.pms 0 (a0, ())) (OM.fin impl_flagNum.g Tryz.f160.results.toList) := by kernel_rfl
theorem impl_flagNum.ok (k : Nat) : SmOk Tryz.prog (impl_flagNum.sm k) :=
  sm_ok mixed (E := impl_flagNum.E) (pts := impl_flagNum.pts) (fun k => ⟨⟨tysOk, by kernel_rfl⟩, forall_nil⟩) (fun _ => rfl) (fun _ => rfl)
    ⟨Tryz.func160, by kernel_rfl, by kernel_rfl, by kernel_rfl, by kernel_rfl, by kernel_rfl, by kernel_rfl⟩ (forall_nil) (fun k x => impl_flagNum.hf k x.1) k
noncomputable def b107 : Code := Tryz.f107.body.getD .skip
theorem e107 : OM.Entry Tryz.prog 107 := ⟨_, Tryz.func107, by kernel_rfl, by kernel_rfl⟩
@[reducible] noncomputable def impl_WriterOk.g : Sig := ⟨[.fz tConfig, .fz tWriter], [.v .bool .z], []⟩
@[reducible] noncomputable def impl_WriterOk.fk : Nat → denI impl_WriterOk.g.pms → Option (denR (outTys impl_WriterOk.g.rts impl_WriterOk.g.pms)) := fun k x => impl_WriterOk.f k x.1 x.2.1
@[reducible] noncomputable def impl_WriterOk.sm (k : Nat) : Sm := ⟨107, impl_WriterOk.g.pms, impl_WriterOk.g.rts, impl_WriterOk.fk k⟩
noncomputable def impl_WriterOk.E (k : Nat) : Env := ⟨tys, [impl_ConfigOk.sm k, impl_NodesOk.sm k, impl_isEpoch.sm k, impl_dataOk.sm k, impl_Holds.sm k, impl_flagNum.sm k], [14], [], [4]⟩
@[reducible] noncomputable def impl_WriterOk.s7 : List Slot := [.r 8 9 [] tConfig, .r 12 13 [] tWriter, .v 20 (.int .i64) .z [] 0, .v 36 (.sl tWord) .z [] 0, .v 40 (.int .i64) .z [] 0, .v 44 (.int .i64) .z [] 0, .v 9 tConfig .z [] 0, .v 13 tWriter .z [] 0]
noncomputable def impl_WriterOk.pts : List (Pt (denR (outTys impl_WriterOk.g.rts impl_WriterOk.g.pms))) := [⟨7, impl_WriterOk.s7, fun k x => impl_WriterOk.p7 k x.1 x.2.1 x.2.2.1 x.2.2.2.1 x.2.2.2.2.1 x.2.2.2.2.2.1⟩]
theorem impl_WriterOk.h7 (k : Nat) (x0 : Int) (x1 : (List Word)) (x2 : Int) (x3 : Int) (x4 : Config) (x5 : Writer) : (impl_WriterOk.p7 (k + 1) x0 x1 x2 x3 x4 x5 : Option (denR (outTys impl_WriterOk.g.rts impl_WriterOk.g.pms))) = evAt (impl_WriterOk.E k) (fun κ s => lhOf k κ s impl_WriterOk.pts) 7 b107 (unproj impl_WriterOk.s7 (x0, x1, x2, x3, x4, x5, ())) (OM.fin impl_WriterOk.g Tryz.f107.results.toList) := by kernel_rfl
theorem impl_WriterOk.hf (k : Nat) (a0 : Config) (a1 : Writer) : (impl_WriterOk.f k a0 a1 : Option (denR (outTys impl_WriterOk.g.rts impl_WriterOk.g.pms))) = evC (impl_WriterOk.E k) (fun κ s => lhOf k κ s impl_WriterOk.pts) b107 (OM.start impl_WriterOk.g.pms 0 (a0, a1, ())) (OM.fin impl_WriterOk.g Tryz.f107.results.toList) := by kernel_rfl
theorem impl_WriterOk.ok (k : Nat) : SmOk Tryz.prog (impl_WriterOk.sm k) :=
  sm_ok mixed (E := impl_WriterOk.E) (pts := impl_WriterOk.pts) (fun k => ⟨⟨tysOk, by kernel_rfl⟩, forall_cons ⟨impl_ConfigOk.ok k, e45⟩ (forall_cons ⟨impl_NodesOk.ok k, e102⟩ (forall_cons ⟨impl_isEpoch.ok k, e161⟩ (forall_cons ⟨impl_dataOk.ok k, e112⟩ (forall_cons ⟨impl_Holds.ok k, e104⟩ (forall_cons ⟨impl_flagNum.ok k, e160⟩ (forall_nil))))))⟩) (fun _ => rfl) (fun _ => rfl)
    ⟨Tryz.func107, by kernel_rfl, by kernel_rfl, by kernel_rfl, by kernel_rfl, by kernel_rfl, by kernel_rfl⟩ (forall_cons (fun x => ⟨rfl, fun k => impl_WriterOk.h7 k x.1 x.2.1 x.2.2.1 x.2.2.2.1 x.2.2.2.2.1 x.2.2.2.2.2.1⟩) (forall_nil)) (fun k x => impl_WriterOk.hf k x.1 x.2.1) k
noncomputable def b108 : Code := Tryz.f108.body.getD .skip
theorem e108 : OM.Entry Tryz.prog 108 := ⟨_, Tryz.func108, by kernel_rfl, by kernel_rfl⟩
@[reducible] noncomputable def impl_World_isThere.g : Sig := ⟨[.fz (.fp tWorld), .fz (.int .i64)], [.v .bool .z], []⟩
@[reducible] noncomputable def impl_World_isThere.fk : Nat → denI impl_World_isThere.g.pms → Option (denR (outTys impl_World_isThere.g.rts impl_World_isThere.g.pms)) := fun k x => impl_World_isThere.f x.1 x.2.1
@[reducible] noncomputable def impl_World_isThere.sm (k : Nat) : Sm := ⟨108, impl_World_isThere.g.pms, impl_World_isThere.g.rts, impl_World_isThere.fk k⟩
noncomputable def impl_World_isThere.E (k : Nat) : Env := ⟨tys, [impl_within.sm k], [], [], []⟩
noncomputable def impl_World_isThere.pts : List (Pt (denR (outTys impl_World_isThere.g.rts impl_World_isThere.g.pms))) := []
theorem impl_World_isThere.hf (k : Nat) (a0 : World) (a1 : Int) : (impl_World_isThere.f a0 a1 : Option (denR (outTys impl_World_isThere.g.rts impl_World_isThere.g.pms))) = evC (impl_World_isThere.E k) (fun κ s => lhOf k κ s impl_World_isThere.pts) b108 (OM.start impl_World_isThere.g.pms 0 (a0, a1, ())) (OM.fin impl_World_isThere.g Tryz.f108.results.toList) := by kernel_rfl
theorem impl_World_isThere.ok (k : Nat) : SmOk Tryz.prog (impl_World_isThere.sm k) :=
  sm_ok mixed (E := impl_World_isThere.E) (pts := impl_World_isThere.pts) (fun k => ⟨⟨tysOk, by kernel_rfl⟩, forall_cons ⟨impl_within.ok k, e101⟩ (forall_nil)⟩) (fun _ => rfl) (fun _ => rfl)
    ⟨Tryz.func108, by kernel_rfl, by kernel_rfl, by kernel_rfl, by kernel_rfl, by kernel_rfl, by kernel_rfl⟩ (forall_nil) (fun k x => impl_World_isThere.hf k x.1 x.2.1) k
noncomputable def b48 : Code := Tryz.f48.body.getD .skip
theorem e48 : OM.Entry Tryz.prog 48 := ⟨_, Tryz.func48, by kernel_rfl, by kernel_rfl⟩
@[reducible] noncomputable def impl_World_writersOk.g : Sig := ⟨[.fz (.fp tWorld)], [.v .bool .z], []⟩
@[reducible] noncomputable def impl_World_writersOk.fk : Nat → denI impl_World_writersOk.g.pms → Option (denR (outTys impl_World_writersOk.g.rts impl_World_writersOk.g.pms)) := fun k x => impl_World_writersOk.f k x.1
@[reducible] noncomputable def impl_World_writersOk.sm (k : Nat) : Sm := ⟨48, impl_World_writersOk.g.pms, impl_World_writersOk.g.rts, impl_World_writersOk.fk k⟩
noncomputable def impl_World_writersOk.E (k : Nat) : Env := ⟨tys, [impl_WriterOk.sm k, impl_World_isThere.sm k], [14], [], []⟩
@[reducible] noncomputable def impl_World_writersOk.s5 : List Slot := [.v 0 (.fp tWorld) .z [] 0, .v 32 (.sl tWriter) .z [] 0, .v 36 (.int .i64) .z [] 0, .v 40 (.int .i64) .z [] 0]
noncomputable def impl_World_writersOk.pts : List (Pt (denR (outTys impl_World_writersOk.g.rts impl_World_writersOk.g.pms))) := [⟨5, impl_World_writersOk.s5, fun k x => impl_World_writersOk.p5 k x.1 x.2.1 x.2.2.1 x.2.2.2.1⟩]
theorem impl_World_writersOk.h5 (k : Nat) (x0 : World) (x1 : (List Writer)) (x2 : Int) (x3 : Int) : (impl_World_writersOk.p5 (k + 1) x0 x1 x2 x3 : Option (denR (outTys impl_World_writersOk.g.rts impl_World_writersOk.g.pms))) = evAt (impl_World_writersOk.E k) (fun κ s => lhOf k κ s impl_World_writersOk.pts) 5 b48 (unproj impl_World_writersOk.s5 (x0, x1, x2, x3, ())) (OM.fin impl_World_writersOk.g Tryz.f48.results.toList) := by kernel_rfl
theorem impl_World_writersOk.hf (k : Nat) (a0 : World) : (impl_World_writersOk.f k a0 : Option (denR (outTys impl_World_writersOk.g.rts impl_World_writersOk.g.pms))) = evC (impl_World_writersOk.E k) (fun κ s => lhOf k κ s impl_World_writersOk.pts) b48 (OM.start impl_World_writersOk.g.pms 0 (a0, ())) (OM.fin impl_World_writersOk.g Tryz.f48.results.toList) := by kernel_rfl
theorem impl_World_writersOk.ok (k : Nat) : SmOk Tryz.prog (impl_World_writersOk.sm k) :=
  sm_ok mixed (E := impl_World_writersOk.E) (pts := impl_World_writersOk.pts) (fun k => ⟨⟨tysOk, by kernel_rfl⟩, forall_cons ⟨impl_WriterOk.ok k, e107⟩ (forall_cons ⟨impl_World_isThere.ok k, e108⟩ (forall_nil))⟩) (fun _ => rfl) (fun _ => rfl)
    ⟨Tryz.func48, by kernel_rfl, by kernel_rfl, by kernel_rfl, by kernel_rfl, by kernel_rfl, by kernel_rfl⟩ (forall_cons (fun x => ⟨rfl, fun k => impl_World_writersOk.h5 k x.1 x.2.1 x.2.2.1 x.2.2.2.1⟩) (forall_nil)) (fun k x => impl_World_writersOk.hf k x.1) k
noncomputable def b196 : Code := Tryz.f196.body.getD .skip
theorem e196 : OM.Entry Tryz.prog 196 := ⟨_, Tryz.func196, by kernel_rfl, by kernel_rfl⟩
@[reducible] noncomputable def impl_OffOf.g : Sig := ⟨[.fz (.int .i64)], [.v (.int .i64) .z], []⟩
@[reducible] noncomputable def impl_OffOf.fk : Nat → denI impl_OffOf.g.pms → Option (denR (outTys impl_OffOf.g.rts impl_OffOf.g.pms)) := fun k x => impl_OffOf.f x.1
@[reducible] noncomputable def impl_OffOf.sm (k : Nat) : Sm := ⟨196, impl_OffOf.g.pms, impl_OffOf.g.rts, impl_OffOf.fk k⟩
noncomputable def impl_OffOf.E (k : Nat) : Env := ⟨tys, [impl_PlaceOk.sm k], [], [], []⟩
noncomputable def impl_OffOf.pts : List (Pt (denR (outTys impl_OffOf.g.rts impl_OffOf.g.pms))) := []
theorem impl_OffOf.hf (k : Nat) (a0 : Int) : (impl_OffOf.f a0 : Option (denR (outTys impl_OffOf.g.rts impl_OffOf.g.pms))) = evC (impl_OffOf.E k) (fun κ s => lhOf k κ s impl_OffOf.pts) b196 (OM.start impl_OffOf.g.pms 0 (a0, ())) (OM.fin impl_OffOf.g Tryz.f196.results.toList) := by kernel_rfl
theorem impl_OffOf.ok (k : Nat) : SmOk Tryz.prog (impl_OffOf.sm k) :=
  sm_ok mixed (E := impl_OffOf.E) (pts := impl_OffOf.pts) (fun k => ⟨⟨tysOk, by kernel_rfl⟩, forall_cons ⟨impl_PlaceOk.ok k, e159⟩ (forall_nil)⟩) (fun _ => rfl) (fun _ => rfl)
    ⟨Tryz.func196, by kernel_rfl, by kernel_rfl, by kernel_rfl, by kernel_rfl, by kernel_rfl, by kernel_rfl⟩ (forall_nil) (fun k x => impl_OffOf.hf k x.1) k
noncomputable def b162 : Code := Tryz.f162.body.getD .skip
theorem e162 : OM.Entry Tryz.prog 162 := ⟨_, Tryz.func162, by kernel_rfl, by kernel_rfl⟩
@[reducible] noncomputable def impl_lastOff.g : Sig := ⟨[.fz tMend], [.v (.int .i64) .z], []⟩
@[reducible] noncomputable def impl_lastOff.fk : Nat → denI impl_lastOff.g.pms → Option (denR (outTys impl_lastOff.g.rts impl_lastOff.g.pms)) := fun k x => impl_lastOff.f x.1
@[reducible] noncomputable def impl_lastOff.sm (k : Nat) : Sm := ⟨162, impl_lastOff.g.pms, impl_lastOff.g.rts, impl_lastOff.fk k⟩
noncomputable def impl_lastOff.E (k : Nat) : Env := ⟨tys, [impl_OffOf.sm k], [], [], []⟩
noncomputable def impl_lastOff.pts : List (Pt (denR (outTys impl_lastOff.g.rts impl_lastOff.g.pms))) := []
theorem impl_lastOff.hf (k : Nat) (a0 : Mend) : (impl_lastOff.f a0 : Option (denR (outTys impl_lastOff.g.rts impl_lastOff.g.pms))) = evC (impl_lastOff.E k) (fun κ s => lhOf k κ s impl_lastOff.pts) b162 (OM.start impl_lastOff.g.pms 0 (a0, ())) (OM.fin impl_lastOff.g Tryz.f162.results.toList) := by kernel_rfl
theorem impl_lastOff.ok (k : Nat) : SmOk Tryz.prog (impl_lastOff.sm k) :=
  sm_ok mixed (E := impl_lastOff.E) (pts := impl_lastOff.pts) (fun k => ⟨⟨tysOk, by kernel_rfl⟩, forall_cons ⟨impl_OffOf.ok k, e196⟩ (forall_nil)⟩) (fun _ => rfl) (fun _ => rfl)
    ⟨Tryz.func162, by kernel_rfl, by kernel_rfl, by kernel_rfl, by kernel_rfl, by kernel_rfl, by kernel_rfl⟩ (forall_nil) (fun k x => impl_lastOff.hf k x.1) k
noncomputable def b163 : Code := Tryz.f163.body.getD .skip
theorem e163 : OM.Entry Tryz.prog 163 := ⟨_, Tryz.func163, by kernel_rfl, by kernel_rfl⟩
@[reducible] noncomputable def impl_seenOk.g : Sig := ⟨[.fz tMend], [.v .bool .z], []⟩
@[reducible] noncomputable def impl_seenOk.fk : Nat → denI impl_seenOk.g.pms → Option (denR (outTys impl_seenOk.g.rts impl_seenOk.g.pms)) := fun k x => impl_seenOk.f k x.1
@[reducible] noncomputable def impl_seenOk.sm (k : Nat) : Sm := ⟨163, impl_seenOk.g.pms, impl_seenOk.g.rts, impl_seenOk.fk k⟩
noncomputable def impl_seenOk.E (k : Nat) : Env := ⟨tys, [impl_EpochOf.sm k, impl_EntryOk.sm k, impl_placesAscend.sm k], [11], [], []⟩
@[reducible] noncomputable def impl_seenOk.s5 : List Slot := [.r 4 5 [] tMend, .v 24 (.sl tEntry) .z [] 0, .v 28 (.int .i64) .z [] 0, .v 32 (.int .i64) .z [] 0, .v 5 tMend .z [] 0]
noncomputable def impl_seenOk.pts : List (Pt (denR (outTys impl_seenOk.g.rts impl_seenOk.g.pms))) := [⟨5, impl_seenOk.s5, fun k x => impl_seenOk.p5 k x.1 x.2.1 x.2.2.1 x.2.2.2.1⟩]
theorem impl_seenOk.h5 (k : Nat) (x0 : (List Entry)) (x1 : Int) (x2 : Int) (x3 : Mend) : (impl_seenOk.p5 (k + 1) x0 x1 x2 x3 : Option (denR (outTys impl_seenOk.g.rts impl_seenOk.g.pms))) = evAt (impl_seenOk.E k) (fun κ s => lhOf k κ s impl_seenOk.pts) 5 b163 (unproj impl_seenOk.s5 (x0, x1, x2, x3, ())) (OM.fin impl_seenOk.g Tryz.f163.results.toList) := by kernel_rfl
theorem impl_seenOk.hf (k : Nat) (a0 : Mend) : (impl_seenOk.f k a0 : Option (denR (outTys impl_seenOk.g.rts impl_seenOk.g.pms))) = evC (impl_seenOk.E k) (fun κ s => lhOf k κ s impl_seenOk.pts) b163 (OM.start impl_seenOk.g.pms 0 (a0, ())) (OM.fin impl_seenOk.g Tryz.f163.results.toList) := by kernel_rfl
theorem impl_seenOk.ok (k : Nat) : SmOk Tryz.prog (impl_seenOk.sm k) :=
  sm_ok mixed (E := impl_seenOk.E) (pts := impl_seenOk.pts) (fun k => ⟨⟨tysOk, by kernel_rfl⟩, forall_cons ⟨impl_EpochOf.ok k, e106⟩ (forall_cons ⟨impl_EntryOk.ok k, e183⟩ (forall_cons ⟨impl_placesAscend.ok k, e136⟩ (forall_nil)))⟩) (fun _ => rfl) (fun _ => rfl)
    ⟨Tryz.func163, by kernel_rfl, by kernel_rfl, by kernel_rfl, by kernel_rfl, by kernel_rfl, by kernel_rfl⟩ (forall_cons (fun x => ⟨rfl, fun k => impl_seenOk.h5 k x.1 x.2.1 x.2.2.1 x.2.2.2.1⟩) (forall_nil)) (fun k x => impl_seenOk.hf k x.1) k
noncomputable def b109 : Code := Tryz.f109.body.getD .skip
theorem e109 : OM.Entry Tryz.prog 109 := ⟨_, Tryz.func109, by kernel_rfl, by kernel_rfl⟩
@[reducible] noncomputable def impl_MendOk.g : Sig := ⟨[.fz tConfig, .fz tMend], [.v .bool .z], []⟩
@[reducible] noncomputable def impl_MendOk.fk : Nat → denI impl_MendOk.g.pms → Option (denR (outTys impl_MendOk.g.rts impl_MendOk.g.pms)) := fun k x => impl_MendOk.f k x.1 x.2.1
@[reducible] noncomputable def impl_MendOk.sm (k : Nat) : Sm := ⟨109, impl_MendOk.g.pms, impl_MendOk.g.rts, impl_MendOk.fk k⟩
noncomputable def impl_MendOk.E (k : Nat) : Env := ⟨tys, [impl_within.sm k, impl_ConfigOk.sm k, impl_NodesOk.sm k, impl_isEpoch.sm k, impl_lastOff.sm k, impl_seenOk.sm k], [15], [10, 11], []⟩
@[reducible] noncomputable def impl_MendOk.s5 : List Slot := [.r 8 9 [] tConfig, .r 12 13 [] tMend, .v 40 (.sl (.sl (.int .i64))) .z [] 0, .v 44 (.int .i64) .z [] 0, .v 48 (.int .i64) .z [] 0, .v 9 tConfig .z [] 0, .v 13 tMend .z [] 0]
@[reducible] noncomputable def impl_MendOk.s20 : List Slot := [.r 8 9 [] tConfig, .r 12 13 [] tMend, .v 28 (.int .i64) .z [] 0, .v 9 tConfig .z [] 0, .v 13 tMend .z [] 0]
@[reducible] noncomputable def impl_MendOk.s22 : List Slot := [.r 8 9 [] tConfig, .r 12 13 [] tMend, .v 28 (.int .i64) .z [] 0, .v 32 .bool .z [] 0, .v 9 tConfig .z [] 0, .v 13 tMend .z [] 0]
noncomputable def impl_MendOk.pts : List (Pt (denR (outTys impl_MendOk.g.rts impl_MendOk.g.pms))) := [⟨5, impl_MendOk.s5, fun k x => impl_MendOk.p5 k x.1 x.2.1 x.2.2.1 x.2.2.2.1 x.2.2.2.2.1⟩, ⟨20, impl_MendOk.s20, fun k x => impl_MendOk.p20 k x.1 x.2.1 x.2.2.1⟩, ⟨22, impl_MendOk.s22, fun k x => impl_MendOk.p22 k x.1 x.2.1 x.2.2.1 x.2.2.2.1⟩]
theorem impl_MendOk.h5 (k : Nat) (x0 : (List (List Int))) (x1 : Int) (x2 : Int) (x3 : Config) (x4 : Mend) : (impl_MendOk.p5 (k + 1) x0 x1 x2 x3 x4 : Option (denR (outTys impl_MendOk.g.rts impl_MendOk.g.pms))) = evAt (impl_MendOk.E k) (fun κ s => lhOf k κ s impl_MendOk.pts) 5 b109 (unproj impl_MendOk.s5 (x0, x1, x2, x3, x4, ())) (OM.fin impl_MendOk.g Tryz.f109.results.toList) := by kernel_rfl
theorem impl_MendOk.h20 (k : Nat) (x0 : Int) (x1 : Config) (x2 : Mend) : (impl_MendOk.p20 (k + 1) x0 x1 x2 : Option (denR (outTys impl_MendOk.g.rts impl_MendOk.g.pms))) = evAt (impl_MendOk.E k) (fun κ s => lhOf k κ s impl_MendOk.pts) 20 b109 (unproj impl_MendOk.s20 (x0, x1, x2, ())) (OM.fin impl_MendOk.g Tryz.f109.results.toList) := by kernel_rfl
theorem impl_MendOk.h22 (k : Nat) (x0 : Int) (x1 : Bool) (x2 : Config) (x3 : Mend) : (impl_MendOk.p22 (k + 1) x0 x1 x2 x3 : Option (denR (outTys impl_MendOk.g.rts impl_MendOk.g.pms))) = evAt (impl_MendOk.E k) (fun κ s => lhOf k κ s impl_MendOk.pts) 22 b109 (unproj impl_MendOk.s22 (x0, x1, x2, x3, ())) (OM.fin impl_MendOk.g Tryz.f109.results.toList) := by kernel_rfl
theorem impl_MendOk.hf (k : Nat) (a0 : Config) (a1 : Mend) : (impl_MendOk.f k a0 a1 : Option (denR (outTys impl_MendOk.g.rts impl_MendOk.g.pms))) = evC (impl_MendOk.E k) (fun κ s => lhOf k κ s impl_MendOk.pts) b109 (OM.start impl_MendOk.g.pms 0 (a0, a1, ())) (OM.fin impl_MendOk.g Tryz.f109.results.toList) := by kernel_rfl
theorem impl_MendOk.ok (k : Nat) : SmOk Tryz.prog (impl_MendOk.sm k) :=
  sm_ok mixed (E := impl_MendOk.E) (pts := impl_MendOk.pts) (fun k => ⟨⟨tysOk, by kernel_rfl⟩, forall_cons ⟨impl_within.ok k, e101⟩ (forall_cons ⟨impl_ConfigOk.ok k, e45⟩ (forall_cons ⟨impl_NodesOk.ok k, e102⟩ (forall_cons ⟨impl_isEpoch.ok k, e161⟩ (forall_cons ⟨impl_lastOff.ok k, e162⟩ (forall_cons ⟨impl_seenOk.ok k, e163⟩ (forall_nil))))))⟩) (fun _ => rfl) (fun _ => rfl)
    ⟨Tryz.func109, by kernel_rfl, by kernel_rfl, by kernel_rfl, by kernel_rfl, by kernel_rfl, by kernel_rfl⟩ (forall_cons (fun x => ⟨rfl, fun k => impl_MendOk.h5 k x.1 x.2.1 x.2.2.1 x.2.2.2.1 x.2.2.2.2.1⟩) (forall_cons (fun x => ⟨rfl, fun k => impl_MendOk.h20 k x.1 x.2.1 x.2.2.1⟩) (forall_cons (fun x => ⟨rfl, fun k => impl_MendOk.h22 k x.1 x.2.1 x.2.2.1 x.2.2.2.1⟩) (forall_nil)))) (fun k x => impl_MendOk.hf k x.1 x.2.1) k
noncomputable def b110 : Code := Tryz.f110.body.getD .skip
theorem e110 : OM.Entry Tryz.prog 110 := ⟨_, Tryz.func110, by kernel_rfl, by kernel_rfl⟩
@[reducible] noncomputable def impl_FirstOpen.g : Sig := ⟨[.fz tRegister], [.v (.int .i64) .z], []⟩
@[reducible] noncomputable def impl_FirstOpen.fk : Nat → denI impl_FirstOpen.g.pms → Option (denR (outTys impl_FirstOpen.g.rts impl_FirstOpen.g.pms)) := fun k x => impl_FirstOpen.f k x.1
@[reducible] noncomputable def impl_FirstOpen.sm (k : Nat) : Sm := ⟨110, impl_FirstOpen.g.pms, impl_FirstOpen.g.rts, impl_FirstOpen.fk k⟩
noncomputable def impl_FirstOpen.E (k : Nat) : Env := ⟨tys, [], [12], [], []⟩
@[reducible] noncomputable def impl_FirstOpen.s5 : List Slot := [.v 24 (.sl tEra) .z [] 0, .v 28 (.int .i64) .z [] 0, .v 32 (.int .i64) .z [] 0]
noncomputable def impl_FirstOpen.pts : List (Pt (denR (outTys impl_FirstOpen.g.rts impl_FirstOpen.g.pms))) := [⟨5, impl_FirstOpen.s5, fun k x => impl_FirstOpen.p5 k x.1 x.2.1 x.2.2.1⟩]
theorem impl_FirstOpen.h5 (k : Nat) (x0 : (List Era)) (x1 : Int) (x2 : Int) : (impl_FirstOpen.p5 (k + 1) x0 x1 x2 : Option (denR (outTys impl_FirstOpen.g.rts impl_FirstOpen.g.pms))) = evAt (impl_FirstOpen.E k) (fun κ s => lhOf k κ s impl_FirstOpen.pts) 5 b110 (unproj impl_FirstOpen.s5 (x0, x1, x2, ())) (OM.fin impl_FirstOpen.g Tryz.f110.results.toList) := by kernel_rfl
theorem impl_FirstOpen.hf (k : Nat) (a0 : Register) : (impl_FirstOpen.f k a0 : Option (denR (outTys impl_FirstOpen.g.rts impl_FirstOpen.g.pms))) = evC (impl_FirstOpen.E k) (fun κ s => lhOf k κ s impl_FirstOpen.pts) b110 (OM.start impl_FirstOpen.g.pms 0 (a0, ())) (OM.fin impl_FirstOpen.g Tryz.f110.results.toList) := by kernel_rfl
theorem impl_FirstOpen.ok (k : Nat) : SmOk Tryz.prog (impl_FirstOpen.sm k) :=
  sm_ok mixed (E := impl_FirstOpen.E) (pts := impl_FirstOpen.pts) (fun k => ⟨⟨tysOk, by kernel_rfl⟩, forall_nil⟩) (fun _ => rfl) (fun _ => rfl)
    ⟨Tryz.func110, by kernel_rfl, by kernel_rfl, by kernel_rfl, by kernel_rfl, by kernel_rfl, by kernel_rfl⟩ (forall_cons (fun x => ⟨rfl, fun k => impl_FirstOpen.h5 k x.1 x.2.1 x.2.2.1⟩) (forall_nil)) (fun k x => impl_FirstOpen.hf k x.1) k
noncomputable def b49 : Code := Tryz.f49.body.getD .skip
theorem e49 : OM.Entry Tryz.prog 49 := ⟨_, Tryz.func49, by kernel_rfl, by kernel_rfl⟩
@[reducible] noncomputable def impl_World_mendsOk.g : Sig := ⟨[.fz (.fp tWorld)], [.v .bool .z], []⟩
@[reducible] noncomputable def impl_World_mendsOk.fk : Nat → denI impl_World_mendsOk.g.pms → Option (denR (outTys impl_World_mendsOk.g.rts impl_World_mendsOk.g.pms)) := fun k x => impl_World_mendsOk.f k x.1
@[reducible] noncomputable def impl_World_mendsOk.sm (k : Nat) : Sm := ⟨49, impl_World_mendsOk.g.pms, impl_World_mendsOk.g.rts, impl_World_mendsOk.fk k⟩
noncomputable def impl_World_mendsOk.E (k : Nat) : Env := ⟨tys, [impl_MendOk.sm k, impl_FirstOpen.sm k], [13], [], []⟩
@[reducible] noncomputable def impl_World_mendsOk.s5 : List Slot := [.v 0 (.fp tWorld) .z [] 0, .v 32 (.sl tMend) .z [] 0, .v 36 (.int .i64) .z [] 0, .v 40 (.int .i64) .z [] 0]
noncomputable def impl_World_mendsOk.pts : List (Pt (denR (outTys impl_World_mendsOk.g.rts impl_World_mendsOk.g.pms))) := [⟨5, impl_World_mendsOk.s5, fun k x => impl_World_mendsOk.p5 k x.1 x.2.1 x.2.2.1 x.2.2.2.1⟩]
theorem impl_World_mendsOk.h5 (k : Nat) (x0 : World) (x1 : (List Mend)) (x2 : Int) (x3 : Int) : (impl_World_mendsOk.p5 (k + 1) x0 x1 x2 x3 : Option (denR (outTys impl_World_mendsOk.g.rts impl_World_mendsOk.g.pms))) = evAt (impl_World_mendsOk.E k) (fun κ s => lhOf k κ s impl_World_mendsOk.pts) 5 b49 (unproj impl_World_mendsOk.s5 (x0, x1, x2, x3, ())) (OM.fin impl_World_mendsOk.g Tryz.f49.results.toList) := by kernel_rfl
theorem impl_World_mendsOk.hf (k : Nat) (a0 : World) : (impl_World_mendsOk.f k a0 : Option (denR (outTys impl_World_mendsOk.g.rts impl_World_mendsOk.g.pms))) = evC (impl_World_mendsOk.E k) (fun κ s => lhOf k κ s impl_World_mendsOk.pts) b49 (OM.start impl_World_mendsOk.g.pms 0 (a0, ())) (OM.fin impl_World_mendsOk.g Tryz.f49.results.toList) := by kernel_rfl
theorem impl_World_mendsOk.ok (k : Nat) : SmOk Tryz.prog (impl_World_mendsOk.sm k) :=
  sm_ok mixed (E := impl_World_mendsOk.E) (pts := impl_World_mendsOk.pts) (fun k => ⟨⟨tysOk, by kernel_rfl⟩, forall_cons ⟨impl_MendOk.ok k, e109⟩ (forall_cons ⟨impl_FirstOpen.ok k, e110⟩ (forall_nil))⟩) (fun _ => rfl) (fun _ => rfl)
    ⟨Tryz.func49, by kernel_rfl, by kernel_rfl, by kernel_rfl, by kernel_rfl, by kernel_rfl, by kernel_rfl⟩ (forall_cons (fun x => ⟨rfl, fun k => impl_World_mendsOk.h5 k x.1 x.2.1 x.2.2.1 x.2.2.2.1⟩) (forall_nil)) (fun k x => impl_World_mendsOk.hf k x.1) k
noncomputable def b111 : Code := Tryz.f111.body.getD .skip
theorem e111 : OM.Entry Tryz.prog 111 := ⟨_, Tryz.func111, by kernel_rfl, by kernel_rfl⟩
@[reducible] noncomputable def impl_ReaderOk.g : Sig := ⟨[.fz tReader], [.v .bool .z], []⟩
@[reducible] noncomputable def impl_ReaderOk.fk : Nat → denI impl_ReaderOk.g.pms → Option (denR (outTys impl_ReaderOk.g.rts impl_ReaderOk.g.pms)) := fun k x => impl_ReaderOk.f x.1
@[reducible] noncomputable def impl_ReaderOk.sm (k : Nat) : Sm := ⟨111, impl_ReaderOk.g.pms, impl_ReaderOk.g.rts, impl_ReaderOk.fk k⟩
noncomputable def impl_ReaderOk.E (k : Nat) : Env := ⟨tys, [impl_within.sm k], [], [], []⟩
noncomputable def impl_ReaderOk.pts : List (Pt (denR (outTys impl_ReaderOk.g.rts impl_ReaderOk.g.pms))) := []
theorem impl_ReaderOk.hf (k : Nat) (a0 : Reader) : (impl_ReaderOk.f a0 : Option (denR (outTys impl_ReaderOk.g.rts impl_ReaderOk.g.pms))) = evC (impl_ReaderOk.E k) (fun κ s => lhOf k κ s impl_ReaderOk.pts) b111 (OM.start impl_ReaderOk.g.pms 0 (a0, ())) (OM.fin impl_ReaderOk.g Tryz.f111.results.toList) := by kernel_rfl
theorem impl_ReaderOk.ok (k : Nat) : SmOk Tryz.prog (impl_ReaderOk.sm k) :=
  sm_ok mixed (E := impl_ReaderOk.E) (pts := impl_ReaderOk.pts) (fun k => ⟨⟨tysOk, by kernel_rfl⟩, forall_cons ⟨impl_within.ok k, e101⟩ (forall_nil)⟩) (fun _ => rfl) (fun _ => rfl)
    ⟨Tryz.func111, by kernel_rfl, by kernel_rfl, by kernel_rfl, by kernel_rfl, by kernel_rfl, by kernel_rfl⟩ (forall_nil) (fun k x => impl_ReaderOk.hf k x.1) k
noncomputable def b50 : Code := Tryz.f50.body.getD .skip
theorem e50 : OM.Entry Tryz.prog 50 := ⟨_, Tryz.func50, by kernel_rfl, by kernel_rfl⟩
@[reducible] noncomputable def impl_World_readersOk.g : Sig := ⟨[.fz (.fp tWorld)], [.v .bool .z], []⟩
@[reducible] noncomputable def impl_World_readersOk.fk : Nat → denI impl_World_readersOk.g.pms → Option (denR (outTys impl_World_readersOk.g.rts impl_World_readersOk.g.pms)) := fun k x => impl_World_readersOk.f k x.1
@[reducible] noncomputable def impl_World_readersOk.sm (k : Nat) : Sm := ⟨50, impl_World_readersOk.g.pms, impl_World_readersOk.g.rts, impl_World_readersOk.fk k⟩
noncomputable def impl_World_readersOk.E (k : Nat) : Env := ⟨tys, [impl_ReaderOk.sm k], [13], [], []⟩
@[reducible] noncomputable def impl_World_readersOk.s5 : List Slot := [.v 0 (.fp tWorld) .z [] 0, .v 32 (.sl tReader) .z [] 0, .v 36 (.int .i64) .z [] 0, .v 40 (.int .i64) .z [] 0]
noncomputable def impl_World_readersOk.pts : List (Pt (denR (outTys impl_World_readersOk.g.rts impl_World_readersOk.g.pms))) := [⟨5, impl_World_readersOk.s5, fun k x => impl_World_readersOk.p5 k x.1 x.2.1 x.2.2.1 x.2.2.2.1⟩]
theorem impl_World_readersOk.h5 (k : Nat) (x0 : World) (x1 : (List Reader)) (x2 : Int) (x3 : Int) : (impl_World_readersOk.p5 (k + 1) x0 x1 x2 x3 : Option (denR (outTys impl_World_readersOk.g.rts impl_World_readersOk.g.pms))) = evAt (impl_World_readersOk.E k) (fun κ s => lhOf k κ s impl_World_readersOk.pts) 5 b50 (unproj impl_World_readersOk.s5 (x0, x1, x2, x3, ())) (OM.fin impl_World_readersOk.g Tryz.f50.results.toList) := by kernel_rfl
theorem impl_World_readersOk.hf (k : Nat) (a0 : World) : (impl_World_readersOk.f k a0 : Option (denR (outTys impl_World_readersOk.g.rts impl_World_readersOk.g.pms))) = evC (impl_World_readersOk.E k) (fun κ s => lhOf k κ s impl_World_readersOk.pts) b50 (OM.start impl_World_readersOk.g.pms 0 (a0, ())) (OM.fin impl_World_readersOk.g Tryz.f50.results.toList) := by kernel_rfl
theorem impl_World_readersOk.ok (k : Nat) : SmOk Tryz.prog (impl_World_readersOk.sm k) :=
  sm_ok mixed (E := impl_World_readersOk.E) (pts := impl_World_readersOk.pts) (fun k => ⟨⟨tysOk, by kernel_rfl⟩, forall_cons ⟨impl_ReaderOk.ok k, e111⟩ (forall_nil)⟩) (fun _ => rfl) (fun _ => rfl)
    ⟨Tryz.func50, by kernel_rfl, by kernel_rfl, by kernel_rfl, by kernel_rfl, by kernel_rfl, by kernel_rfl⟩ (forall_cons (fun x => ⟨rfl, fun k => impl_World_readersOk.h5 k x.1 x.2.1 x.2.2.1 x.2.2.2.1⟩) (forall_nil)) (fun k x => impl_World_readersOk.hf k x.1) k
noncomputable def b51 : Code := Tryz.f51.body.getD .skip
theorem e51 : OM.Entry Tryz.prog 51 := ⟨_, Tryz.func51, by kernel_rfl, by kernel_rfl⟩
@[reducible] noncomputable def impl_World_sentOk.g : Sig := ⟨[.fz (.fp tWorld)], [.v .bool .z], []⟩
@[reducible] noncomputable def impl_World_sentOk.fk : Nat → denI impl_World_sentOk.g.pms → Option (denR (outTys impl_World_sentOk.g.rts impl_World_sentOk.g.pms)) := fun k x => impl_World_sentOk.f k x.1
@[reducible] noncomputable def impl_World_sentOk.sm (k : Nat) : Sm := ⟨51, impl_World_sentOk.g.pms, impl_World_sentOk.g.rts, impl_World_sentOk.fk k⟩
noncomputable def impl_World_sentOk.E (k : Nat) : Env := ⟨tys, [impl_dataOk.sm k, impl_EpochOf.sm k, impl_World_isThere.sm k], [14], [], []⟩
@[reducible] noncomputable def impl_World_sentOk.s5 : List Slot := [.v 0 (.fp tWorld) .z [] 0, .v 32 (.sl tSent) .z [] 0, .v 36 (.int .i64) .z [] 0, .v 40 (.int .i64) .z [] 0]
noncomputable def impl_World_sentOk.pts : List (Pt (denR (outTys impl_World_sentOk.g.rts impl_World_sentOk.g.pms))) := [⟨5, impl_World_sentOk.s5, fun k x => impl_World_sentOk.p5 k x.1 x.2.1 x.2.2.1 x.2.2.2.1⟩]
theorem impl_World_sentOk.h5 (k : Nat) (x0 : World) (x1 : (List Sent)) (x2 : Int) (x3 : Int) : (impl_World_sentOk.p5 (k + 1) x0 x1 x2 x3 : Option (denR (outTys impl_World_sentOk.g.rts impl_World_sentOk.g.pms))) = evAt (impl_World_sentOk.E k) (fun κ s => lhOf k κ s impl_World_sentOk.pts) 5 b51 (unproj impl_World_sentOk.s5 (x0, x1, x2, x3, ())) (OM.fin impl_World_sentOk.g Tryz.f51.results.toList) := by kernel_rfl
theorem impl_World_sentOk.hf (k : Nat) (a0 : World) : (impl_World_sentOk.f k a0 : Option (denR (outTys impl_World_sentOk.g.rts impl_World_sentOk.g.pms))) = evC (impl_World_sentOk.E k) (fun κ s => lhOf k κ s impl_World_sentOk.pts) b51 (OM.start impl_World_sentOk.g.pms 0 (a0, ())) (OM.fin impl_World_sentOk.g Tryz.f51.results.toList) := by kernel_rfl
theorem impl_World_sentOk.ok (k : Nat) : SmOk Tryz.prog (impl_World_sentOk.sm k) :=
  sm_ok mixed (E := impl_World_sentOk.E) (pts := impl_World_sentOk.pts) (fun k => ⟨⟨tysOk, by kernel_rfl⟩, forall_cons ⟨impl_dataOk.ok k, e112⟩ (forall_cons ⟨impl_EpochOf.ok k, e106⟩ (forall_cons ⟨impl_World_isThere.ok k, e108⟩ (forall_nil)))⟩) (fun _ => rfl) (fun _ => rfl)
    ⟨Tryz.func51, by kernel_rfl, by kernel_rfl, by kernel_rfl, by kernel_rfl, by kernel_rfl, by kernel_rfl⟩ (forall_cons (fun x => ⟨rfl, fun k => impl_World_sentOk.h5 k x.1 x.2.1 x.2.2.1 x.2.2.2.1⟩) (forall_nil)) (fun k x => impl_World_sentOk.hf k x.1) k
noncomputable def b9 : Code := Tryz.f9.body.getD .skip
theorem e9 : OM.Entry Tryz.prog 9 := ⟨_, Tryz.func9, by kernel_rfl, by kernel_rfl⟩
@[reducible] noncomputable def impl_WorldOk.g : Sig := ⟨[.fz tWorld], [.v .bool .z], []⟩
@[reducible] noncomputable def impl_WorldOk.fk : Nat → denI impl_WorldOk.g.pms → Option (denR (outTys impl_WorldOk.g.rts impl_WorldOk.g.pms)) := fun k x => impl_WorldOk.f k x.1
@[reducible] noncomputable def impl_WorldOk.sm (k : Nat) : Sm := ⟨9, impl_WorldOk.g.pms, impl_WorldOk.g.rts, impl_WorldOk.fk k⟩
noncomputable def impl_WorldOk.E (k : Nat) : Env := ⟨tys, [impl_ConfigOk.sm k, impl_World_storesOk.sm k, impl_RegOk.sm k, impl_World_writersOk.sm k, impl_World_mendsOk.sm k, impl_World_readersOk.sm k, impl_World_sentOk.sm k], [], [2], []⟩
@[reducible] noncomputable def impl_WorldOk.s4 : List Slot := [.r 4 5 [] tWorld, .v 12 .bool .z [] 0, .v 5 tWorld .z [] 0]
noncomputable def impl_WorldOk.pts : List (Pt (denR (outTys impl_WorldOk.g.rts impl_WorldOk.g.pms))) := [⟨4, impl_WorldOk.s4, fun k x => impl_WorldOk.p4 k x.1 x.2.1⟩]
theorem impl_WorldOk.h4 (k : Nat) (x0 : Bool) (x1 : World) : (impl_WorldOk.p4 (k + 1) x0 x1 : Option (denR (outTys impl_WorldOk.g.rts impl_WorldOk.g.pms))) = evAt (impl_WorldOk.E k) (fun κ s => lhOf k κ s impl_WorldOk.pts) 4 b9 (unproj impl_WorldOk.s4 (x0, x1, ())) (OM.fin impl_WorldOk.g Tryz.f9.results.toList) := by kernel_rfl
theorem impl_WorldOk.hf (k : Nat) (a0 : World) : (impl_WorldOk.f k a0 : Option (denR (outTys impl_WorldOk.g.rts impl_WorldOk.g.pms))) = evC (impl_WorldOk.E k) (fun κ s => lhOf k κ s impl_WorldOk.pts) b9 (OM.start impl_WorldOk.g.pms 0 (a0, ())) (OM.fin impl_WorldOk.g Tryz.f9.results.toList) := by kernel_rfl
theorem impl_WorldOk.ok (k : Nat) : SmOk Tryz.prog (impl_WorldOk.sm k) :=
  sm_ok mixed (E := impl_WorldOk.E) (pts := impl_WorldOk.pts) (fun k => ⟨⟨tysOk, by kernel_rfl⟩, forall_cons ⟨impl_ConfigOk.ok k, e45⟩ (forall_cons ⟨impl_World_storesOk.ok k, e46⟩ (forall_cons ⟨impl_RegOk.ok k, e47⟩ (forall_cons ⟨impl_World_writersOk.ok k, e48⟩ (forall_cons ⟨impl_World_mendsOk.ok k, e49⟩ (forall_cons ⟨impl_World_readersOk.ok k, e50⟩ (forall_cons ⟨impl_World_sentOk.ok k, e51⟩ (forall_nil)))))))⟩) (fun _ => rfl) (fun _ => rfl)
    ⟨Tryz.func9, by kernel_rfl, by kernel_rfl, by kernel_rfl, by kernel_rfl, by kernel_rfl, by kernel_rfl⟩ (forall_cons (fun x => ⟨rfl, fun k => impl_WorldOk.h4 k x.1 x.2.1⟩) (forall_nil)) (fun k x => impl_WorldOk.hf k x.1) k
noncomputable def b138 : Code := Tryz.f138.body.getD .skip
theorem e138 : OM.Entry Tryz.prog 138 := ⟨_, Tryz.func138, by kernel_rfl, by kernel_rfl⟩
@[reducible] noncomputable def impl_placeIn_1.g : Sig := ⟨[.fz tEntry, .fz (.int .i64)], [.v (.int .i64) .z], []⟩
@[reducible] noncomputable def impl_placeIn_1.fk : Nat → denI impl_placeIn_1.g.pms → Option (denR (outTys impl_placeIn_1.g.rts impl_placeIn_1.g.pms)) := fun k x => impl_placeIn_1.f x.1 x.2.1
@[reducible] noncomputable def impl_placeIn_1.sm (k : Nat) : Sm := ⟨138, impl_placeIn_1.g.pms, impl_placeIn_1.g.rts, impl_placeIn_1.fk k⟩
noncomputable def impl_placeIn_1.E (k : Nat) : Env := ⟨tys, [], [], [], []⟩
noncomputable def impl_placeIn_1.pts : List (Pt (denR (outTys impl_placeIn_1.g.rts impl_placeIn_1.g.pms))) := []
theorem impl_placeIn_1.hf (k : Nat) (a0 : Entry) (a1 : Int) : (impl_placeIn_1.f a0 a1 : Option (denR (outTys impl_placeIn_1.g.rts impl_placeIn_1.g.pms))) = evC (impl_placeIn_1.E k) (fun κ s => lhOf k κ s impl_placeIn_1.pts) b138 (OM.start impl_placeIn_1.g.pms 0 (a0, a1, ())) (OM.fin impl_placeIn_1.g Tryz.f138.results.toList) := by kernel_rfl
theorem impl_placeIn_1.ok (k : Nat) : SmOk Tryz.prog (impl_placeIn_1.sm k) :=
  sm_ok mixed (E := impl_placeIn_1.E) (pts := impl_placeIn_1.pts) (fun k => ⟨⟨tysOk, by kernel_rfl⟩, forall_nil⟩) (fun _ => rfl) (fun _ => rfl)
    ⟨Tryz.func138, by kernel_rfl, by kernel_rfl, by kernel_rfl, by kernel_rfl, by kernel_rfl, by kernel_rfl⟩ (forall_nil) (fun k x => impl_placeIn_1.hf k x.1 x.2.1) k
noncomputable def b137 : Code := Tryz.f137.body.getD .skip
theorem e137 : OM.Entry Tryz.prog 137 := ⟨_, Tryz.func137, by kernel_rfl, by kernel_rfl⟩
@[reducible] noncomputable def slices_BinarySearchFunc_impl_Entry_impl_Entry_int_impl_placeIn_1.g : Sig := ⟨[.fz (.sl tEntry), .fz (.int .i64), .fz (.fn 138 .unit)], [.v (.int .i64) .z, .v .bool .z], []⟩
@[reducible] noncomputable def slices_BinarySearchFunc_impl_Entry_impl_Entry_int_impl_placeIn_1.fk : Nat → denI slices_BinarySearchFunc_impl_Entry_impl_Entry_int_impl_placeIn_1.g.pms → Option (denR (outTys slices_BinarySearchFunc_impl_Entry_impl_Entry_int_impl_placeIn_1.g.rts slices_BinarySearchFunc_impl_Entry_impl_Entry_int_impl_placeIn_1.g.pms)) := fun k x => slices_BinarySearchFunc_impl_Entry_impl_Entry_int_impl_placeIn_1.f k x.1 x.2.1 x.2.2.1
@[reducible] noncomputable def slices_BinarySearchFunc_impl_Entry_impl_Entry_int_impl_placeIn_1.sm (k : Nat) : Sm := ⟨137, slices_BinarySearchFunc_impl_Entry_impl_Entry_int_impl_placeIn_1.g.pms, slices_BinarySearchFunc_impl_Entry_impl_Entry_int_impl_placeIn_1.g.rts, slices_BinarySearchFunc_impl_Entry_impl_Entry_int_impl_placeIn_1.fk k⟩
noncomputable def slices_BinarySearchFunc_impl_Entry_impl_Entry_int_impl_placeIn_1.E (k : Nat) : Env := ⟨tys, [impl_placeIn_1.sm k], [34], [], []⟩
@[reducible] noncomputable def slices_BinarySearchFunc_impl_Entry_impl_Entry_int_impl_placeIn_1.s7 : List Slot := [.v 0 (.sl tEntry) .z [] 0, .v 4 (.int .i64) .z [] 0, .v 8 (.fn 138 .unit) .z [] 0, .v 32 (.int .i64) .z [] 0, .v 36 (.int .i64) .z [] 0, .v 40 (.int .i64) .z [] 0]
noncomputable def slices_BinarySearchFunc_impl_Entry_impl_Entry_int_impl_placeIn_1.pts : List (Pt (denR (outTys slices_BinarySearchFunc_impl_Entry_impl_Entry_int_impl_placeIn_1.g.rts slices_BinarySearchFunc_impl_Entry_impl_Entry_int_impl_placeIn_1.g.pms))) := [⟨7, slices_BinarySearchFunc_impl_Entry_impl_Entry_int_impl_placeIn_1.s7, fun k x => slices_BinarySearchFunc_impl_Entry_impl_Entry_int_impl_placeIn_1.p7 k x.1 x.2.1 x.2.2.1 x.2.2.2.1 x.2.2.2.2.1 x.2.2.2.2.2.1⟩]
theorem slices_BinarySearchFunc_impl_Entry_impl_Entry_int_impl_placeIn_1.h7 (k : Nat) (x0 : (List Entry)) (x1 : Int) (x2 : Unit) (x3 : Int) (x4 : Int) (x5 : Int) : (slices_BinarySearchFunc_impl_Entry_impl_Entry_int_impl_placeIn_1.p7 (k + 1) x0 x1 x2 x3 x4 x5 : Option (denR (outTys slices_BinarySearchFunc_impl_Entry_impl_Entry_int_impl_placeIn_1.g.rts slices_BinarySearchFunc_impl_Entry_impl_Entry_int_impl_placeIn_1.g.pms))) = evAt (slices_BinarySearchFunc_impl_Entry_impl_Entry_int_impl_placeIn_1.E k) (fun κ s => lhOf k κ s slices_BinarySearchFunc_impl_Entry_impl_Entry_int_impl_placeIn_1.pts) 7 b137 (unproj slices_BinarySearchFunc_impl_Entry_impl_Entry_int_impl_placeIn_1.s7 (x0, x1, x2, x3, x4, x5, ())) (OM.fin slices_BinarySearchFunc_impl_Entry_impl_Entry_int_impl_placeIn_1.g Tryz.f137.results.toList) := by kernel_rfl
theorem slices_BinarySearchFunc_impl_Entry_impl_Entry_int_impl_placeIn_1.hf (k : Nat) (a0 : (List Entry)) (a1 : Int) (a2 : Unit) : (slices_BinarySearchFunc_impl_Entry_impl_Entry_int_impl_placeIn_1.f k a0 a1 a2 : Option (denR (outTys slices_BinarySearchFunc_impl_Entry_impl_Entry_int_impl_placeIn_1.g.rts slices_BinarySearchFunc_impl_Entry_impl_Entry_int_impl_placeIn_1.g.pms))) = evC (slices_BinarySearchFunc_impl_Entry_impl_Entry_int_impl_placeIn_1.E k) (fun κ s => lhOf k κ s slices_BinarySearchFunc_impl_Entry_impl_Entry_int_impl_placeIn_1.pts) b137 (OM.start slices_BinarySearchFunc_impl_Entry_impl_Entry_int_impl_placeIn_1.g.pms 0 (a0, a1, a2, ())) (OM.fin slices_BinarySearchFunc_impl_Entry_impl_Entry_int_impl_placeIn_1.g Tryz.f137.results.toList) := by kernel_rfl
theorem slices_BinarySearchFunc_impl_Entry_impl_Entry_int_impl_placeIn_1.ok (k : Nat) : SmOk Tryz.prog (slices_BinarySearchFunc_impl_Entry_impl_Entry_int_impl_placeIn_1.sm k) :=
  sm_ok mixed (E := slices_BinarySearchFunc_impl_Entry_impl_Entry_int_impl_placeIn_1.E) (pts := slices_BinarySearchFunc_impl_Entry_impl_Entry_int_impl_placeIn_1.pts) (fun k => ⟨⟨tysOk, by kernel_rfl⟩, forall_cons ⟨impl_placeIn_1.ok k, e138⟩ (forall_nil)⟩) (fun _ => rfl) (fun _ => rfl)
    ⟨Tryz.func137, by kernel_rfl, by kernel_rfl, by kernel_rfl, by kernel_rfl, by kernel_rfl, by kernel_rfl⟩ (forall_cons (fun x => ⟨rfl, fun k => slices_BinarySearchFunc_impl_Entry_impl_Entry_int_impl_placeIn_1.h7 k x.1 x.2.1 x.2.2.1 x.2.2.2.1 x.2.2.2.2.1 x.2.2.2.2.2.1⟩) (forall_nil)) (fun k x => slices_BinarySearchFunc_impl_Entry_impl_Entry_int_impl_placeIn_1.hf k x.1 x.2.1 x.2.2.1) k
noncomputable def b71 : Code := Tryz.f71.body.getD .skip
theorem e71 : OM.Entry Tryz.prog 71 := ⟨_, Tryz.func71, by kernel_rfl, by kernel_rfl⟩
@[reducible] noncomputable def impl_placeIn.g : Sig := ⟨[.fz (.sl tEntry), .fz (.int .i64)], [.v (.int .i64) .z, .v .bool .z], []⟩
@[reducible] noncomputable def impl_placeIn.fk : Nat → denI impl_placeIn.g.pms → Option (denR (outTys impl_placeIn.g.rts impl_placeIn.g.pms)) := fun k x => impl_placeIn.f k x.1 x.2.1
@[reducible] noncomputable def impl_placeIn.sm (k : Nat) : Sm := ⟨71, impl_placeIn.g.pms, impl_placeIn.g.rts, impl_placeIn.fk k⟩
noncomputable def impl_placeIn.E (k : Nat) : Env := ⟨tys, [slices_BinarySearchFunc_impl_Entry_impl_Entry_int_impl_placeIn_1.sm k], [], [], []⟩
noncomputable def impl_placeIn.pts : List (Pt (denR (outTys impl_placeIn.g.rts impl_placeIn.g.pms))) := []
theorem impl_placeIn.hf (k : Nat) (a0 : (List Entry)) (a1 : Int) : (impl_placeIn.f k a0 a1 : Option (denR (outTys impl_placeIn.g.rts impl_placeIn.g.pms))) = evC (impl_placeIn.E k) (fun κ s => lhOf k κ s impl_placeIn.pts) b71 (OM.start impl_placeIn.g.pms 0 (a0, a1, ())) (OM.fin impl_placeIn.g Tryz.f71.results.toList) := by kernel_rfl
theorem impl_placeIn.ok (k : Nat) : SmOk Tryz.prog (impl_placeIn.sm k) :=
  sm_ok mixed (E := impl_placeIn.E) (pts := impl_placeIn.pts) (fun k => ⟨⟨tysOk, by kernel_rfl⟩, forall_cons ⟨slices_BinarySearchFunc_impl_Entry_impl_Entry_int_impl_placeIn_1.ok k, e137⟩ (forall_nil)⟩) (fun _ => rfl) (fun _ => rfl)
    ⟨Tryz.func71, by kernel_rfl, by kernel_rfl, by kernel_rfl, by kernel_rfl, by kernel_rfl, by kernel_rfl⟩ (forall_nil) (fun k x => impl_placeIn.hf k x.1 x.2.1) k
noncomputable def b20 : Code := Tryz.f20.body.getD .skip
theorem e20 : OM.Entry Tryz.prog 20 := ⟨_, Tryz.func20, by kernel_rfl, by kernel_rfl⟩
@[reducible] noncomputable def impl_StoreGet.g : Sig := ⟨[.fz tStore, .fz (.int .i64)], [.v tEntry .z, .v .bool .z], []⟩
@[reducible] noncomputable def impl_StoreGet.fk : Nat → denI impl_StoreGet.g.pms → Option (denR (outTys impl_StoreGet.g.rts impl_StoreGet.g.pms)) := fun k x => impl_StoreGet.f k x.1 x.2.1
@[reducible] noncomputable def impl_StoreGet.sm (k : Nat) : Sm := ⟨20, impl_StoreGet.g.pms, impl_StoreGet.g.rts, impl_StoreGet.fk k⟩
noncomputable def impl_StoreGet.E (k : Nat) : Env := ⟨tys, [impl_StoreOk.sm k, impl_placeIn.sm k], [], [], []⟩
noncomputable def impl_StoreGet.pts : List (Pt (denR (outTys impl_StoreGet.g.rts impl_StoreGet.g.pms))) := []
theorem impl_StoreGet.hf (k : Nat) (a0 : Store) (a1 : Int) : (impl_StoreGet.f k a0 a1 : Option (denR (outTys impl_StoreGet.g.rts impl_StoreGet.g.pms))) = evC (impl_StoreGet.E k) (fun κ s => lhOf k κ s impl_StoreGet.pts) b20 (OM.start impl_StoreGet.g.pms 0 (a0, a1, ())) (OM.fin impl_StoreGet.g Tryz.f20.results.toList) := by kernel_rfl
theorem impl_StoreGet.ok (k : Nat) : SmOk Tryz.prog (impl_StoreGet.sm k) :=
  sm_ok mixed (E := impl_StoreGet.E) (pts := impl_StoreGet.pts) (fun k => ⟨⟨tysOk, by kernel_rfl⟩, forall_cons ⟨impl_StoreOk.ok k, e70⟩ (forall_cons ⟨impl_placeIn.ok k, e71⟩ (forall_nil))⟩) (fun _ => rfl) (fun _ => rfl)
    ⟨Tryz.func20, by kernel_rfl, by kernel_rfl, by kernel_rfl, by kernel_rfl, by kernel_rfl, by kernel_rfl⟩ (forall_nil) (fun k x => impl_StoreGet.hf k x.1 x.2.1) k
noncomputable def b12 : Code := Tryz.f12.body.getD .skip
theorem e12 : OM.Entry Tryz.prog 12 := ⟨_, Tryz.func12, by kernel_rfl, by kernel_rfl⟩
@[reducible] noncomputable def impl_HoldersOf.g : Sig := ⟨[.fz tWorld, .fz (.int .i64)], [.v (.sl (.int .i64)) (.own .z)], []⟩
@[reducible] noncomputable def impl_HoldersOf.fk : Nat → denI impl_HoldersOf.g.pms → Option (denR (outTys impl_HoldersOf.g.rts impl_HoldersOf.g.pms)) := fun k x => impl_HoldersOf.f k x.1 x.2.1
@[reducible] noncomputable def impl_HoldersOf.sm (k : Nat) : Sm := ⟨12, impl_HoldersOf.g.pms, impl_HoldersOf.g.rts, impl_HoldersOf.fk k⟩
noncomputable def impl_HoldersOf.E (k : Nat) : Env := ⟨tys, [impl_WorldOk.sm k, impl_StoreGet.sm k], [22, 31], [], []⟩
@[reducible] noncomputable def impl_HoldersOf.s11 : List Slot := [.v 4 (.int .i64) .z [] 0, .v 20 (.sl (.int .i64)) (.own .z) [] 0, .v 64 (.sl tStore) .z [] 0, .v 68 (.int .i64) .z [] 0, .v 72 (.int .i64) .z [] 0]
noncomputable def impl_HoldersOf.pts : List (Pt (denR (outTys impl_HoldersOf.g.rts impl_HoldersOf.g.pms))) := [⟨11, impl_HoldersOf.s11, fun k x => impl_HoldersOf.p11 k x.1 x.2.1 x.2.2.1 x.2.2.2.1 x.2.2.2.2.1⟩]
theorem impl_HoldersOf.h11 (k : Nat) (x0 : Int) (x1 : (List Int)) (x2 : (List Store)) (x3 : Int) (x4 : Int) : (impl_HoldersOf.p11 (k + 1) x0 x1 x2 x3 x4 : Option (denR (outTys impl_HoldersOf.g.rts impl_HoldersOf.g.pms))) = evAt (impl_HoldersOf.E k) (fun κ s => lhOf k κ s impl_HoldersOf.pts) 11 b12 (unproj impl_HoldersOf.s11 (x0, x1, x2, x3, x4, ())) (OM.fin impl_HoldersOf.g Tryz.f12.results.toList) := by kernel_rfl
theorem impl_HoldersOf.hf (k : Nat) (a0 : World) (a1 : Int) : (impl_HoldersOf.f k a0 a1 : Option (denR (outTys impl_HoldersOf.g.rts impl_HoldersOf.g.pms))) = evC (impl_HoldersOf.E k) (fun κ s => lhOf k κ s impl_HoldersOf.pts) b12 (OM.start impl_HoldersOf.g.pms 0 (a0, a1, ())) (OM.fin impl_HoldersOf.g Tryz.f12.results.toList) := by kernel_rfl
theorem impl_HoldersOf.ok (k : Nat) : SmOk Tryz.prog (impl_HoldersOf.sm k) :=
  sm_ok mixed (E := impl_HoldersOf.E) (pts := impl_HoldersOf.pts) (fun k => ⟨⟨tysOk, by kernel_rfl⟩, forall_cons ⟨impl_WorldOk.ok k, e9⟩ (forall_cons ⟨impl_StoreGet.ok k, e20⟩ (forall_nil))⟩) (fun _ => rfl) (fun _ => rfl)
    ⟨Tryz.func12, by kernel_rfl, by kernel_rfl, by kernel_rfl, by kernel_rfl, by kernel_rfl, by kernel_rfl⟩ (forall_cons (fun x => ⟨rfl, fun k => impl_HoldersOf.h11 k x.1 x.2.1 x.2.2.1 x.2.2.2.1 x.2.2.2.2.1⟩) (forall_nil)) (fun k x => impl_HoldersOf.hf k x.1 x.2.1) k
noncomputable def b13 : Code := Tryz.f13.body.getD .skip
theorem e13 : OM.Entry Tryz.prog 13 := ⟨_, Tryz.func13, by kernel_rfl, by kernel_rfl⟩
@[reducible] noncomputable def laws_eqIntS.g : Sig := ⟨[.fz (.sl (.int .i64)), .fz (.sl (.int .i64))], [.v .bool .z], []⟩
@[reducible] noncomputable def laws_eqIntS.fk : Nat → denI laws_eqIntS.g.pms → Option (denR (outTys laws_eqIntS.g.rts laws_eqIntS.g.pms)) := fun k x => laws_eqIntS.f k x.1 x.2.1
@[reducible] noncomputable def laws_eqIntS.sm (k : Nat) : Sm := ⟨13, laws_eqIntS.g.pms, laws_eqIntS.g.rts, laws_eqIntS.fk k⟩
noncomputable def laws_eqIntS.E (k : Nat) : Env := ⟨tys, [], [], [], []⟩
@[reducible] noncomputable def laws_eqIntS.s9 : List Slot := [.v 0 (.sl (.int .i64)) .z [] 0, .v 4 (.sl (.int .i64)) .z [] 0, .v 20 (.int .i64) .z [] 0]
noncomputable def laws_eqIntS.pts : List (Pt (denR (outTys laws_eqIntS.g.rts laws_eqIntS.g.pms))) := [⟨9, laws_eqIntS.s9, fun k x => laws_eqIntS.p9 k x.1 x.2.1 x.2.2.1⟩]
theorem laws_eqIntS.h9 (k : Nat) (x0 : (List Int)) (x1 : (List Int)) (x2 : Int) : (laws_eqIntS.p9 (k + 1) x0 x1 x2 : Option (denR (outTys laws_eqIntS.g.rts laws_eqIntS.g.pms))) = evAt (laws_eqIntS.E k) (fun κ s => lhOf k κ s laws_eqIntS.pts) 9 b13 (unproj laws_eqIntS.s9 (x0, x1, x2, ())) (OM.fin laws_eqIntS.g Tryz.f13.results.toList) := by kernel_rfl
theorem laws_eqIntS.hf (k : Nat) (a0 : (List Int)) (a1 : (List Int)) : (laws_eqIntS.f k a0 a1 : Option (denR (outTys laws_eqIntS.g.rts laws_eqIntS.g.pms))) = evC (laws_eqIntS.E k) (fun κ s => lhOf k κ s laws_eqIntS.pts) b13 (OM.start laws_eqIntS.g.pms 0 (a0, a1, ())) (OM.fin laws_eqIntS.g Tryz.f13.results.toList) := by kernel_rfl
theorem laws_eqIntS.ok (k : Nat) : SmOk Tryz.prog (laws_eqIntS.sm k) :=
  sm_ok mixed (E := laws_eqIntS.E) (pts := laws_eqIntS.pts) (fun k => ⟨⟨tysOk, by kernel_rfl⟩, forall_nil⟩) (fun _ => rfl) (fun _ => rfl)
    ⟨Tryz.func13, by kernel_rfl, by kernel_rfl, by kernel_rfl, by kernel_rfl, by kernel_rfl, by kernel_rfl⟩ (forall_cons (fun x => ⟨rfl, fun k => laws_eqIntS.h9 k x.1 x.2.1 x.2.2.1⟩) (forall_nil)) (fun k x => laws_eqIntS.hf k x.1 x.2.1) k
noncomputable def b52 : Code := Tryz.f52.body.getD .skip
theorem e52 : OM.Entry Tryz.prog 52 := ⟨_, Tryz.func52, by kernel_rfl, by kernel_rfl⟩
@[reducible] noncomputable def laws_eqConfig.g : Sig := ⟨[.fz tConfig, .fz tConfig], [.v .bool .z], []⟩
@[reducible] noncomputable def laws_eqConfig.fk : Nat → denI laws_eqConfig.g.pms → Option (denR (outTys laws_eqConfig.g.rts laws_eqConfig.g.pms)) := fun k x => laws_eqConfig.f k x.1 x.2.1
@[reducible] noncomputable def laws_eqConfig.sm (k : Nat) : Sm := ⟨52, laws_eqConfig.g.pms, laws_eqConfig.g.rts, laws_eqConfig.fk k⟩
noncomputable def laws_eqConfig.E (k : Nat) : Env := ⟨tys, [laws_eqIntS.sm k], [], [], []⟩
noncomputable def laws_eqConfig.pts : List (Pt (denR (outTys laws_eqConfig.g.rts laws_eqConfig.g.pms))) := []
theorem laws_eqConfig.hf (k : Nat) (a0 : Config) (a1 : Config) : (laws_eqConfig.f k a0 a1 : Option (denR (outTys laws_eqConfig.g.rts laws_eqConfig.g.pms))) = evC (laws_eqConfig.E k) (fun κ s => lhOf k κ s laws_eqConfig.pts) b52 (OM.start laws_eqConfig.g.pms 0 (a0, a1, ())) (OM.fin laws_eqConfig.g Tryz.f52.results.toList) := by kernel_rfl
theorem laws_eqConfig.ok (k : Nat) : SmOk Tryz.prog (laws_eqConfig.sm k) :=
  sm_ok mixed (E := laws_eqConfig.E) (pts := laws_eqConfig.pts) (fun k => ⟨⟨tysOk, by kernel_rfl⟩, forall_cons ⟨laws_eqIntS.ok k, e13⟩ (forall_nil)⟩) (fun _ => rfl) (fun _ => rfl)
    ⟨Tryz.func52, by kernel_rfl, by kernel_rfl, by kernel_rfl, by kernel_rfl, by kernel_rfl, by kernel_rfl⟩ (forall_nil) (fun k x => laws_eqConfig.hf k x.1 x.2.1) k
noncomputable def b197 : Code := Tryz.f197.body.getD .skip
theorem e197 : OM.Entry Tryz.prog 197 := ⟨_, Tryz.func197, by kernel_rfl, by kernel_rfl⟩
@[reducible] noncomputable def laws_eqEntry.g : Sig := ⟨[.fz tEntry, .fz tEntry], [.v .bool .z], []⟩
@[reducible] noncomputable def laws_eqEntry.fk : Nat → denI laws_eqEntry.g.pms → Option (denR (outTys laws_eqEntry.g.rts laws_eqEntry.g.pms)) := fun k x => laws_eqEntry.f x.1 x.2.1
@[reducible] noncomputable def laws_eqEntry.sm (k : Nat) : Sm := ⟨197, laws_eqEntry.g.pms, laws_eqEntry.g.rts, laws_eqEntry.fk k⟩
noncomputable def laws_eqEntry.E (k : Nat) : Env := ⟨tys, [], [], [], [4]⟩
noncomputable def laws_eqEntry.pts : List (Pt (denR (outTys laws_eqEntry.g.rts laws_eqEntry.g.pms))) := []
theorem laws_eqEntry.hf (k : Nat) (a0 : Entry) (a1 : Entry) : (laws_eqEntry.f a0 a1 : Option (denR (outTys laws_eqEntry.g.rts laws_eqEntry.g.pms))) = evC (laws_eqEntry.E k) (fun κ s => lhOf k κ s laws_eqEntry.pts) b197 (OM.start laws_eqEntry.g.pms 0 (a0, a1, ())) (OM.fin laws_eqEntry.g Tryz.f197.results.toList) := by kernel_rfl
theorem laws_eqEntry.ok (k : Nat) : SmOk Tryz.prog (laws_eqEntry.sm k) :=
  sm_ok mixed (E := laws_eqEntry.E) (pts := laws_eqEntry.pts) (fun k => ⟨⟨tysOk, by kernel_rfl⟩, forall_nil⟩) (fun _ => rfl) (fun _ => rfl)
    ⟨Tryz.func197, by kernel_rfl, by kernel_rfl, by kernel_rfl, by kernel_rfl, by kernel_rfl, by kernel_rfl⟩ (forall_nil) (fun k x => laws_eqEntry.hf k x.1 x.2.1) k
noncomputable def b164 : Code := Tryz.f164.body.getD .skip
theorem e164 : OM.Entry Tryz.prog 164 := ⟨_, Tryz.func164, by kernel_rfl, by kernel_rfl⟩
@[reducible] noncomputable def laws_eqEntryS.g : Sig := ⟨[.fz (.sl tEntry), .fz (.sl tEntry)], [.v .bool .z], []⟩
@[reducible] noncomputable def laws_eqEntryS.fk : Nat → denI laws_eqEntryS.g.pms → Option (denR (outTys laws_eqEntryS.g.rts laws_eqEntryS.g.pms)) := fun k x => laws_eqEntryS.f k x.1 x.2.1
@[reducible] noncomputable def laws_eqEntryS.sm (k : Nat) : Sm := ⟨164, laws_eqEntryS.g.pms, laws_eqEntryS.g.rts, laws_eqEntryS.fk k⟩
noncomputable def laws_eqEntryS.E (k : Nat) : Env := ⟨tys, [laws_eqEntry.sm k], [], [], []⟩
@[reducible] noncomputable def laws_eqEntryS.s9 : List Slot := [.v 0 (.sl tEntry) .z [] 0, .v 4 (.sl tEntry) .z [] 0, .v 20 (.int .i64) .z [] 0]
noncomputable def laws_eqEntryS.pts : List (Pt (denR (outTys laws_eqEntryS.g.rts laws_eqEntryS.g.pms))) := [⟨9, laws_eqEntryS.s9, fun k x => laws_eqEntryS.p9 k x.1 x.2.1 x.2.2.1⟩]
theorem laws_eqEntryS.h9 (k : Nat) (x0 : (List Entry)) (x1 : (List Entry)) (x2 : Int) : (laws_eqEntryS.p9 (k + 1) x0 x1 x2 : Option (denR (outTys laws_eqEntryS.g.rts laws_eqEntryS.g.pms))) = evAt (laws_eqEntryS.E k) (fun κ s => lhOf k κ s laws_eqEntryS.pts) 9 b164 (unproj laws_eqEntryS.s9 (x0, x1, x2, ())) (OM.fin laws_eqEntryS.g Tryz.f164.results.toList) := by kernel_rfl
theorem laws_eqEntryS.hf (k : Nat) (a0 : (List Entry)) (a1 : (List Entry)) : (laws_eqEntryS.f k a0 a1 : Option (denR (outTys laws_eqEntryS.g.rts laws_eqEntryS.g.pms))) = evC (laws_eqEntryS.E k) (fun κ s => lhOf k κ s laws_eqEntryS.pts) b164 (OM.start laws_eqEntryS.g.pms 0 (a0, a1, ())) (OM.fin laws_eqEntryS.g Tryz.f164.results.toList) := by kernel_rfl
theorem laws_eqEntryS.ok (k : Nat) : SmOk Tryz.prog (laws_eqEntryS.sm k) :=
  sm_ok mixed (E := laws_eqEntryS.E) (pts := laws_eqEntryS.pts) (fun k => ⟨⟨tysOk, by kernel_rfl⟩, forall_cons ⟨laws_eqEntry.ok k, e197⟩ (forall_nil)⟩) (fun _ => rfl) (fun _ => rfl)
    ⟨Tryz.func164, by kernel_rfl, by kernel_rfl, by kernel_rfl, by kernel_rfl, by kernel_rfl, by kernel_rfl⟩ (forall_cons (fun x => ⟨rfl, fun k => laws_eqEntryS.h9 k x.1 x.2.1 x.2.2.1⟩) (forall_nil)) (fun k x => laws_eqEntryS.hf k x.1 x.2.1) k
noncomputable def b113 : Code := Tryz.f113.body.getD .skip
theorem e113 : OM.Entry Tryz.prog 113 := ⟨_, Tryz.func113, by kernel_rfl, by kernel_rfl⟩
@[reducible] noncomputable def laws_eqStore.g : Sig := ⟨[.fz tStore, .fz tStore], [.v .bool .z], []⟩
@[reducible] noncomputable def laws_eqStore.fk : Nat → denI laws_eqStore.g.pms → Option (denR (outTys laws_eqStore.g.rts laws_eqStore.g.pms)) := fun k x => laws_eqStore.f k x.1 x.2.1
@[reducible] noncomputable def laws_eqStore.sm (k : Nat) : Sm := ⟨113, laws_eqStore.g.pms, laws_eqStore.g.rts, laws_eqStore.fk k⟩
noncomputable def laws_eqStore.E (k : Nat) : Env := ⟨tys, [laws_eqEntryS.sm k], [], [], []⟩
noncomputable def laws_eqStore.pts : List (Pt (denR (outTys laws_eqStore.g.rts laws_eqStore.g.pms))) := []
theorem laws_eqStore.hf (k : Nat) (a0 : Store) (a1 : Store) : (laws_eqStore.f k a0 a1 : Option (denR (outTys laws_eqStore.g.rts laws_eqStore.g.pms))) = evC (laws_eqStore.E k) (fun κ s => lhOf k κ s laws_eqStore.pts) b113 (OM.start laws_eqStore.g.pms 0 (a0, a1, ())) (OM.fin laws_eqStore.g Tryz.f113.results.toList) := by kernel_rfl
theorem laws_eqStore.ok (k : Nat) : SmOk Tryz.prog (laws_eqStore.sm k) :=
  sm_ok mixed (E := laws_eqStore.E) (pts := laws_eqStore.pts) (fun k => ⟨⟨tysOk, by kernel_rfl⟩, forall_cons ⟨laws_eqEntryS.ok k, e164⟩ (forall_nil)⟩) (fun _ => rfl) (fun _ => rfl)
    ⟨Tryz.func113, by kernel_rfl, by kernel_rfl, by kernel_rfl, by kernel_rfl, by kernel_rfl, by kernel_rfl⟩ (forall_nil) (fun k x => laws_eqStore.hf k x.1 x.2.1) k
noncomputable def b53 : Code := Tryz.f53.body.getD .skip
theorem e53 : OM.Entry Tryz.prog 53 := ⟨_, Tryz.func53, by kernel_rfl, by kernel_rfl⟩
@[reducible] noncomputable def laws_eqStoreS.g : Sig := ⟨[.fz (.sl tStore), .fz (.sl tStore)], [.v .bool .z], []⟩
@[reducible] noncomputable def laws_eqStoreS.fk : Nat → denI laws_eqStoreS.g.pms → Option (denR (outTys laws_eqStoreS.g.rts laws_eqStoreS.g.pms)) := fun k x => laws_eqStoreS.f k x.1 x.2.1
@[reducible] noncomputable def laws_eqStoreS.sm (k : Nat) : Sm := ⟨53, laws_eqStoreS.g.pms, laws_eqStoreS.g.rts, laws_eqStoreS.fk k⟩
noncomputable def laws_eqStoreS.E (k : Nat) : Env := ⟨tys, [laws_eqStore.sm k], [], [], []⟩
@[reducible] noncomputable def laws_eqStoreS.s9 : List Slot := [.v 0 (.sl tStore) .z [] 0, .v 4 (.sl tStore) .z [] 0, .v 20 (.int .i64) .z [] 0]
noncomputable def laws_eqStoreS.pts : List (Pt (denR (outTys laws_eqStoreS.g.rts laws_eqStoreS.g.pms))) := [⟨9, laws_eqStoreS.s9, fun k x => laws_eqStoreS.p9 k x.1 x.2.1 x.2.2.1⟩]
theorem laws_eqStoreS.h9 (k : Nat) (x0 : (List Store)) (x1 : (List Store)) (x2 : Int) : (laws_eqStoreS.p9 (k + 1) x0 x1 x2 : Option (denR (outTys laws_eqStoreS.g.rts laws_eqStoreS.g.pms))) = evAt (laws_eqStoreS.E k) (fun κ s => lhOf k κ s laws_eqStoreS.pts) 9 b53 (unproj laws_eqStoreS.s9 (x0, x1, x2, ())) (OM.fin laws_eqStoreS.g Tryz.f53.results.toList) := by kernel_rfl
theorem laws_eqStoreS.hf (k : Nat) (a0 : (List Store)) (a1 : (List Store)) : (laws_eqStoreS.f k a0 a1 : Option (denR (outTys laws_eqStoreS.g.rts laws_eqStoreS.g.pms))) = evC (laws_eqStoreS.E k) (fun κ s => lhOf k κ s laws_eqStoreS.pts) b53 (OM.start laws_eqStoreS.g.pms 0 (a0, a1, ())) (OM.fin laws_eqStoreS.g Tryz.f53.results.toList) := by kernel_rfl
theorem laws_eqStoreS.ok (k : Nat) : SmOk Tryz.prog (laws_eqStoreS.sm k) :=
  sm_ok mixed (E := laws_eqStoreS.E) (pts := laws_eqStoreS.pts) (fun k => ⟨⟨tysOk, by kernel_rfl⟩, forall_cons ⟨laws_eqStore.ok k, e113⟩ (forall_nil)⟩) (fun _ => rfl) (fun _ => rfl)
    ⟨Tryz.func53, by kernel_rfl, by kernel_rfl, by kernel_rfl, by kernel_rfl, by kernel_rfl, by kernel_rfl⟩ (forall_cons (fun x => ⟨rfl, fun k => laws_eqStoreS.h9 k x.1 x.2.1 x.2.2.1⟩) (forall_nil)) (fun k x => laws_eqStoreS.hf k x.1 x.2.1) k
noncomputable def b165 : Code := Tryz.f165.body.getD .skip
theorem e165 : OM.Entry Tryz.prog 165 := ⟨_, Tryz.func165, by kernel_rfl, by kernel_rfl⟩
@[reducible] noncomputable def laws_eqEra.g : Sig := ⟨[.fz tEra, .fz tEra], [.v .bool .z], []⟩
@[reducible] noncomputable def laws_eqEra.fk : Nat → denI laws_eqEra.g.pms → Option (denR (outTys laws_eqEra.g.rts laws_eqEra.g.pms)) := fun k x => laws_eqEra.f k x.1 x.2.1
@[reducible] noncomputable def laws_eqEra.sm (k : Nat) : Sm := ⟨165, laws_eqEra.g.pms, laws_eqEra.g.rts, laws_eqEra.fk k⟩
noncomputable def laws_eqEra.E (k : Nat) : Env := ⟨tys, [laws_eqIntS.sm k], [], [], [4]⟩
noncomputable def laws_eqEra.pts : List (Pt (denR (outTys laws_eqEra.g.rts laws_eqEra.g.pms))) := []
theorem laws_eqEra.hf (k : Nat) (a0 : Era) (a1 : Era) : (laws_eqEra.f k a0 a1 : Option (denR (outTys laws_eqEra.g.rts laws_eqEra.g.pms))) = evC (laws_eqEra.E k) (fun κ s => lhOf k κ s laws_eqEra.pts) b165 (OM.start laws_eqEra.g.pms 0 (a0, a1, ())) (OM.fin laws_eqEra.g Tryz.f165.results.toList) := by kernel_rfl
theorem laws_eqEra.ok (k : Nat) : SmOk Tryz.prog (laws_eqEra.sm k) :=
  sm_ok mixed (E := laws_eqEra.E) (pts := laws_eqEra.pts) (fun k => ⟨⟨tysOk, by kernel_rfl⟩, forall_cons ⟨laws_eqIntS.ok k, e13⟩ (forall_nil)⟩) (fun _ => rfl) (fun _ => rfl)
    ⟨Tryz.func165, by kernel_rfl, by kernel_rfl, by kernel_rfl, by kernel_rfl, by kernel_rfl, by kernel_rfl⟩ (forall_nil) (fun k x => laws_eqEra.hf k x.1 x.2.1) k
noncomputable def b114 : Code := Tryz.f114.body.getD .skip
theorem e114 : OM.Entry Tryz.prog 114 := ⟨_, Tryz.func114, by kernel_rfl, by kernel_rfl⟩
@[reducible] noncomputable def laws_eqEraS.g : Sig := ⟨[.fz (.sl tEra), .fz (.sl tEra)], [.v .bool .z], []⟩
@[reducible] noncomputable def laws_eqEraS.fk : Nat → denI laws_eqEraS.g.pms → Option (denR (outTys laws_eqEraS.g.rts laws_eqEraS.g.pms)) := fun k x => laws_eqEraS.f k x.1 x.2.1
@[reducible] noncomputable def laws_eqEraS.sm (k : Nat) : Sm := ⟨114, laws_eqEraS.g.pms, laws_eqEraS.g.rts, laws_eqEraS.fk k⟩
noncomputable def laws_eqEraS.E (k : Nat) : Env := ⟨tys, [laws_eqEra.sm k], [], [], []⟩
@[reducible] noncomputable def laws_eqEraS.s9 : List Slot := [.v 0 (.sl tEra) .z [] 0, .v 4 (.sl tEra) .z [] 0, .v 20 (.int .i64) .z [] 0]
noncomputable def laws_eqEraS.pts : List (Pt (denR (outTys laws_eqEraS.g.rts laws_eqEraS.g.pms))) := [⟨9, laws_eqEraS.s9, fun k x => laws_eqEraS.p9 k x.1 x.2.1 x.2.2.1⟩]
theorem laws_eqEraS.h9 (k : Nat) (x0 : (List Era)) (x1 : (List Era)) (x2 : Int) : (laws_eqEraS.p9 (k + 1) x0 x1 x2 : Option (denR (outTys laws_eqEraS.g.rts laws_eqEraS.g.pms))) = evAt (laws_eqEraS.E k) (fun κ s => lhOf k κ s laws_eqEraS.pts) 9 b114 (unproj laws_eqEraS.s9 (x0, x1, x2, ())) (OM.fin laws_eqEraS.g Tryz.f114.results.toList) := by kernel_rfl
theorem laws_eqEraS.hf (k : Nat) (a0 : (List Era)) (a1 : (List Era)) : (laws_eqEraS.f k a0 a1 : Option (denR (outTys laws_eqEraS.g.rts laws_eqEraS.g.pms))) = evC (laws_eqEraS.E k) (fun κ s => lhOf k κ s laws_eqEraS.pts) b114 (OM.start laws_eqEraS.g.pms 0 (a0, a1, ())) (OM.fin laws_eqEraS.g Tryz.f114.results.toList) := by kernel_rfl
theorem laws_eqEraS.ok (k : Nat) : SmOk Tryz.prog (laws_eqEraS.sm k) :=
  sm_ok mixed (E := laws_eqEraS.E) (pts := laws_eqEraS.pts) (fun k => ⟨⟨tysOk, by kernel_rfl⟩, forall_cons ⟨laws_eqEra.ok k, e165⟩ (forall_nil)⟩) (fun _ => rfl) (fun _ => rfl)
    ⟨Tryz.func114, by kernel_rfl, by kernel_rfl, by kernel_rfl, by kernel_rfl, by kernel_rfl, by kernel_rfl⟩ (forall_cons (fun x => ⟨rfl, fun k => laws_eqEraS.h9 k x.1 x.2.1 x.2.2.1⟩) (forall_nil)) (fun k x => laws_eqEraS.hf k x.1 x.2.1) k
noncomputable def b54 : Code := Tryz.f54.body.getD .skip
theorem e54 : OM.Entry Tryz.prog 54 := ⟨_, Tryz.func54, by kernel_rfl, by kernel_rfl⟩
@[reducible] noncomputable def laws_eqRegister.g : Sig := ⟨[.fz tRegister, .fz tRegister], [.v .bool .z], []⟩
@[reducible] noncomputable def laws_eqRegister.fk : Nat → denI laws_eqRegister.g.pms → Option (denR (outTys laws_eqRegister.g.rts laws_eqRegister.g.pms)) := fun k x => laws_eqRegister.f k x.1 x.2.1
@[reducible] noncomputable def laws_eqRegister.sm (k : Nat) : Sm := ⟨54, laws_eqRegister.g.pms, laws_eqRegister.g.rts, laws_eqRegister.fk k⟩
noncomputable def laws_eqRegister.E (k : Nat) : Env := ⟨tys, [laws_eqEraS.sm k], [], [], []⟩
noncomputable def laws_eqRegister.pts : List (Pt (denR (outTys laws_eqRegister.g.rts laws_eqRegister.g.pms))) := []
theorem laws_eqRegister.hf (k : Nat) (a0 : Register) (a1 : Register) : (laws_eqRegister.f k a0 a1 : Option (denR (outTys laws_eqRegister.g.rts laws_eqRegister.g.pms))) = evC (laws_eqRegister.E k) (fun κ s => lhOf k κ s laws_eqRegister.pts) b54 (OM.start laws_eqRegister.g.pms 0 (a0, a1, ())) (OM.fin laws_eqRegister.g Tryz.f54.results.toList) := by kernel_rfl
theorem laws_eqRegister.ok (k : Nat) : SmOk Tryz.prog (laws_eqRegister.sm k) :=
  sm_ok mixed (E := laws_eqRegister.E) (pts := laws_eqRegister.pts) (fun k => ⟨⟨tysOk, by kernel_rfl⟩, forall_cons ⟨laws_eqEraS.ok k, e114⟩ (forall_nil)⟩) (fun _ => rfl) (fun _ => rfl)
    ⟨Tryz.func54, by kernel_rfl, by kernel_rfl, by kernel_rfl, by kernel_rfl, by kernel_rfl, by kernel_rfl⟩ (forall_nil) (fun k x => laws_eqRegister.hf k x.1 x.2.1) k
noncomputable def b198 : Code := Tryz.f198.body.getD .skip
theorem e198 : OM.Entry Tryz.prog 198 := ⟨_, Tryz.func198, by kernel_rfl, by kernel_rfl⟩
@[reducible] noncomputable def laws_eqWord.g : Sig := ⟨[.fz tWord, .fz tWord], [.v .bool .z], []⟩
@[reducible] noncomputable def laws_eqWord.fk : Nat → denI laws_eqWord.g.pms → Option (denR (outTys laws_eqWord.g.rts laws_eqWord.g.pms)) := fun k x => laws_eqWord.f k x.1 x.2.1
@[reducible] noncomputable def laws_eqWord.sm (k : Nat) : Sm := ⟨198, laws_eqWord.g.pms, laws_eqWord.g.rts, laws_eqWord.fk k⟩
noncomputable def laws_eqWord.E (k : Nat) : Env := ⟨tys, [laws_eqIntS.sm k], [], [], [4]⟩
noncomputable def laws_eqWord.pts : List (Pt (denR (outTys laws_eqWord.g.rts laws_eqWord.g.pms))) := []
theorem laws_eqWord.hf (k : Nat) (a0 : Word) (a1 : Word) : (laws_eqWord.f k a0 a1 : Option (denR (outTys laws_eqWord.g.rts laws_eqWord.g.pms))) = evC (laws_eqWord.E k) (fun κ s => lhOf k κ s laws_eqWord.pts) b198 (OM.start laws_eqWord.g.pms 0 (a0, a1, ())) (OM.fin laws_eqWord.g Tryz.f198.results.toList) := by kernel_rfl
theorem laws_eqWord.ok (k : Nat) : SmOk Tryz.prog (laws_eqWord.sm k) :=
  sm_ok mixed (E := laws_eqWord.E) (pts := laws_eqWord.pts) (fun k => ⟨⟨tysOk, by kernel_rfl⟩, forall_cons ⟨laws_eqIntS.ok k, e13⟩ (forall_nil)⟩) (fun _ => rfl) (fun _ => rfl)
    ⟨Tryz.func198, by kernel_rfl, by kernel_rfl, by kernel_rfl, by kernel_rfl, by kernel_rfl, by kernel_rfl⟩ (forall_nil) (fun k x => laws_eqWord.hf k x.1 x.2.1) k
noncomputable def b166 : Code := Tryz.f166.body.getD .skip
theorem e166 : OM.Entry Tryz.prog 166 := ⟨_, Tryz.func166, by kernel_rfl, by kernel_rfl⟩
@[reducible] noncomputable def laws_eqWordS.g : Sig := ⟨[.fz (.sl tWord), .fz (.sl tWord)], [.v .bool .z], []⟩
@[reducible] noncomputable def laws_eqWordS.fk : Nat → denI laws_eqWordS.g.pms → Option (denR (outTys laws_eqWordS.g.rts laws_eqWordS.g.pms)) := fun k x => laws_eqWordS.f k x.1 x.2.1
@[reducible] noncomputable def laws_eqWordS.sm (k : Nat) : Sm := ⟨166, laws_eqWordS.g.pms, laws_eqWordS.g.rts, laws_eqWordS.fk k⟩
noncomputable def laws_eqWordS.E (k : Nat) : Env := ⟨tys, [laws_eqWord.sm k], [], [], []⟩
@[reducible] noncomputable def laws_eqWordS.s9 : List Slot := [.v 0 (.sl tWord) .z [] 0, .v 4 (.sl tWord) .z [] 0, .v 20 (.int .i64) .z [] 0]
noncomputable def laws_eqWordS.pts : List (Pt (denR (outTys laws_eqWordS.g.rts laws_eqWordS.g.pms))) := [⟨9, laws_eqWordS.s9, fun k x => laws_eqWordS.p9 k x.1 x.2.1 x.2.2.1⟩]
theorem laws_eqWordS.h9 (k : Nat) (x0 : (List Word)) (x1 : (List Word)) (x2 : Int) : (laws_eqWordS.p9 (k + 1) x0 x1 x2 : Option (denR (outTys laws_eqWordS.g.rts laws_eqWordS.g.pms))) = evAt (laws_eqWordS.E k) (fun κ s => lhOf k κ s laws_eqWordS.pts) 9 b166 (unproj laws_eqWordS.s9 (x0, x1, x2, ())) (OM.fin laws_eqWordS.g Tryz.f166.results.toList) := by kernel_rfl
theorem laws_eqWordS.hf (k : Nat) (a0 : (List Word)) (a1 : (List Word)) : (laws_eqWordS.f k a0 a1 : Option (denR (outTys laws_eqWordS.g.rts laws_eqWordS.g.pms))) = evC (laws_eqWordS.E k) (fun κ s => lhOf k κ s laws_eqWordS.pts) b166 (OM.start laws_eqWordS.g.pms 0 (a0, a1, ())) (OM.fin laws_eqWordS.g Tryz.f166.results.toList) := by kernel_rfl
theorem laws_eqWordS.ok (k : Nat) : SmOk Tryz.prog (laws_eqWordS.sm k) :=
  sm_ok mixed (E := laws_eqWordS.E) (pts := laws_eqWordS.pts) (fun k => ⟨⟨tysOk, by kernel_rfl⟩, forall_cons ⟨laws_eqWord.ok k, e198⟩ (forall_nil)⟩) (fun _ => rfl) (fun _ => rfl)
    ⟨Tryz.func166, by kernel_rfl, by kernel_rfl, by kernel_rfl, by kernel_rfl, by kernel_rfl, by kernel_rfl⟩ (forall_cons (fun x => ⟨rfl, fun k => laws_eqWordS.h9 k x.1 x.2.1 x.2.2.1⟩) (forall_nil)) (fun k x => laws_eqWordS.hf k x.1 x.2.1) k
noncomputable def b115 : Code := Tryz.f115.body.getD .skip
theorem e115 : OM.Entry Tryz.prog 115 := ⟨_, Tryz.func115, by kernel_rfl, by kernel_rfl⟩
@[reducible] noncomputable def laws_eqWriter.g : Sig := ⟨[.fz tWriter, .fz tWriter], [.v .bool .z], []⟩
@[reducible] noncomputable def laws_eqWriter.fk : Nat → denI laws_eqWriter.g.pms → Option (denR (outTys laws_eqWriter.g.rts laws_eqWriter.g.pms)) := fun k x => laws_eqWriter.f k x.1 x.2.1
@[reducible] noncomputable def laws_eqWriter.sm (k : Nat) : Sm := ⟨115, laws_eqWriter.g.pms, laws_eqWriter.g.rts, laws_eqWriter.fk k⟩
noncomputable def laws_eqWriter.E (k : Nat) : Env := ⟨tys, [laws_eqWordS.sm k], [], [], []⟩
noncomputable def laws_eqWriter.pts : List (Pt (denR (outTys laws_eqWriter.g.rts laws_eqWriter.g.pms))) := []
theorem laws_eqWriter.hf (k : Nat) (a0 : Writer) (a1 : Writer) : (laws_eqWriter.f k a0 a1 : Option (denR (outTys laws_eqWriter.g.rts laws_eqWriter.g.pms))) = evC (laws_eqWriter.E k) (fun κ s => lhOf k κ s laws_eqWriter.pts) b115 (OM.start laws_eqWriter.g.pms 0 (a0, a1, ())) (OM.fin laws_eqWriter.g Tryz.f115.results.toList) := by kernel_rfl
theorem laws_eqWriter.ok (k : Nat) : SmOk Tryz.prog (laws_eqWriter.sm k) :=
  sm_ok mixed (E := laws_eqWriter.E) (pts := laws_eqWriter.pts) (fun k => ⟨⟨tysOk, by kernel_rfl⟩, forall_cons ⟨laws_eqWordS.ok k, e166⟩ (forall_nil)⟩) (fun _ => rfl) (fun _ => rfl)
    ⟨Tryz.func115, by kernel_rfl, by kernel_rfl, by kernel_rfl, by kernel_rfl, by kernel_rfl, by kernel_rfl⟩ (forall_nil) (fun k x => laws_eqWriter.hf k x.1 x.2.1) k
noncomputable def b55 : Code := Tryz.f55.body.getD .skip
theorem e55 : OM.Entry Tryz.prog 55 := ⟨_, Tryz.func55, by kernel_rfl, by kernel_rfl⟩
@[reducible] noncomputable def laws_eqWriterS.g : Sig := ⟨[.fz (.sl tWriter), .fz (.sl tWriter)], [.v .bool .z], []⟩
@[reducible] noncomputable def laws_eqWriterS.fk : Nat → denI laws_eqWriterS.g.pms → Option (denR (outTys laws_eqWriterS.g.rts laws_eqWriterS.g.pms)) := fun k x => laws_eqWriterS.f k x.1 x.2.1
@[reducible] noncomputable def laws_eqWriterS.sm (k : Nat) : Sm := ⟨55, laws_eqWriterS.g.pms, laws_eqWriterS.g.rts, laws_eqWriterS.fk k⟩
noncomputable def laws_eqWriterS.E (k : Nat) : Env := ⟨tys, [laws_eqWriter.sm k], [], [], []⟩
@[reducible] noncomputable def laws_eqWriterS.s9 : List Slot := [.v 0 (.sl tWriter) .z [] 0, .v 4 (.sl tWriter) .z [] 0, .v 20 (.int .i64) .z [] 0]
noncomputable def laws_eqWriterS.pts : List (Pt (denR (outTys laws_eqWriterS.g.rts laws_eqWriterS.g.pms))) := [⟨9, laws_eqWriterS.s9, fun k x => laws_eqWriterS.p9 k x.1 x.2.1 x.2.2.1⟩]
theorem laws_eqWriterS.h9 (k : Nat) (x0 : (List Writer)) (x1 : (List Writer)) (x2 : Int) : (laws_eqWriterS.p9 (k + 1) x0 x1 x2 : Option (denR (outTys laws_eqWriterS.g.rts laws_eqWriterS.g.pms))) = evAt (laws_eqWriterS.E k) (fun κ s => lhOf k κ s laws_eqWriterS.pts) 9 b55 (unproj laws_eqWriterS.s9 (x0, x1, x2, ())) (OM.fin laws_eqWriterS.g Tryz.f55.results.toList) := by kernel_rfl
theorem laws_eqWriterS.hf (k : Nat) (a0 : (List Writer)) (a1 : (List Writer)) : (laws_eqWriterS.f k a0 a1 : Option (denR (outTys laws_eqWriterS.g.rts laws_eqWriterS.g.pms))) = evC (laws_eqWriterS.E k) (fun κ s => lhOf k κ s laws_eqWriterS.pts) b55 (OM.start laws_eqWriterS.g.pms 0 (a0, a1, ())) (OM.fin laws_eqWriterS.g Tryz.f55.results.toList) := by kernel_rfl
theorem laws_eqWriterS.ok (k : Nat) : SmOk Tryz.prog (laws_eqWriterS.sm k) :=
  sm_ok mixed (E := laws_eqWriterS.E) (pts := laws_eqWriterS.pts) (fun k => ⟨⟨tysOk, by kernel_rfl⟩, forall_cons ⟨laws_eqWriter.ok k, e115⟩ (forall_nil)⟩) (fun _ => rfl) (fun _ => rfl)
    ⟨Tryz.func55, by kernel_rfl, by kernel_rfl, by kernel_rfl, by kernel_rfl, by kernel_rfl, by kernel_rfl⟩ (forall_cons (fun x => ⟨rfl, fun k => laws_eqWriterS.h9 k x.1 x.2.1 x.2.2.1⟩) (forall_nil)) (fun k x => laws_eqWriterS.hf k x.1 x.2.1) k
noncomputable def b167 : Code := Tryz.f167.body.getD .skip
theorem e167 : OM.Entry Tryz.prog 167 := ⟨_, Tryz.func167, by kernel_rfl, by kernel_rfl⟩
@[reducible] noncomputable def laws_eqIntSS.g : Sig := ⟨[.fz (.sl (.sl (.int .i64))), .fz (.sl (.sl (.int .i64)))], [.v .bool .z], []⟩
@[reducible] noncomputable def laws_eqIntSS.fk : Nat → denI laws_eqIntSS.g.pms → Option (denR (outTys laws_eqIntSS.g.rts laws_eqIntSS.g.pms)) := fun k x => laws_eqIntSS.f k x.1 x.2.1
@[reducible] noncomputable def laws_eqIntSS.sm (k : Nat) : Sm := ⟨167, laws_eqIntSS.g.pms, laws_eqIntSS.g.rts, laws_eqIntSS.fk k⟩
noncomputable def laws_eqIntSS.E (k : Nat) : Env := ⟨tys, [laws_eqIntS.sm k], [], [], []⟩
@[reducible] noncomputable def laws_eqIntSS.s9 : List Slot := [.v 0 (.sl (.sl (.int .i64))) .z [] 0, .v 4 (.sl (.sl (.int .i64))) .z [] 0, .v 20 (.int .i64) .z [] 0]
noncomputable def laws_eqIntSS.pts : List (Pt (denR (outTys laws_eqIntSS.g.rts laws_eqIntSS.g.pms))) := [⟨9, laws_eqIntSS.s9, fun k x => laws_eqIntSS.p9 k x.1 x.2.1 x.2.2.1⟩]
theorem laws_eqIntSS.h9 (k : Nat) (x0 : (List (List Int))) (x1 : (List (List Int))) (x2 : Int) : (laws_eqIntSS.p9 (k + 1) x0 x1 x2 : Option (denR (outTys laws_eqIntSS.g.rts laws_eqIntSS.g.pms))) = evAt (laws_eqIntSS.E k) (fun κ s => lhOf k κ s laws_eqIntSS.pts) 9 b167 (unproj laws_eqIntSS.s9 (x0, x1, x2, ())) (OM.fin laws_eqIntSS.g Tryz.f167.results.toList) := by kernel_rfl
theorem laws_eqIntSS.hf (k : Nat) (a0 : (List (List Int))) (a1 : (List (List Int))) : (laws_eqIntSS.f k a0 a1 : Option (denR (outTys laws_eqIntSS.g.rts laws_eqIntSS.g.pms))) = evC (laws_eqIntSS.E k) (fun κ s => lhOf k κ s laws_eqIntSS.pts) b167 (OM.start laws_eqIntSS.g.pms 0 (a0, a1, ())) (OM.fin laws_eqIntSS.g Tryz.f167.results.toList) := by kernel_rfl
theorem laws_eqIntSS.ok (k : Nat) : SmOk Tryz.prog (laws_eqIntSS.sm k) :=
  sm_ok mixed (E := laws_eqIntSS.E) (pts := laws_eqIntSS.pts) (fun k => ⟨⟨tysOk, by kernel_rfl⟩, forall_cons ⟨laws_eqIntS.ok k, e13⟩ (forall_nil)⟩) (fun _ => rfl) (fun _ => rfl)
    ⟨Tryz.func167, by kernel_rfl, by kernel_rfl, by kernel_rfl, by kernel_rfl, by kernel_rfl, by kernel_rfl⟩ (forall_cons (fun x => ⟨rfl, fun k => laws_eqIntSS.h9 k x.1 x.2.1 x.2.2.1⟩) (forall_nil)) (fun k x => laws_eqIntSS.hf k x.1 x.2.1) k
noncomputable def b116 : Code := Tryz.f116.body.getD .skip
theorem e116 : OM.Entry Tryz.prog 116 := ⟨_, Tryz.func116, by kernel_rfl, by kernel_rfl⟩
@[reducible] noncomputable def laws_eqMend.g : Sig := ⟨[.fz tMend, .fz tMend], [.v .bool .z], []⟩
@[reducible] noncomputable def laws_eqMend.fk : Nat → denI laws_eqMend.g.pms → Option (denR (outTys laws_eqMend.g.rts laws_eqMend.g.pms)) := fun k x => laws_eqMend.f k x.1 x.2.1
@[reducible] noncomputable def laws_eqMend.sm (k : Nat) : Sm := ⟨116, laws_eqMend.g.pms, laws_eqMend.g.rts, laws_eqMend.fk k⟩
noncomputable def laws_eqMend.E (k : Nat) : Env := ⟨tys, [laws_eqIntS.sm k, laws_eqEntryS.sm k, laws_eqIntSS.sm k], [], [], [4]⟩
noncomputable def laws_eqMend.pts : List (Pt (denR (outTys laws_eqMend.g.rts laws_eqMend.g.pms))) := []
theorem laws_eqMend.hf (k : Nat) (a0 : Mend) (a1 : Mend) : (laws_eqMend.f k a0 a1 : Option (denR (outTys laws_eqMend.g.rts laws_eqMend.g.pms))) = evC (laws_eqMend.E k) (fun κ s => lhOf k κ s laws_eqMend.pts) b116 (OM.start laws_eqMend.g.pms 0 (a0, a1, ())) (OM.fin laws_eqMend.g Tryz.f116.results.toList) := by kernel_rfl
theorem laws_eqMend.ok (k : Nat) : SmOk Tryz.prog (laws_eqMend.sm k) :=
  sm_ok mixed (E := laws_eqMend.E) (pts := laws_eqMend.pts) (fun k => ⟨⟨tysOk, by kernel_rfl⟩, forall_cons ⟨laws_eqIntS.ok k, e13⟩ (forall_cons ⟨laws_eqEntryS.ok k, e164⟩ (forall_cons ⟨laws_eqIntSS.ok k, e167⟩ (forall_nil)))⟩) (fun _ => rfl) (fun _ => rfl)
    ⟨Tryz.func116, by kernel_rfl, by kernel_rfl, by kernel_rfl, by kernel_rfl, by kernel_rfl, by kernel_rfl⟩ (forall_nil) (fun k x => laws_eqMend.hf k x.1 x.2.1) k
noncomputable def b56 : Code := Tryz.f56.body.getD .skip
theorem e56 : OM.Entry Tryz.prog 56 := ⟨_, Tryz.func56, by kernel_rfl, by kernel_rfl⟩
@[reducible] noncomputable def laws_eqMendS.g : Sig := ⟨[.fz (.sl tMend), .fz (.sl tMend)], [.v .bool .z], []⟩
@[reducible] noncomputable def laws_eqMendS.fk : Nat → denI laws_eqMendS.g.pms → Option (denR (outTys laws_eqMendS.g.rts laws_eqMendS.g.pms)) := fun k x => laws_eqMendS.f k x.1 x.2.1
@[reducible] noncomputable def laws_eqMendS.sm (k : Nat) : Sm := ⟨56, laws_eqMendS.g.pms, laws_eqMendS.g.rts, laws_eqMendS.fk k⟩
noncomputable def laws_eqMendS.E (k : Nat) : Env := ⟨tys, [laws_eqMend.sm k], [], [], []⟩
@[reducible] noncomputable def laws_eqMendS.s9 : List Slot := [.v 0 (.sl tMend) .z [] 0, .v 4 (.sl tMend) .z [] 0, .v 20 (.int .i64) .z [] 0]
noncomputable def laws_eqMendS.pts : List (Pt (denR (outTys laws_eqMendS.g.rts laws_eqMendS.g.pms))) := [⟨9, laws_eqMendS.s9, fun k x => laws_eqMendS.p9 k x.1 x.2.1 x.2.2.1⟩]
theorem laws_eqMendS.h9 (k : Nat) (x0 : (List Mend)) (x1 : (List Mend)) (x2 : Int) : (laws_eqMendS.p9 (k + 1) x0 x1 x2 : Option (denR (outTys laws_eqMendS.g.rts laws_eqMendS.g.pms))) = evAt (laws_eqMendS.E k) (fun κ s => lhOf k κ s laws_eqMendS.pts) 9 b56 (unproj laws_eqMendS.s9 (x0, x1, x2, ())) (OM.fin laws_eqMendS.g Tryz.f56.results.toList) := by kernel_rfl
theorem laws_eqMendS.hf (k : Nat) (a0 : (List Mend)) (a1 : (List Mend)) : (laws_eqMendS.f k a0 a1 : Option (denR (outTys laws_eqMendS.g.rts laws_eqMendS.g.pms))) = evC (laws_eqMendS.E k) (fun κ s => lhOf k κ s laws_eqMendS.pts) b56 (OM.start laws_eqMendS.g.pms 0 (a0, a1, ())) (OM.fin laws_eqMendS.g Tryz.f56.results.toList) := by kernel_rfl
theorem laws_eqMendS.ok (k : Nat) : SmOk Tryz.prog (laws_eqMendS.sm k) :=
  sm_ok mixed (E := laws_eqMendS.E) (pts := laws_eqMendS.pts) (fun k => ⟨⟨tysOk, by kernel_rfl⟩, forall_cons ⟨laws_eqMend.ok k, e116⟩ (forall_nil)⟩) (fun _ => rfl) (fun _ => rfl)
    ⟨Tryz.func56, by kernel_rfl, by kernel_rfl, by kernel_rfl, by kernel_rfl, by kernel_rfl, by kernel_rfl⟩ (forall_cons (fun x => ⟨rfl, fun k => laws_eqMendS.h9 k x.1 x.2.1 x.2.2.1⟩) (forall_nil)) (fun k x => laws_eqMendS.hf k x.1 x.2.1) k
noncomputable def b199 : Code := Tryz.f199.body.getD .skip
theorem e199 : OM.Entry Tryz.prog 199 := ⟨_, Tryz.func199, by kernel_rfl, by kernel_rfl⟩
@[reducible] noncomputable def laws_eqEvent.g : Sig := ⟨[.fz tEvent, .fz tEvent], [.v .bool .z], []⟩
@[reducible] noncomputable def laws_eqEvent.fk : Nat → denI laws_eqEvent.g.pms → Option (denR (outTys laws_eqEvent.g.rts laws_eqEvent.g.pms)) := fun k x => laws_eqEvent.f x.1 x.2.1
@[reducible] noncomputable def laws_eqEvent.sm (k : Nat) : Sm := ⟨199, laws_eqEvent.g.pms, laws_eqEvent.g.rts, laws_eqEvent.fk k⟩
noncomputable def laws_eqEvent.E (k : Nat) : Env := ⟨tys, [], [], [], []⟩
noncomputable def laws_eqEvent.pts : List (Pt (denR (outTys laws_eqEvent.g.rts laws_eqEvent.g.pms))) := []
theorem laws_eqEvent.hf (k : Nat) (a0 : Event) (a1 : Event) : (laws_eqEvent.f a0 a1 : Option (denR (outTys laws_eqEvent.g.rts laws_eqEvent.g.pms))) = evC (laws_eqEvent.E k) (fun κ s => lhOf k κ s laws_eqEvent.pts) b199 (OM.start laws_eqEvent.g.pms 0 (a0, a1, ())) (OM.fin laws_eqEvent.g Tryz.f199.results.toList) := by kernel_rfl
theorem laws_eqEvent.ok (k : Nat) : SmOk Tryz.prog (laws_eqEvent.sm k) :=
  sm_ok mixed (E := laws_eqEvent.E) (pts := laws_eqEvent.pts) (fun k => ⟨⟨tysOk, by kernel_rfl⟩, forall_nil⟩) (fun _ => rfl) (fun _ => rfl)
    ⟨Tryz.func199, by kernel_rfl, by kernel_rfl, by kernel_rfl, by kernel_rfl, by kernel_rfl, by kernel_rfl⟩ (forall_nil) (fun k x => laws_eqEvent.hf k x.1 x.2.1) k
noncomputable def b168 : Code := Tryz.f168.body.getD .skip
theorem e168 : OM.Entry Tryz.prog 168 := ⟨_, Tryz.func168, by kernel_rfl, by kernel_rfl⟩
@[reducible] noncomputable def laws_eqEventS.g : Sig := ⟨[.fz (.sl tEvent), .fz (.sl tEvent)], [.v .bool .z], []⟩
@[reducible] noncomputable def laws_eqEventS.fk : Nat → denI laws_eqEventS.g.pms → Option (denR (outTys laws_eqEventS.g.rts laws_eqEventS.g.pms)) := fun k x => laws_eqEventS.f k x.1 x.2.1
@[reducible] noncomputable def laws_eqEventS.sm (k : Nat) : Sm := ⟨168, laws_eqEventS.g.pms, laws_eqEventS.g.rts, laws_eqEventS.fk k⟩
noncomputable def laws_eqEventS.E (k : Nat) : Env := ⟨tys, [laws_eqEvent.sm k], [], [], []⟩
@[reducible] noncomputable def laws_eqEventS.s9 : List Slot := [.v 0 (.sl tEvent) .z [] 0, .v 4 (.sl tEvent) .z [] 0, .v 20 (.int .i64) .z [] 0]
noncomputable def laws_eqEventS.pts : List (Pt (denR (outTys laws_eqEventS.g.rts laws_eqEventS.g.pms))) := [⟨9, laws_eqEventS.s9, fun k x => laws_eqEventS.p9 k x.1 x.2.1 x.2.2.1⟩]
theorem laws_eqEventS.h9 (k : Nat) (x0 : (List Event)) (x1 : (List Event)) (x2 : Int) : (laws_eqEventS.p9 (k + 1) x0 x1 x2 : Option (denR (outTys laws_eqEventS.g.rts laws_eqEventS.g.pms))) = evAt (laws_eqEventS.E k) (fun κ s => lhOf k κ s laws_eqEventS.pts) 9 b168 (unproj laws_eqEventS.s9 (x0, x1, x2, ())) (OM.fin laws_eqEventS.g Tryz.f168.results.toList) := by kernel_rfl
theorem laws_eqEventS.hf (k : Nat) (a0 : (List Event)) (a1 : (List Event)) : (laws_eqEventS.f k a0 a1 : Option (denR (outTys laws_eqEventS.g.rts laws_eqEventS.g.pms))) = evC (laws_eqEventS.E k) (fun κ s => lhOf k κ s laws_eqEventS.pts) b168 (OM.start laws_eqEventS.g.pms 0 (a0, a1, ())) (OM.fin laws_eqEventS.g Tryz.f168.results.toList) := by kernel_rfl
theorem laws_eqEventS.ok (k : Nat) : SmOk Tryz.prog (laws_eqEventS.sm k) :=
  sm_ok mixed (E := laws_eqEventS.E) (pts := laws_eqEventS.pts) (fun k => ⟨⟨tysOk, by kernel_rfl⟩, forall_cons ⟨laws_eqEvent.ok k, e199⟩ (forall_nil)⟩) (fun _ => rfl) (fun _ => rfl)
    ⟨Tryz.func168, by kernel_rfl, by kernel_rfl, by kernel_rfl, by kernel_rfl, by kernel_rfl, by kernel_rfl⟩ (forall_cons (fun x => ⟨rfl, fun k => laws_eqEventS.h9 k x.1 x.2.1 x.2.2.1⟩) (forall_nil)) (fun k x => laws_eqEventS.hf k x.1 x.2.1) k
noncomputable def b117 : Code := Tryz.f117.body.getD .skip
theorem e117 : OM.Entry Tryz.prog 117 := ⟨_, Tryz.func117, by kernel_rfl, by kernel_rfl⟩
@[reducible] noncomputable def laws_eqReader.g : Sig := ⟨[.fz tReader, .fz tReader], [.v .bool .z], []⟩
@[reducible] noncomputable def laws_eqReader.fk : Nat → denI laws_eqReader.g.pms → Option (denR (outTys laws_eqReader.g.rts laws_eqReader.g.pms)) := fun k x => laws_eqReader.f k x.1 x.2.1
@[reducible] noncomputable def laws_eqReader.sm (k : Nat) : Sm := ⟨117, laws_eqReader.g.pms, laws_eqReader.g.rts, laws_eqReader.fk k⟩
noncomputable def laws_eqReader.E (k : Nat) : Env := ⟨tys, [laws_eqEventS.sm k], [], [], []⟩
noncomputable def laws_eqReader.pts : List (Pt (denR (outTys laws_eqReader.g.rts laws_eqReader.g.pms))) := []
theorem laws_eqReader.hf (k : Nat) (a0 : Reader) (a1 : Reader) : (laws_eqReader.f k a0 a1 : Option (denR (outTys laws_eqReader.g.rts laws_eqReader.g.pms))) = evC (laws_eqReader.E k) (fun κ s => lhOf k κ s laws_eqReader.pts) b117 (OM.start laws_eqReader.g.pms 0 (a0, a1, ())) (OM.fin laws_eqReader.g Tryz.f117.results.toList) := by kernel_rfl
theorem laws_eqReader.ok (k : Nat) : SmOk Tryz.prog (laws_eqReader.sm k) :=
  sm_ok mixed (E := laws_eqReader.E) (pts := laws_eqReader.pts) (fun k => ⟨⟨tysOk, by kernel_rfl⟩, forall_cons ⟨laws_eqEventS.ok k, e168⟩ (forall_nil)⟩) (fun _ => rfl) (fun _ => rfl)
    ⟨Tryz.func117, by kernel_rfl, by kernel_rfl, by kernel_rfl, by kernel_rfl, by kernel_rfl, by kernel_rfl⟩ (forall_nil) (fun k x => laws_eqReader.hf k x.1 x.2.1) k
noncomputable def b57 : Code := Tryz.f57.body.getD .skip
theorem e57 : OM.Entry Tryz.prog 57 := ⟨_, Tryz.func57, by kernel_rfl, by kernel_rfl⟩
@[reducible] noncomputable def laws_eqReaderS.g : Sig := ⟨[.fz (.sl tReader), .fz (.sl tReader)], [.v .bool .z], []⟩
@[reducible] noncomputable def laws_eqReaderS.fk : Nat → denI laws_eqReaderS.g.pms → Option (denR (outTys laws_eqReaderS.g.rts laws_eqReaderS.g.pms)) := fun k x => laws_eqReaderS.f k x.1 x.2.1
@[reducible] noncomputable def laws_eqReaderS.sm (k : Nat) : Sm := ⟨57, laws_eqReaderS.g.pms, laws_eqReaderS.g.rts, laws_eqReaderS.fk k⟩
noncomputable def laws_eqReaderS.E (k : Nat) : Env := ⟨tys, [laws_eqReader.sm k], [], [], []⟩
@[reducible] noncomputable def laws_eqReaderS.s9 : List Slot := [.v 0 (.sl tReader) .z [] 0, .v 4 (.sl tReader) .z [] 0, .v 20 (.int .i64) .z [] 0]
noncomputable def laws_eqReaderS.pts : List (Pt (denR (outTys laws_eqReaderS.g.rts laws_eqReaderS.g.pms))) := [⟨9, laws_eqReaderS.s9, fun k x => laws_eqReaderS.p9 k x.1 x.2.1 x.2.2.1⟩]
theorem laws_eqReaderS.h9 (k : Nat) (x0 : (List Reader)) (x1 : (List Reader)) (x2 : Int) : (laws_eqReaderS.p9 (k + 1) x0 x1 x2 : Option (denR (outTys laws_eqReaderS.g.rts laws_eqReaderS.g.pms))) = evAt (laws_eqReaderS.E k) (fun κ s => lhOf k κ s laws_eqReaderS.pts) 9 b57 (unproj laws_eqReaderS.s9 (x0, x1, x2, ())) (OM.fin laws_eqReaderS.g Tryz.f57.results.toList) := by kernel_rfl
theorem laws_eqReaderS.hf (k : Nat) (a0 : (List Reader)) (a1 : (List Reader)) : (laws_eqReaderS.f k a0 a1 : Option (denR (outTys laws_eqReaderS.g.rts laws_eqReaderS.g.pms))) = evC (laws_eqReaderS.E k) (fun κ s => lhOf k κ s laws_eqReaderS.pts) b57 (OM.start laws_eqReaderS.g.pms 0 (a0, a1, ())) (OM.fin laws_eqReaderS.g Tryz.f57.results.toList) := by kernel_rfl
theorem laws_eqReaderS.ok (k : Nat) : SmOk Tryz.prog (laws_eqReaderS.sm k) :=
  sm_ok mixed (E := laws_eqReaderS.E) (pts := laws_eqReaderS.pts) (fun k => ⟨⟨tysOk, by kernel_rfl⟩, forall_cons ⟨laws_eqReader.ok k, e117⟩ (forall_nil)⟩) (fun _ => rfl) (fun _ => rfl)
    ⟨Tryz.func57, by kernel_rfl, by kernel_rfl, by kernel_rfl, by kernel_rfl, by kernel_rfl, by kernel_rfl⟩ (forall_cons (fun x => ⟨rfl, fun k => laws_eqReaderS.h9 k x.1 x.2.1 x.2.2.1⟩) (forall_nil)) (fun k x => laws_eqReaderS.hf k x.1 x.2.1) k
noncomputable def b118 : Code := Tryz.f118.body.getD .skip
theorem e118 : OM.Entry Tryz.prog 118 := ⟨_, Tryz.func118, by kernel_rfl, by kernel_rfl⟩
@[reducible] noncomputable def laws_eqSent.g : Sig := ⟨[.fz tSent, .fz tSent], [.v .bool .z], []⟩
@[reducible] noncomputable def laws_eqSent.fk : Nat → denI laws_eqSent.g.pms → Option (denR (outTys laws_eqSent.g.rts laws_eqSent.g.pms)) := fun k x => laws_eqSent.f x.1 x.2.1
@[reducible] noncomputable def laws_eqSent.sm (k : Nat) : Sm := ⟨118, laws_eqSent.g.pms, laws_eqSent.g.rts, laws_eqSent.fk k⟩
noncomputable def laws_eqSent.E (k : Nat) : Env := ⟨tys, [], [], [], [4]⟩
noncomputable def laws_eqSent.pts : List (Pt (denR (outTys laws_eqSent.g.rts laws_eqSent.g.pms))) := []
theorem laws_eqSent.hf (k : Nat) (a0 : Sent) (a1 : Sent) : (laws_eqSent.f a0 a1 : Option (denR (outTys laws_eqSent.g.rts laws_eqSent.g.pms))) = evC (laws_eqSent.E k) (fun κ s => lhOf k κ s laws_eqSent.pts) b118 (OM.start laws_eqSent.g.pms 0 (a0, a1, ())) (OM.fin laws_eqSent.g Tryz.f118.results.toList) := by kernel_rfl
theorem laws_eqSent.ok (k : Nat) : SmOk Tryz.prog (laws_eqSent.sm k) :=
  sm_ok mixed (E := laws_eqSent.E) (pts := laws_eqSent.pts) (fun k => ⟨⟨tysOk, by kernel_rfl⟩, forall_nil⟩) (fun _ => rfl) (fun _ => rfl)
    ⟨Tryz.func118, by kernel_rfl, by kernel_rfl, by kernel_rfl, by kernel_rfl, by kernel_rfl, by kernel_rfl⟩ (forall_nil) (fun k x => laws_eqSent.hf k x.1 x.2.1) k
noncomputable def b58 : Code := Tryz.f58.body.getD .skip
theorem e58 : OM.Entry Tryz.prog 58 := ⟨_, Tryz.func58, by kernel_rfl, by kernel_rfl⟩
@[reducible] noncomputable def laws_eqSentS.g : Sig := ⟨[.fz (.sl tSent), .fz (.sl tSent)], [.v .bool .z], []⟩
@[reducible] noncomputable def laws_eqSentS.fk : Nat → denI laws_eqSentS.g.pms → Option (denR (outTys laws_eqSentS.g.rts laws_eqSentS.g.pms)) := fun k x => laws_eqSentS.f k x.1 x.2.1
@[reducible] noncomputable def laws_eqSentS.sm (k : Nat) : Sm := ⟨58, laws_eqSentS.g.pms, laws_eqSentS.g.rts, laws_eqSentS.fk k⟩
noncomputable def laws_eqSentS.E (k : Nat) : Env := ⟨tys, [laws_eqSent.sm k], [], [], []⟩
@[reducible] noncomputable def laws_eqSentS.s9 : List Slot := [.v 0 (.sl tSent) .z [] 0, .v 4 (.sl tSent) .z [] 0, .v 20 (.int .i64) .z [] 0]
noncomputable def laws_eqSentS.pts : List (Pt (denR (outTys laws_eqSentS.g.rts laws_eqSentS.g.pms))) := [⟨9, laws_eqSentS.s9, fun k x => laws_eqSentS.p9 k x.1 x.2.1 x.2.2.1⟩]
theorem laws_eqSentS.h9 (k : Nat) (x0 : (List Sent)) (x1 : (List Sent)) (x2 : Int) : (laws_eqSentS.p9 (k + 1) x0 x1 x2 : Option (denR (outTys laws_eqSentS.g.rts laws_eqSentS.g.pms))) = evAt (laws_eqSentS.E k) (fun κ s => lhOf k κ s laws_eqSentS.pts) 9 b58 (unproj laws_eqSentS.s9 (x0, x1, x2, ())) (OM.fin laws_eqSentS.g Tryz.f58.results.toList) := by kernel_rfl
theorem laws_eqSentS.hf (k : Nat) (a0 : (List Sent)) (a1 : (List Sent)) : (laws_eqSentS.f k a0 a1 : Option (denR (outTys laws_eqSentS.g.rts laws_eqSentS.g.pms))) = evC (laws_eqSentS.E k) (fun κ s => lhOf k κ s laws_eqSentS.pts) b58 (OM.start laws_eqSentS.g.pms 0 (a0, a1, ())) (OM.fin laws_eqSentS.g Tryz.f58.results.toList) := by kernel_rfl
theorem laws_eqSentS.ok (k : Nat) : SmOk Tryz.prog (laws_eqSentS.sm k) :=
  sm_ok mixed (E := laws_eqSentS.E) (pts := laws_eqSentS.pts) (fun k => ⟨⟨tysOk, by kernel_rfl⟩, forall_cons ⟨laws_eqSent.ok k, e118⟩ (forall_nil)⟩) (fun _ => rfl) (fun _ => rfl)
    ⟨Tryz.func58, by kernel_rfl, by kernel_rfl, by kernel_rfl, by kernel_rfl, by kernel_rfl, by kernel_rfl⟩ (forall_cons (fun x => ⟨rfl, fun k => laws_eqSentS.h9 k x.1 x.2.1 x.2.2.1⟩) (forall_nil)) (fun k x => laws_eqSentS.hf k x.1 x.2.1) k
noncomputable def b10 : Code := Tryz.f10.body.getD .skip
theorem e10 : OM.Entry Tryz.prog 10 := ⟨_, Tryz.func10, by kernel_rfl, by kernel_rfl⟩
@[reducible] noncomputable def laws_eqWorld.g : Sig := ⟨[.fz tWorld, .fz tWorld], [.v .bool .z], []⟩
@[reducible] noncomputable def laws_eqWorld.fk : Nat → denI laws_eqWorld.g.pms → Option (denR (outTys laws_eqWorld.g.rts laws_eqWorld.g.pms)) := fun k x => laws_eqWorld.f k x.1 x.2.1
@[reducible] noncomputable def laws_eqWorld.sm (k : Nat) : Sm := ⟨10, laws_eqWorld.g.pms, laws_eqWorld.g.rts, laws_eqWorld.fk k⟩
noncomputable def laws_eqWorld.E (k : Nat) : Env := ⟨tys, [laws_eqIntS.sm k, laws_eqConfig.sm k, laws_eqStoreS.sm k, laws_eqRegister.sm k, laws_eqWriterS.sm k, laws_eqMendS.sm k, laws_eqReaderS.sm k, laws_eqSentS.sm k], [], [], [4]⟩
noncomputable def laws_eqWorld.pts : List (Pt (denR (outTys laws_eqWorld.g.rts laws_eqWorld.g.pms))) := []
theorem laws_eqWorld.hf (k : Nat) (a0 : World) (a1 : World) : (laws_eqWorld.f k a0 a1 : Option (denR (outTys laws_eqWorld.g.rts laws_eqWorld.g.pms))) = evC (laws_eqWorld.E k) (fun κ s => lhOf k κ s laws_eqWorld.pts) b10 (OM.start laws_eqWorld.g.pms 0 (a0, a1, ())) (OM.fin laws_eqWorld.g Tryz.f10.results.toList) := by kernel_rfl
theorem laws_eqWorld.ok (k : Nat) : SmOk Tryz.prog (laws_eqWorld.sm k) :=
  sm_ok mixed (E := laws_eqWorld.E) (pts := laws_eqWorld.pts) (fun k => ⟨⟨tysOk, by kernel_rfl⟩, forall_cons ⟨laws_eqIntS.ok k, e13⟩ (forall_cons ⟨laws_eqConfig.ok k, e52⟩ (forall_cons ⟨laws_eqStoreS.ok k, e53⟩ (forall_cons ⟨laws_eqRegister.ok k, e54⟩ (forall_cons ⟨laws_eqWriterS.ok k, e55⟩ (forall_cons ⟨laws_eqMendS.ok k, e56⟩ (forall_cons ⟨laws_eqReaderS.ok k, e57⟩ (forall_cons ⟨laws_eqSentS.ok k, e58⟩ (forall_nil))))))))⟩) (fun _ => rfl) (fun _ => rfl)
    ⟨Tryz.func10, by kernel_rfl, by kernel_rfl, by kernel_rfl, by kernel_rfl, by kernel_rfl, by kernel_rfl⟩ (forall_nil) (fun k x => laws_eqWorld.hf k x.1 x.2.1) k
noncomputable def b15 : Code := Tryz.f15.body.getD .skip
theorem e15 : OM.Entry Tryz.prog 15 := ⟨_, Tryz.func15, by kernel_rfl, by kernel_rfl⟩
@[reducible] noncomputable def laws_markIntS.g : Sig := ⟨[.mut (.sl (.int .i64)) (.own .z), .fz (.int .i64)], [.v (.int .i64) .z], [0]⟩
@[reducible] noncomputable def laws_markIntS.fk : Nat → denI laws_markIntS.g.pms → Option (denR (outTys laws_markIntS.g.rts laws_markIntS.g.pms)) := fun k x => laws_markIntS.f k x.1 x.2.1
@[reducible] noncomputable def laws_markIntS.sm (k : Nat) : Sm := ⟨15, laws_markIntS.g.pms, laws_markIntS.g.rts, laws_markIntS.fk k⟩
noncomputable def laws_markIntS.E (k : Nat) : Env := ⟨tys, [], [], [], []⟩
@[reducible] noncomputable def laws_markIntS.s5 : List Slot := [.v 0 (.sl (.int .i64)) (.own .z) [] 1, .v 4 (.int .i64) .z [] 0, .v 20 (.int .i64) .z [] 0]
noncomputable def laws_markIntS.pts : List (Pt (denR (outTys laws_markIntS.g.rts laws_markIntS.g.pms))) := [⟨5, laws_markIntS.s5, fun k x => laws_markIntS.p5 k x.1 x.2.1 x.2.2.1⟩]
theorem laws_markIntS.h5 (k : Nat) (x0 : (List Int)) (x1 : Int) (x2 : Int) : (laws_markIntS.p5 (k + 1) x0 x1 x2 : Option (denR (outTys laws_markIntS.g.rts laws_markIntS.g.pms))) = evAt (laws_markIntS.E k) (fun κ s => lhOf k κ s laws_markIntS.pts) 5 b15 (unproj laws_markIntS.s5 (x0, x1, x2, ())) (OM.fin laws_markIntS.g Tryz.f15.results.toList) := by kernel_rfl
theorem laws_markIntS.hf (k : Nat) (a0 : (List Int)) (a1 : Int) : (laws_markIntS.f k a0 a1 : Option (denR (outTys laws_markIntS.g.rts laws_markIntS.g.pms))) = evC (laws_markIntS.E k) (fun κ s => lhOf k κ s laws_markIntS.pts) b15 (OM.start laws_markIntS.g.pms 0 (a0, a1, ())) (OM.fin laws_markIntS.g Tryz.f15.results.toList) := by kernel_rfl
theorem laws_markIntS.ok (k : Nat) : SmOk Tryz.prog (laws_markIntS.sm k) :=
  sm_ok mixed (E := laws_markIntS.E) (pts := laws_markIntS.pts) (fun k => ⟨⟨tysOk, by kernel_rfl⟩, forall_nil⟩) (fun _ => rfl) (fun _ => rfl)
    ⟨Tryz.func15, by kernel_rfl, by kernel_rfl, by kernel_rfl, by kernel_rfl, by kernel_rfl, by kernel_rfl⟩ (forall_cons (fun x => ⟨rfl, fun k => laws_markIntS.h5 k x.1 x.2.1 x.2.2.1⟩) (forall_nil)) (fun k x => laws_markIntS.hf k x.1 x.2.1) k
noncomputable def b60 : Code := Tryz.f60.body.getD .skip
theorem e60 : OM.Entry Tryz.prog 60 := ⟨_, Tryz.func60, by kernel_rfl, by kernel_rfl⟩
@[reducible] noncomputable def laws_markConfig.g : Sig := ⟨[.mut tConfig (.two (.own .z) .z), .fz (.int .i64)], [.v (.int .i64) .z], [9]⟩
@[reducible] noncomputable def laws_markConfig.fk : Nat → denI laws_markConfig.g.pms → Option (denR (outTys laws_markConfig.g.rts laws_markConfig.g.pms)) := fun k x => laws_markConfig.f k x.1 x.2.1
@[reducible] noncomputable def laws_markConfig.sm (k : Nat) : Sm := ⟨60, laws_markConfig.g.pms, laws_markConfig.g.rts, laws_markConfig.fk k⟩
noncomputable def laws_markConfig.E (k : Nat) : Env := ⟨tys, [laws_markIntS.sm k], [], [], []⟩
noncomputable def laws_markConfig.pts : List (Pt (denR (outTys laws_markConfig.g.rts laws_markConfig.g.pms))) := []
theorem laws_markConfig.hf (k : Nat) (a0 : Config) (a1 : Int) : (laws_markConfig.f k a0 a1 : Option (denR (outTys laws_markConfig.g.rts laws_markConfig.g.pms))) = evC (laws_markConfig.E k) (fun κ s => lhOf k κ s laws_markConfig.pts) b60 (OM.start laws_markConfig.g.pms 0 (a0, a1, ())) (OM.fin laws_markConfig.g Tryz.f60.results.toList) := by kernel_rfl
theorem laws_markConfig.ok (k : Nat) : SmOk Tryz.prog (laws_markConfig.sm k) :=
  sm_ok mixed (E := laws_markConfig.E) (pts := laws_markConfig.pts) (fun k => ⟨⟨tysOk, by kernel_rfl⟩, forall_cons ⟨laws_markIntS.ok k, e15⟩ (forall_nil)⟩) (fun _ => rfl) (fun _ => rfl)
    ⟨Tryz.func60, by kernel_rfl, by kernel_rfl, by kernel_rfl, by kernel_rfl, by kernel_rfl, by kernel_rfl⟩ (forall_nil) (fun k x => laws_markConfig.hf k x.1 x.2.1) k
noncomputable def b124 : Code := Tryz.f124.body.getD .skip
theorem e124 : OM.Entry Tryz.prog 124 := ⟨_, Tryz.func124, by kernel_rfl, by kernel_rfl⟩
@[reducible] noncomputable def laws_markText.g : Sig := ⟨[.fz (.int .i64)], [.v .str .z], []⟩
@[reducible] noncomputable def laws_markText.fk : Nat → denI laws_markText.g.pms → Option (denR (outTys laws_markText.g.rts laws_markText.g.pms)) := fun k x => laws_markText.f k x.1
@[reducible] noncomputable def laws_markText.sm (k : Nat) : Sm := ⟨124, laws_markText.g.pms, laws_markText.g.rts, laws_markText.fk k⟩
noncomputable def laws_markText.E (k : Nat) : Env := ⟨tys, [], [], [], []⟩
@[reducible] noncomputable def laws_markText.s9 : List Slot := [.v 0 (.int .i64) .z [] 0, .v 12 .str .z [] 0]
noncomputable def laws_markText.pts : List (Pt (denR (outTys laws_markText.g.rts laws_markText.g.pms))) := [⟨9, laws_markText.s9, fun k x => laws_markText.p9 k x.1 x.2.1⟩]
theorem laws_markText.h9 (k : Nat) (x0 : Int) (x1 : ByteArray) : (laws_markText.p9 (k + 1) x0 x1 : Option (denR (outTys laws_markText.g.rts laws_markText.g.pms))) = evAt (laws_markText.E k) (fun κ s => lhOf k κ s laws_markText.pts) 9 b124 (unproj laws_markText.s9 (x0, x1, ())) (OM.fin laws_markText.g Tryz.f124.results.toList) := by kernel_rfl
theorem laws_markText.hf (k : Nat) (a0 : Int) : (laws_markText.f k a0 : Option (denR (outTys laws_markText.g.rts laws_markText.g.pms))) = evC (laws_markText.E k) (fun κ s => lhOf k κ s laws_markText.pts) b124 (OM.start laws_markText.g.pms 0 (a0, ())) (OM.fin laws_markText.g Tryz.f124.results.toList) := by kernel_rfl
theorem laws_markText.ok (k : Nat) : SmOk Tryz.prog (laws_markText.sm k) :=
  sm_ok mixed (E := laws_markText.E) (pts := laws_markText.pts) (fun k => ⟨⟨tysOk, by kernel_rfl⟩, forall_nil⟩) (fun _ => rfl) (fun _ => rfl)
    ⟨Tryz.func124, by kernel_rfl, by kernel_rfl, by kernel_rfl, by kernel_rfl, by kernel_rfl, by kernel_rfl⟩ (forall_cons (fun x => ⟨rfl, fun k => laws_markText.h9 k x.1 x.2.1⟩) (forall_nil)) (fun k x => laws_markText.hf k x.1) k
noncomputable def b119 : Code := Tryz.f119.body.getD .skip
theorem e119 : OM.Entry Tryz.prog 119 := ⟨_, Tryz.func119, by kernel_rfl, by kernel_rfl⟩
@[reducible] noncomputable def laws_markEntryS.g : Sig := ⟨[.mut (.sl tEntry) (.own .z), .fz (.int .i64)], [.v (.int .i64) .z], [0]⟩
@[reducible] noncomputable def laws_markEntryS.fk : Nat → denI laws_markEntryS.g.pms → Option (denR (outTys laws_markEntryS.g.rts laws_markEntryS.g.pms)) := fun k x => laws_markEntryS.f k x.1 x.2.1
@[reducible] noncomputable def laws_markEntryS.sm (k : Nat) : Sm := ⟨119, laws_markEntryS.g.pms, laws_markEntryS.g.rts, laws_markEntryS.fk k⟩
noncomputable def laws_markEntryS.E (k : Nat) : Env := ⟨tys, [laws_markText.sm k], [], [], []⟩
@[reducible] noncomputable def laws_markEntryS.s5 : List Slot := [.v 0 (.sl tEntry) (.own .z) [] 1, .v 4 (.int .i64) .z [] 0, .v 20 (.int .i64) .z [] 0]
noncomputable def laws_markEntryS.pts : List (Pt (denR (outTys laws_markEntryS.g.rts laws_markEntryS.g.pms))) := [⟨5, laws_markEntryS.s5, fun k x => laws_markEntryS.p5 k x.1 x.2.1 x.2.2.1⟩]
theorem laws_markEntryS.h5 (k : Nat) (x0 : (List Entry)) (x1 : Int) (x2 : Int) : (laws_markEntryS.p5 (k + 1) x0 x1 x2 : Option (denR (outTys laws_markEntryS.g.rts laws_markEntryS.g.pms))) = evAt (laws_markEntryS.E k) (fun κ s => lhOf k κ s laws_markEntryS.pts) 5 b119 (unproj laws_markEntryS.s5 (x0, x1, x2, ())) (OM.fin laws_markEntryS.g Tryz.f119.results.toList) := by kernel_rfl
theorem laws_markEntryS.hf (k : Nat) (a0 : (List Entry)) (a1 : Int) : (laws_markEntryS.f k a0 a1 : Option (denR (outTys laws_markEntryS.g.rts laws_markEntryS.g.pms))) = evC (laws_markEntryS.E k) (fun κ s => lhOf k κ s laws_markEntryS.pts) b119 (OM.start laws_markEntryS.g.pms 0 (a0, a1, ())) (OM.fin laws_markEntryS.g Tryz.f119.results.toList) := by kernel_rfl
theorem laws_markEntryS.ok (k : Nat) : SmOk Tryz.prog (laws_markEntryS.sm k) :=
  sm_ok mixed (E := laws_markEntryS.E) (pts := laws_markEntryS.pts) (fun k => ⟨⟨tysOk, by kernel_rfl⟩, forall_cons ⟨laws_markText.ok k, e124⟩ (forall_nil)⟩) (fun _ => rfl) (fun _ => rfl)
    ⟨Tryz.func119, by kernel_rfl, by kernel_rfl, by kernel_rfl, by kernel_rfl, by kernel_rfl, by kernel_rfl⟩ (forall_cons (fun x => ⟨rfl, fun k => laws_markEntryS.h5 k x.1 x.2.1 x.2.2.1⟩) (forall_nil)) (fun k x => laws_markEntryS.hf k x.1 x.2.1) k
noncomputable def b61 : Code := Tryz.f61.body.getD .skip
theorem e61 : OM.Entry Tryz.prog 61 := ⟨_, Tryz.func61, by kernel_rfl, by kernel_rfl⟩
@[reducible] noncomputable def laws_markStoreS.g : Sig := ⟨[.mut (.sl tStore) (.own (.two (.own .z) (.two (.own .z) .z))), .fz (.int .i64)], [.v (.int .i64) .z], [0]⟩
@[reducible] noncomputable def laws_markStoreS.fk : Nat → denI laws_markStoreS.g.pms → Option (denR (outTys laws_markStoreS.g.rts laws_markStoreS.g.pms)) := fun k x => laws_markStoreS.f k x.1 x.2.1
@[reducible] noncomputable def laws_markStoreS.sm (k : Nat) : Sm := ⟨61, laws_markStoreS.g.pms, laws_markStoreS.g.rts, laws_markStoreS.fk k⟩
noncomputable def laws_markStoreS.E (k : Nat) : Env := ⟨tys, [laws_markEntryS.sm k], [], [], []⟩
@[reducible] noncomputable def laws_markStoreS.s5 : List Slot := [.v 0 (.sl tStore) (.own (.two (.own .z) (.two (.own .z) .z))) [] 1, .v 4 (.int .i64) .z [] 0, .v 20 (.int .i64) .z [] 0]
noncomputable def laws_markStoreS.pts : List (Pt (denR (outTys laws_markStoreS.g.rts laws_markStoreS.g.pms))) := [⟨5, laws_markStoreS.s5, fun k x => laws_markStoreS.p5 k x.1 x.2.1 x.2.2.1⟩]
theorem laws_markStoreS.h5 (k : Nat) (x0 : (List Store)) (x1 : Int) (x2 : Int) : (laws_markStoreS.p5 (k + 1) x0 x1 x2 : Option (denR (outTys laws_markStoreS.g.rts laws_markStoreS.g.pms))) = evAt (laws_markStoreS.E k) (fun κ s => lhOf k κ s laws_markStoreS.pts) 5 b61 (unproj laws_markStoreS.s5 (x0, x1, x2, ())) (OM.fin laws_markStoreS.g Tryz.f61.results.toList) := by kernel_rfl
theorem laws_markStoreS.hf (k : Nat) (a0 : (List Store)) (a1 : Int) : (laws_markStoreS.f k a0 a1 : Option (denR (outTys laws_markStoreS.g.rts laws_markStoreS.g.pms))) = evC (laws_markStoreS.E k) (fun κ s => lhOf k κ s laws_markStoreS.pts) b61 (OM.start laws_markStoreS.g.pms 0 (a0, a1, ())) (OM.fin laws_markStoreS.g Tryz.f61.results.toList) := by kernel_rfl
theorem laws_markStoreS.ok (k : Nat) : SmOk Tryz.prog (laws_markStoreS.sm k) :=
  sm_ok mixed (E := laws_markStoreS.E) (pts := laws_markStoreS.pts) (fun k => ⟨⟨tysOk, by kernel_rfl⟩, forall_cons ⟨laws_markEntryS.ok k, e119⟩ (forall_nil)⟩) (fun _ => rfl) (fun _ => rfl)
    ⟨Tryz.func61, by kernel_rfl, by kernel_rfl, by kernel_rfl, by kernel_rfl, by kernel_rfl, by kernel_rfl⟩ (forall_cons (fun x => ⟨rfl, fun k => laws_markStoreS.h5 k x.1 x.2.1 x.2.2.1⟩) (forall_nil)) (fun k x => laws_markStoreS.hf k x.1 x.2.1) k
noncomputable def b120 : Code := Tryz.f120.body.getD .skip
theorem e120 : OM.Entry Tryz.prog 120 := ⟨_, Tryz.func120, by kernel_rfl, by kernel_rfl⟩
@[reducible] noncomputable def laws_markEraS.g : Sig := ⟨[.mut (.sl tEra) (.own (.two (.own .z) .z)), .fz (.int .i64)], [.v (.int .i64) .z], [0]⟩
@[reducible] noncomputable def laws_markEraS.fk : Nat → denI laws_markEraS.g.pms → Option (denR (outTys laws_markEraS.g.rts laws_markEraS.g.pms)) := fun k x => laws_markEraS.f k x.1 x.2.1
@[reducible] noncomputable def laws_markEraS.sm (k : Nat) : Sm := ⟨120, laws_markEraS.g.pms, laws_markEraS.g.rts, laws_markEraS.fk k⟩
noncomputable def laws_markEraS.E (k : Nat) : Env := ⟨tys, [laws_markIntS.sm k], [], [], []⟩
@[reducible] noncomputable def laws_markEraS.s5 : List Slot := [.v 0 (.sl tEra) (.own (.two (.own .z) .z)) [] 1, .v 4 (.int .i64) .z [] 0, .v 20 (.int .i64) .z [] 0]
noncomputable def laws_markEraS.pts : List (Pt (denR (outTys laws_markEraS.g.rts laws_markEraS.g.pms))) := [⟨5, laws_markEraS.s5, fun k x => laws_markEraS.p5 k x.1 x.2.1 x.2.2.1⟩]
theorem laws_markEraS.h5 (k : Nat) (x0 : (List Era)) (x1 : Int) (x2 : Int) : (laws_markEraS.p5 (k + 1) x0 x1 x2 : Option (denR (outTys laws_markEraS.g.rts laws_markEraS.g.pms))) = evAt (laws_markEraS.E k) (fun κ s => lhOf k κ s laws_markEraS.pts) 5 b120 (unproj laws_markEraS.s5 (x0, x1, x2, ())) (OM.fin laws_markEraS.g Tryz.f120.results.toList) := by kernel_rfl
theorem laws_markEraS.hf (k : Nat) (a0 : (List Era)) (a1 : Int) : (laws_markEraS.f k a0 a1 : Option (denR (outTys laws_markEraS.g.rts laws_markEraS.g.pms))) = evC (laws_markEraS.E k) (fun κ s => lhOf k κ s laws_markEraS.pts) b120 (OM.start laws_markEraS.g.pms 0 (a0, a1, ())) (OM.fin laws_markEraS.g Tryz.f120.results.toList) := by kernel_rfl
theorem laws_markEraS.ok (k : Nat) : SmOk Tryz.prog (laws_markEraS.sm k) :=
  sm_ok mixed (E := laws_markEraS.E) (pts := laws_markEraS.pts) (fun k => ⟨⟨tysOk, by kernel_rfl⟩, forall_cons ⟨laws_markIntS.ok k, e15⟩ (forall_nil)⟩) (fun _ => rfl) (fun _ => rfl)
    ⟨Tryz.func120, by kernel_rfl, by kernel_rfl, by kernel_rfl, by kernel_rfl, by kernel_rfl, by kernel_rfl⟩ (forall_cons (fun x => ⟨rfl, fun k => laws_markEraS.h5 k x.1 x.2.1 x.2.2.1⟩) (forall_nil)) (fun k x => laws_markEraS.hf k x.1 x.2.1) k
noncomputable def b62 : Code := Tryz.f62.body.getD .skip
theorem e62 : OM.Entry Tryz.prog 62 := ⟨_, Tryz.func62, by kernel_rfl, by kernel_rfl⟩
@[reducible] noncomputable def laws_markRegister.g : Sig := ⟨[.mut tRegister (.two (.own (.two (.own .z) .z)) .z), .fz (.int .i64)], [.v (.int .i64) .z], [9]⟩
@[reducible] noncomputable def laws_markRegister.fk : Nat → denI laws_markRegister.g.pms → Option (denR (outTys laws_markRegister.g.rts laws_markRegister.g.pms)) := fun k x => laws_markRegister.f k x.1 x.2.1
@[reducible] noncomputable def laws_markRegister.sm (k : Nat) : Sm := ⟨62, laws_markRegister.g.pms, laws_markRegister.g.rts, laws_markRegister.fk k⟩
noncomputable def laws_markRegister.E (k : Nat) : Env := ⟨tys, [laws_markEraS.sm k], [], [], []⟩
noncomputable def laws_markRegister.pts : List (Pt (denR (outTys laws_markRegister.g.rts laws_markRegister.g.pms))) := []
theorem laws_markRegister.hf (k : Nat) (a0 : Register) (a1 : Int) : (laws_markRegister.f k a0 a1 : Option (denR (outTys laws_markRegister.g.rts laws_markRegister.g.pms))) = evC (laws_markRegister.E k) (fun κ s => lhOf k κ s laws_markRegister.pts) b62 (OM.start laws_markRegister.g.pms 0 (a0, a1, ())) (OM.fin laws_markRegister.g Tryz.f62.results.toList) := by kernel_rfl
theorem laws_markRegister.ok (k : Nat) : SmOk Tryz.prog (laws_markRegister.sm k) :=
  sm_ok mixed (E := laws_markRegister.E) (pts := laws_markRegister.pts) (fun k => ⟨⟨tysOk, by kernel_rfl⟩, forall_cons ⟨laws_markEraS.ok k, e120⟩ (forall_nil)⟩) (fun _ => rfl) (fun _ => rfl)
    ⟨Tryz.func62, by kernel_rfl, by kernel_rfl, by kernel_rfl, by kernel_rfl, by kernel_rfl, by kernel_rfl⟩ (forall_nil) (fun k x => laws_markRegister.hf k x.1 x.2.1) k
noncomputable def b121 : Code := Tryz.f121.body.getD .skip
theorem e121 : OM.Entry Tryz.prog 121 := ⟨_, Tryz.func121, by kernel_rfl, by kernel_rfl⟩
@[reducible] noncomputable def laws_markWordS.g : Sig := ⟨[.mut (.sl tWord) (.own (.two .z (.two (.own .z) .z))), .fz (.int .i64)], [.v (.int .i64) .z], [0]⟩
@[reducible] noncomputable def laws_markWordS.fk : Nat → denI laws_markWordS.g.pms → Option (denR (outTys laws_markWordS.g.rts laws_markWordS.g.pms)) := fun k x => laws_markWordS.f k x.1 x.2.1
@[reducible] noncomputable def laws_markWordS.sm (k : Nat) : Sm := ⟨121, laws_markWordS.g.pms, laws_markWordS.g.rts, laws_markWordS.fk k⟩
noncomputable def laws_markWordS.E (k : Nat) : Env := ⟨tys, [laws_markIntS.sm k, laws_markText.sm k], [], [], []⟩
@[reducible] noncomputable def laws_markWordS.s5 : List Slot := [.v 0 (.sl tWord) (.own (.two .z (.two (.own .z) .z))) [] 1, .v 4 (.int .i64) .z [] 0, .v 20 (.int .i64) .z [] 0]
noncomputable def laws_markWordS.pts : List (Pt (denR (outTys laws_markWordS.g.rts laws_markWordS.g.pms))) := [⟨5, laws_markWordS.s5, fun k x => laws_markWordS.p5 k x.1 x.2.1 x.2.2.1⟩]
theorem laws_markWordS.h5 (k : Nat) (x0 : (List Word)) (x1 : Int) (x2 : Int) : (laws_markWordS.p5 (k + 1) x0 x1 x2 : Option (denR (outTys laws_markWordS.g.rts laws_markWordS.g.pms))) = evAt (laws_markWordS.E k) (fun κ s => lhOf k κ s laws_markWordS.pts) 5 b121 (unproj laws_markWordS.s5 (x0, x1, x2, ())) (OM.fin laws_markWordS.g Tryz.f121.results.toList) := by kernel_rfl
theorem laws_markWordS.hf (k : Nat) (a0 : (List Word)) (a1 : Int) : (laws_markWordS.f k a0 a1 : Option (denR (outTys laws_markWordS.g.rts laws_markWordS.g.pms))) = evC (laws_markWordS.E k) (fun κ s => lhOf k κ s laws_markWordS.pts) b121 (OM.start laws_markWordS.g.pms 0 (a0, a1, ())) (OM.fin laws_markWordS.g Tryz.f121.results.toList) := by kernel_rfl
theorem laws_markWordS.ok (k : Nat) : SmOk Tryz.prog (laws_markWordS.sm k) :=
  sm_ok mixed (E := laws_markWordS.E) (pts := laws_markWordS.pts) (fun k => ⟨⟨tysOk, by kernel_rfl⟩, forall_cons ⟨laws_markIntS.ok k, e15⟩ (forall_cons ⟨laws_markText.ok k, e124⟩ (forall_nil))⟩) (fun _ => rfl) (fun _ => rfl)
    ⟨Tryz.func121, by kernel_rfl, by kernel_rfl, by kernel_rfl, by kernel_rfl, by kernel_rfl, by kernel_rfl⟩ (forall_cons (fun x => ⟨rfl, fun k => laws_markWordS.h5 k x.1 x.2.1 x.2.2.1⟩) (forall_nil)) (fun k x => laws_markWordS.hf k x.1 x.2.1) k
noncomputable def b63 : Code := Tryz.f63.body.getD .skip
theorem e63 : OM.Entry Tryz.prog 63 := ⟨_, Tryz.func63, by kernel_rfl, by kernel_rfl⟩
@[reducible] noncomputable def laws_markWriterS.g : Sig := ⟨[.mut (.sl tWriter) (.own (.two .z (.two (.own (.two .z (.two (.own .z) .z))) .z))), .fz (.int .i64)], [.v (.int .i64) .z], [0]⟩
@[reducible] noncomputable def laws_markWriterS.fk : Nat → denI laws_markWriterS.g.pms → Option (denR (outTys laws_markWriterS.g.rts laws_markWriterS.g.pms)) := fun k x => laws_markWriterS.f k x.1 x.2.1
@[reducible] noncomputable def laws_markWriterS.sm (k : Nat) : Sm := ⟨63, laws_markWriterS.g.pms, laws_markWriterS.g.rts, laws_markWriterS.fk k⟩
noncomputable def laws_markWriterS.E (k : Nat) : Env := ⟨tys, [laws_markWordS.sm k], [], [], []⟩
@[reducible] noncomputable def laws_markWriterS.s5 : List Slot := [.v 0 (.sl tWriter) (.own (.two .z (.two (.own (.two .z (.two (.own .z) .z))) .z))) [] 1, .v 4 (.int .i64) .z [] 0, .v 20 (.int .i64) .z [] 0]
noncomputable def laws_markWriterS.pts : List (Pt (denR (outTys laws_markWriterS.g.rts laws_markWriterS.g.pms))) := [⟨5, laws_markWriterS.s5, fun k x => laws_markWriterS.p5 k x.1 x.2.1 x.2.2.1⟩]
theorem laws_markWriterS.h5 (k : Nat) (x0 : (List Writer)) (x1 : Int) (x2 : Int) : (laws_markWriterS.p5 (k + 1) x0 x1 x2 : Option (denR (outTys laws_markWriterS.g.rts laws_markWriterS.g.pms))) = evAt (laws_markWriterS.E k) (fun κ s => lhOf k κ s laws_markWriterS.pts) 5 b63 (unproj laws_markWriterS.s5 (x0, x1, x2, ())) (OM.fin laws_markWriterS.g Tryz.f63.results.toList) := by kernel_rfl
theorem laws_markWriterS.hf (k : Nat) (a0 : (List Writer)) (a1 : Int) : (laws_markWriterS.f k a0 a1 : Option (denR (outTys laws_markWriterS.g.rts laws_markWriterS.g.pms))) = evC (laws_markWriterS.E k) (fun κ s => lhOf k κ s laws_markWriterS.pts) b63 (OM.start laws_markWriterS.g.pms 0 (a0, a1, ())) (OM.fin laws_markWriterS.g Tryz.f63.results.toList) := by kernel_rfl
theorem laws_markWriterS.ok (k : Nat) : SmOk Tryz.prog (laws_markWriterS.sm k) :=
  sm_ok mixed (E := laws_markWriterS.E) (pts := laws_markWriterS.pts) (fun k => ⟨⟨tysOk, by kernel_rfl⟩, forall_cons ⟨laws_markWordS.ok k, e121⟩ (forall_nil)⟩) (fun _ => rfl) (fun _ => rfl)
    ⟨Tryz.func63, by kernel_rfl, by kernel_rfl, by kernel_rfl, by kernel_rfl, by kernel_rfl, by kernel_rfl⟩ (forall_cons (fun x => ⟨rfl, fun k => laws_markWriterS.h5 k x.1 x.2.1 x.2.2.1⟩) (forall_nil)) (fun k x => laws_markWriterS.hf k x.1 x.2.1) k
noncomputable def b122 : Code := Tryz.f122.body.getD .skip
theorem e122 : OM.Entry Tryz.prog 122 := ⟨_, Tryz.func122, by kernel_rfl, by kernel_rfl⟩
@[reducible] noncomputable def laws_markIntSS.g : Sig := ⟨[.mut (.sl (.sl (.int .i64))) (.own (.own .z)), .fz (.int .i64)], [.v (.int .i64) .z], [0]⟩
@[reducible] noncomputable def laws_markIntSS.fk : Nat → denI laws_markIntSS.g.pms → Option (denR (outTys laws_markIntSS.g.rts laws_markIntSS.g.pms)) := fun k x => laws_markIntSS.f k x.1 x.2.1
@[reducible] noncomputable def laws_markIntSS.sm (k : Nat) : Sm := ⟨122, laws_markIntSS.g.pms, laws_markIntSS.g.rts, laws_markIntSS.fk k⟩
noncomputable def laws_markIntSS.E (k : Nat) : Env := ⟨tys, [laws_markIntS.sm k], [], [], []⟩
@[reducible] noncomputable def laws_markIntSS.s5 : List Slot := [.v 0 (.sl (.sl (.int .i64))) (.own (.own .z)) [] 1, .v 4 (.int .i64) .z [] 0, .v 20 (.int .i64) .z [] 0]
noncomputable def laws_markIntSS.pts : List (Pt (denR (outTys laws_markIntSS.g.rts laws_markIntSS.g.pms))) := [⟨5, laws_markIntSS.s5, fun k x => laws_markIntSS.p5 k x.1 x.2.1 x.2.2.1⟩]
theorem laws_markIntSS.h5 (k : Nat) (x0 : (List (List Int))) (x1 : Int) (x2 : Int) : (laws_markIntSS.p5 (k + 1) x0 x1 x2 : Option (denR (outTys laws_markIntSS.g.rts laws_markIntSS.g.pms))) = evAt (laws_markIntSS.E k) (fun κ s => lhOf k κ s laws_markIntSS.pts) 5 b122 (unproj laws_markIntSS.s5 (x0, x1, x2, ())) (OM.fin laws_markIntSS.g Tryz.f122.results.toList) := by kernel_rfl
theorem laws_markIntSS.hf (k : Nat) (a0 : (List (List Int))) (a1 : Int) : (laws_markIntSS.f k a0 a1 : Option (denR (outTys laws_markIntSS.g.rts laws_markIntSS.g.pms))) = evC (laws_markIntSS.E k) (fun κ s => lhOf k κ s laws_markIntSS.pts) b122 (OM.start laws_markIntSS.g.pms 0 (a0, a1, ())) (OM.fin laws_markIntSS.g Tryz.f122.results.toList) := by kernel_rfl
theorem laws_markIntSS.ok (k : Nat) : SmOk Tryz.prog (laws_markIntSS.sm k) :=
  sm_ok mixed (E := laws_markIntSS.E) (pts := laws_markIntSS.pts) (fun k => ⟨⟨tysOk, by kernel_rfl⟩, forall_cons ⟨laws_markIntS.ok k, e15⟩ (forall_nil)⟩) (fun _ => rfl) (fun _ => rfl)
    ⟨Tryz.func122, by kernel_rfl, by kernel_rfl, by kernel_rfl, by kernel_rfl, by kernel_rfl, by kernel_rfl⟩ (forall_cons (fun x => ⟨rfl, fun k => laws_markIntSS.h5 k x.1 x.2.1 x.2.2.1⟩) (forall_nil)) (fun k x => laws_markIntSS.hf k x.1 x.2.1) k
noncomputable def b64 : Code := Tryz.f64.body.getD .skip
theorem e64 : OM.Entry Tryz.prog 64 := ⟨_, Tryz.func64, by kernel_rfl, by kernel_rfl⟩
@[reducible] noncomputable def laws_markMendS.g : Sig := ⟨[.mut (.sl tMend) (.own (.two .z (.two .z (.two (.own .z) (.two (.own .z) (.two .z (.two (.own (.own .z)) .z))))))), .fz (.int .i64)], [.v (.int .i64) .z], [0]⟩
@[reducible] noncomputable def laws_markMendS.fk : Nat → denI laws_markMendS.g.pms → Option (denR (outTys laws_markMendS.g.rts laws_markMendS.g.pms)) := fun k x => laws_markMendS.f k x.1 x.2.1
@[reducible] noncomputable def laws_markMendS.sm (k : Nat) : Sm := ⟨64, laws_markMendS.g.pms, laws_markMendS.g.rts, laws_markMendS.fk k⟩
noncomputable def laws_markMendS.E (k : Nat) : Env := ⟨tys, [laws_markIntS.sm k, laws_markEntryS.sm k, laws_markIntSS.sm k], [], [], []⟩
@[reducible] noncomputable def laws_markMendS.s5 : List Slot := [.v 0 (.sl tMend) (.own (.two .z (.two .z (.two (.own .z) (.two (.own .z) (.two .z (.two (.own (.own .z)) .z))))))) [] 1, .v 4 (.int .i64) .z [] 0, .v 20 (.int .i64) .z [] 0]
noncomputable def laws_markMendS.pts : List (Pt (denR (outTys laws_markMendS.g.rts laws_markMendS.g.pms))) := [⟨5, laws_markMendS.s5, fun k x => laws_markMendS.p5 k x.1 x.2.1 x.2.2.1⟩]
theorem laws_markMendS.h5 (k : Nat) (x0 : (List Mend)) (x1 : Int) (x2 : Int) : (laws_markMendS.p5 (k + 1) x0 x1 x2 : Option (denR (outTys laws_markMendS.g.rts laws_markMendS.g.pms))) = evAt (laws_markMendS.E k) (fun κ s => lhOf k κ s laws_markMendS.pts) 5 b64 (unproj laws_markMendS.s5 (x0, x1, x2, ())) (OM.fin laws_markMendS.g Tryz.f64.results.toList) := by kernel_rfl
theorem laws_markMendS.hf (k : Nat) (a0 : (List Mend)) (a1 : Int) : (laws_markMendS.f k a0 a1 : Option (denR (outTys laws_markMendS.g.rts laws_markMendS.g.pms))) = evC (laws_markMendS.E k) (fun κ s => lhOf k κ s laws_markMendS.pts) b64 (OM.start laws_markMendS.g.pms 0 (a0, a1, ())) (OM.fin laws_markMendS.g Tryz.f64.results.toList) := by kernel_rfl
theorem laws_markMendS.ok (k : Nat) : SmOk Tryz.prog (laws_markMendS.sm k) :=
  sm_ok mixed (E := laws_markMendS.E) (pts := laws_markMendS.pts) (fun k => ⟨⟨tysOk, by kernel_rfl⟩, forall_cons ⟨laws_markIntS.ok k, e15⟩ (forall_cons ⟨laws_markEntryS.ok k, e119⟩ (forall_cons ⟨laws_markIntSS.ok k, e122⟩ (forall_nil)))⟩) (fun _ => rfl) (fun _ => rfl)
    ⟨Tryz.func64, by kernel_rfl, by kernel_rfl, by kernel_rfl, by kernel_rfl, by kernel_rfl, by kernel_rfl⟩ (forall_cons (fun x => ⟨rfl, fun k => laws_markMendS.h5 k x.1 x.2.1 x.2.2.1⟩) (forall_nil)) (fun k x => laws_markMendS.hf k x.1 x.2.1) k
noncomputable def b123 : Code := Tryz.f123.body.getD .skip
theorem e123 : OM.Entry Tryz.prog 123 := ⟨_, Tryz.func123, by kernel_rfl, by kernel_rfl⟩
@[reducible] noncomputable def laws_markEventS.g : Sig := ⟨[.mut (.sl tEvent) (.own .z), .fz (.int .i64)], [.v (.int .i64) .z], [0]⟩
@[reducible] noncomputable def laws_markEventS.fk : Nat → denI laws_markEventS.g.pms → Option (denR (outTys laws_markEventS.g.rts laws_markEventS.g.pms)) := fun k x => laws_markEventS.f k x.1 x.2.1
@[reducible] noncomputable def laws_markEventS.sm (k : Nat) : Sm := ⟨123, laws_markEventS.g.pms, laws_markEventS.g.rts, laws_markEventS.fk k⟩
noncomputable def laws_markEventS.E (k : Nat) : Env := ⟨tys, [laws_markText.sm k], [], [], []⟩
@[reducible] noncomputable def laws_markEventS.s5 : List Slot := [.v 0 (.sl tEvent) (.own .z) [] 1, .v 4 (.int .i64) .z [] 0, .v 20 (.int .i64) .z [] 0]
noncomputable def laws_markEventS.pts : List (Pt (denR (outTys laws_markEventS.g.rts laws_markEventS.g.pms))) := [⟨5, laws_markEventS.s5, fun k x => laws_markEventS.p5 k x.1 x.2.1 x.2.2.1⟩]
theorem laws_markEventS.h5 (k : Nat) (x0 : (List Event)) (x1 : Int) (x2 : Int) : (laws_markEventS.p5 (k + 1) x0 x1 x2 : Option (denR (outTys laws_markEventS.g.rts laws_markEventS.g.pms))) = evAt (laws_markEventS.E k) (fun κ s => lhOf k κ s laws_markEventS.pts) 5 b123 (unproj laws_markEventS.s5 (x0, x1, x2, ())) (OM.fin laws_markEventS.g Tryz.f123.results.toList) := by kernel_rfl
theorem laws_markEventS.hf (k : Nat) (a0 : (List Event)) (a1 : Int) : (laws_markEventS.f k a0 a1 : Option (denR (outTys laws_markEventS.g.rts laws_markEventS.g.pms))) = evC (laws_markEventS.E k) (fun κ s => lhOf k κ s laws_markEventS.pts) b123 (OM.start laws_markEventS.g.pms 0 (a0, a1, ())) (OM.fin laws_markEventS.g Tryz.f123.results.toList) := by kernel_rfl
theorem laws_markEventS.ok (k : Nat) : SmOk Tryz.prog (laws_markEventS.sm k) :=
  sm_ok mixed (E := laws_markEventS.E) (pts := laws_markEventS.pts) (fun k => ⟨⟨tysOk, by kernel_rfl⟩, forall_cons ⟨laws_markText.ok k, e124⟩ (forall_nil)⟩) (fun _ => rfl) (fun _ => rfl)
    ⟨Tryz.func123, by kernel_rfl, by kernel_rfl, by kernel_rfl, by kernel_rfl, by kernel_rfl, by kernel_rfl⟩ (forall_cons (fun x => ⟨rfl, fun k => laws_markEventS.h5 k x.1 x.2.1 x.2.2.1⟩) (forall_nil)) (fun k x => laws_markEventS.hf k x.1 x.2.1) k
noncomputable def b65 : Code := Tryz.f65.body.getD .skip
theorem e65 : OM.Entry Tryz.prog 65 := ⟨_, Tryz.func65, by kernel_rfl, by kernel_rfl⟩
@[reducible] noncomputable def laws_markReaderS.g : Sig := ⟨[.mut (.sl tReader) (.own (.two .z (.two .z (.two (.own .z) .z)))), .fz (.int .i64)], [.v (.int .i64) .z], [0]⟩
@[reducible] noncomputable def laws_markReaderS.fk : Nat → denI laws_markReaderS.g.pms → Option (denR (outTys laws_markReaderS.g.rts laws_markReaderS.g.pms)) := fun k x => laws_markReaderS.f k x.1 x.2.1
@[reducible] noncomputable def laws_markReaderS.sm (k : Nat) : Sm := ⟨65, laws_markReaderS.g.pms, laws_markReaderS.g.rts, laws_markReaderS.fk k⟩
noncomputable def laws_markReaderS.E (k : Nat) : Env := ⟨tys, [laws_markEventS.sm k], [], [], []⟩
@[reducible] noncomputable def laws_markReaderS.s5 : List Slot := [.v 0 (.sl tReader) (.own (.two .z (.two .z (.two (.own .z) .z)))) [] 1, .v 4 (.int .i64) .z [] 0, .v 20 (.int .i64) .z [] 0]
noncomputable def laws_markReaderS.pts : List (Pt (denR (outTys laws_markReaderS.g.rts laws_markReaderS.g.pms))) := [⟨5, laws_markReaderS.s5, fun k x => laws_markReaderS.p5 k x.1 x.2.1 x.2.2.1⟩]
theorem laws_markReaderS.h5 (k : Nat) (x0 : (List Reader)) (x1 : Int) (x2 : Int) : (laws_markReaderS.p5 (k + 1) x0 x1 x2 : Option (denR (outTys laws_markReaderS.g.rts laws_markReaderS.g.pms))) = evAt (laws_markReaderS.E k) (fun κ s => lhOf k κ s laws_markReaderS.pts) 5 b65 (unproj laws_markReaderS.s5 (x0, x1, x2, ())) (OM.fin laws_markReaderS.g Tryz.f65.results.toList) := by kernel_rfl
theorem laws_markReaderS.hf (k : Nat) (a0 : (List Reader)) (a1 : Int) : (laws_markReaderS.f k a0 a1 : Option (denR (outTys laws_markReaderS.g.rts laws_markReaderS.g.pms))) = evC (laws_markReaderS.E k) (fun κ s => lhOf k κ s laws_markReaderS.pts) b65 (OM.start laws_markReaderS.g.pms 0 (a0, a1, ())) (OM.fin laws_markReaderS.g Tryz.f65.results.toList) := by kernel_rfl
theorem laws_markReaderS.ok (k : Nat) : SmOk Tryz.prog (laws_markReaderS.sm k) :=
  sm_ok mixed (E := laws_markReaderS.E) (pts := laws_markReaderS.pts) (fun k => ⟨⟨tysOk, by kernel_rfl⟩, forall_cons ⟨laws_markEventS.ok k, e123⟩ (forall_nil)⟩) (fun _ => rfl) (fun _ => rfl)
    ⟨Tryz.func65, by kernel_rfl, by kernel_rfl, by kernel_rfl, by kernel_rfl, by kernel_rfl, by kernel_rfl⟩ (forall_cons (fun x => ⟨rfl, fun k => laws_markReaderS.h5 k x.1 x.2.1 x.2.2.1⟩) (forall_nil)) (fun k x => laws_markReaderS.hf k x.1 x.2.1) k
noncomputable def b66 : Code := Tryz.f66.body.getD .skip
theorem e66 : OM.Entry Tryz.prog 66 := ⟨_, Tryz.func66, by kernel_rfl, by kernel_rfl⟩
@[reducible] noncomputable def laws_markSentS.g : Sig := ⟨[.mut (.sl tSent) (.own .z), .fz (.int .i64)], [.v (.int .i64) .z], [0]⟩
@[reducible] noncomputable def laws_markSentS.fk : Nat → denI laws_markSentS.g.pms → Option (denR (outTys laws_markSentS.g.rts laws_markSentS.g.pms)) := fun k x => laws_markSentS.f k x.1 x.2.1
@[reducible] noncomputable def laws_markSentS.sm (k : Nat) : Sm := ⟨66, laws_markSentS.g.pms, laws_markSentS.g.rts, laws_markSentS.fk k⟩
noncomputable def laws_markSentS.E (k : Nat) : Env := ⟨tys, [laws_markText.sm k], [], [], []⟩
@[reducible] noncomputable def laws_markSentS.s5 : List Slot := [.v 0 (.sl tSent) (.own .z) [] 1, .v 4 (.int .i64) .z [] 0, .v 20 (.int .i64) .z [] 0]
noncomputable def laws_markSentS.pts : List (Pt (denR (outTys laws_markSentS.g.rts laws_markSentS.g.pms))) := [⟨5, laws_markSentS.s5, fun k x => laws_markSentS.p5 k x.1 x.2.1 x.2.2.1⟩]
theorem laws_markSentS.h5 (k : Nat) (x0 : (List Sent)) (x1 : Int) (x2 : Int) : (laws_markSentS.p5 (k + 1) x0 x1 x2 : Option (denR (outTys laws_markSentS.g.rts laws_markSentS.g.pms))) = evAt (laws_markSentS.E k) (fun κ s => lhOf k κ s laws_markSentS.pts) 5 b66 (unproj laws_markSentS.s5 (x0, x1, x2, ())) (OM.fin laws_markSentS.g Tryz.f66.results.toList) := by kernel_rfl
theorem laws_markSentS.hf (k : Nat) (a0 : (List Sent)) (a1 : Int) : (laws_markSentS.f k a0 a1 : Option (denR (outTys laws_markSentS.g.rts laws_markSentS.g.pms))) = evC (laws_markSentS.E k) (fun κ s => lhOf k κ s laws_markSentS.pts) b66 (OM.start laws_markSentS.g.pms 0 (a0, a1, ())) (OM.fin laws_markSentS.g Tryz.f66.results.toList) := by kernel_rfl
theorem laws_markSentS.ok (k : Nat) : SmOk Tryz.prog (laws_markSentS.sm k) :=
  sm_ok mixed (E := laws_markSentS.E) (pts := laws_markSentS.pts) (fun k => ⟨⟨tysOk, by kernel_rfl⟩, forall_cons ⟨laws_markText.ok k, e124⟩ (forall_nil)⟩) (fun _ => rfl) (fun _ => rfl)
    ⟨Tryz.func66, by kernel_rfl, by kernel_rfl, by kernel_rfl, by kernel_rfl, by kernel_rfl, by kernel_rfl⟩ (forall_cons (fun x => ⟨rfl, fun k => laws_markSentS.h5 k x.1 x.2.1 x.2.2.1⟩) (forall_nil)) (fun k x => laws_markSentS.hf k x.1 x.2.1) k
noncomputable def b14 : Code := Tryz.f14.body.getD .skip
theorem e14 : OM.Entry Tryz.prog 14 := ⟨_, Tryz.func14, by kernel_rfl, by kernel_rfl⟩
@[reducible] noncomputable def laws_markWorld.g : Sig := ⟨[.mut tWorld (.two (.two (.own .z) .z) (.two (.own (.two (.own .z) (.two (.own .z) .z))) (.two (.own .z) (.two (.two (.own (.two (.own .z) .z)) .z) (.two (.own (.two .z (.two (.own (.two .z (.two (.own .z) .z))) .z))) (.two (.own (.two .z (.two .z (.two (.own .z) (.two (.own .z) (.two .z (.two (.own (.own .z)) .z))))))) (.two (.own (.two .z (.two .z (.two (.own .z) .z)))) (.two (.own .z) .z)))))))), .fz (.int .i64)], [.v (.int .i64) .z], [9]⟩
@[reducible] noncomputable def laws_markWorld.fk : Nat → denI laws_markWorld.g.pms → Option (denR (outTys laws_markWorld.g.rts laws_markWorld.g.pms)) := fun k x => laws_markWorld.f k x.1 x.2.1
@[reducible] noncomputable def laws_markWorld.sm (k : Nat) : Sm := ⟨14, laws_markWorld.g.pms, laws_markWorld.g.rts, laws_markWorld.fk k⟩
noncomputable def laws_markWorld.E (k : Nat) : Env := ⟨tys, [laws_markIntS.sm k, laws_markConfig.sm k, laws_markStoreS.sm k, laws_markRegister.sm k, laws_markWriterS.sm k, laws_markMendS.sm k, laws_markReaderS.sm k, laws_markSentS.sm k], [], [], []⟩
noncomputable def laws_markWorld.pts : List (Pt (denR (outTys laws_markWorld.g.rts laws_markWorld.g.pms))) := []
theorem laws_markWorld.hf (k : Nat) (a0 : World) (a1 : Int) : (laws_markWorld.f k a0 a1 : Option (denR (outTys laws_markWorld.g.rts laws_markWorld.g.pms))) = evC (laws_markWorld.E k) (fun κ s => lhOf k κ s laws_markWorld.pts) b14 (OM.start laws_markWorld.g.pms 0 (a0, a1, ())) (OM.fin laws_markWorld.g Tryz.f14.results.toList) := by kernel_rfl
theorem laws_markWorld.ok (k : Nat) : SmOk Tryz.prog (laws_markWorld.sm k) :=
  sm_ok mixed (E := laws_markWorld.E) (pts := laws_markWorld.pts) (fun k => ⟨⟨tysOk, by kernel_rfl⟩, forall_cons ⟨laws_markIntS.ok k, e15⟩ (forall_cons ⟨laws_markConfig.ok k, e60⟩ (forall_cons ⟨laws_markStoreS.ok k, e61⟩ (forall_cons ⟨laws_markRegister.ok k, e62⟩ (forall_cons ⟨laws_markWriterS.ok k, e63⟩ (forall_cons ⟨laws_markMendS.ok k, e64⟩ (forall_cons ⟨laws_markReaderS.ok k, e65⟩ (forall_cons ⟨laws_markSentS.ok k, e66⟩ (forall_nil))))))))⟩) (fun _ => rfl) (fun _ => rfl)
    ⟨Tryz.func14, by kernel_rfl, by kernel_rfl, by kernel_rfl, by kernel_rfl, by kernel_rfl, by kernel_rfl⟩ (forall_nil) (fun k x => laws_markWorld.hf k x.1 x.2.1) k
noncomputable def b16 : Code := Tryz.f16.body.getD .skip
theorem e16 : OM.Entry Tryz.prog 16 := ⟨_, Tryz.func16, by kernel_rfl, by kernel_rfl⟩
@[reducible] noncomputable def laws_heldIntS.g : Sig := ⟨[.fz (.sl (.int .i64)), .fz (.int .i64)], [.v (.int .i64) .z], []⟩
@[reducible] noncomputable def laws_heldIntS.fk : Nat → denI laws_heldIntS.g.pms → Option (denR (outTys laws_heldIntS.g.rts laws_heldIntS.g.pms)) := fun k x => laws_heldIntS.f k x.1 x.2.1
@[reducible] noncomputable def laws_heldIntS.sm (k : Nat) : Sm := ⟨16, laws_heldIntS.g.pms, laws_heldIntS.g.rts, laws_heldIntS.fk k⟩
noncomputable def laws_heldIntS.E (k : Nat) : Env := ⟨tys, [], [], [], []⟩
@[reducible] noncomputable def laws_heldIntS.s5 : List Slot := [.v 0 (.sl (.int .i64)) .z [] 0, .v 4 (.int .i64) .z [] 0, .v 20 (.int .i64) .z [] 0]
noncomputable def laws_heldIntS.pts : List (Pt (denR (outTys laws_heldIntS.g.rts laws_heldIntS.g.pms))) := [⟨5, laws_heldIntS.s5, fun k x => laws_heldIntS.p5 k x.1 x.2.1 x.2.2.1⟩]
theorem laws_heldIntS.h5 (k : Nat) (x0 : (List Int)) (x1 : Int) (x2 : Int) : (laws_heldIntS.p5 (k + 1) x0 x1 x2 : Option (denR (outTys laws_heldIntS.g.rts laws_heldIntS.g.pms))) = evAt (laws_heldIntS.E k) (fun κ s => lhOf k κ s laws_heldIntS.pts) 5 b16 (unproj laws_heldIntS.s5 (x0, x1, x2, ())) (OM.fin laws_heldIntS.g Tryz.f16.results.toList) := by kernel_rfl
theorem laws_heldIntS.hf (k : Nat) (a0 : (List Int)) (a1 : Int) : (laws_heldIntS.f k a0 a1 : Option (denR (outTys laws_heldIntS.g.rts laws_heldIntS.g.pms))) = evC (laws_heldIntS.E k) (fun κ s => lhOf k κ s laws_heldIntS.pts) b16 (OM.start laws_heldIntS.g.pms 0 (a0, a1, ())) (OM.fin laws_heldIntS.g Tryz.f16.results.toList) := by kernel_rfl
theorem laws_heldIntS.ok (k : Nat) : SmOk Tryz.prog (laws_heldIntS.sm k) :=
  sm_ok mixed (E := laws_heldIntS.E) (pts := laws_heldIntS.pts) (fun k => ⟨⟨tysOk, by kernel_rfl⟩, forall_nil⟩) (fun _ => rfl) (fun _ => rfl)
    ⟨Tryz.func16, by kernel_rfl, by kernel_rfl, by kernel_rfl, by kernel_rfl, by kernel_rfl, by kernel_rfl⟩ (forall_cons (fun x => ⟨rfl, fun k => laws_heldIntS.h5 k x.1 x.2.1 x.2.2.1⟩) (forall_nil)) (fun k x => laws_heldIntS.hf k x.1 x.2.1) k
noncomputable def b4 : Code := Tryz.f4.body.getD .skip
theorem e4 : OM.Entry Tryz.prog 4 := ⟨_, Tryz.func4, by kernel_rfl, by kernel_rfl⟩
@[reducible] noncomputable def laws_FnExactHoldersOf.g : Sig := ⟨[.fz tWorld, .fz (.int .i64)], [.v .bool .z], []⟩
@[reducible] noncomputable def laws_FnExactHoldersOf.fk : Nat → denI laws_FnExactHoldersOf.g.pms → Option (denR (outTys laws_FnExactHoldersOf.g.rts laws_FnExactHoldersOf.g.pms)) := fun k x => laws_FnExactHoldersOf.f k x.1 x.2.1
@[reducible] noncomputable def laws_FnExactHoldersOf.sm (k : Nat) : Sm := ⟨4, laws_FnExactHoldersOf.g.pms, laws_FnExactHoldersOf.g.rts, laws_FnExactHoldersOf.fk k⟩
noncomputable def laws_FnExactHoldersOf.E (k : Nat) : Env := ⟨tys, [laws_szWorld.sm k, laws_toWorld.sm k, spec_HoldersOf.sm k, impl_HoldersOf.sm k, laws_eqIntS.sm k, laws_eqWorld.sm k, laws_markIntS.sm k, laws_markWorld.sm k, laws_heldIntS.sm k], [], [], []⟩
noncomputable def laws_FnExactHoldersOf.pts : List (Pt (denR (outTys laws_FnExactHoldersOf.g.rts laws_FnExactHoldersOf.g.pms))) := []
theorem laws_FnExactHoldersOf.hf (k : Nat) (a0 : World) (a1 : Int) : (laws_FnExactHoldersOf.f k a0 a1 : Option (denR (outTys laws_FnExactHoldersOf.g.rts laws_FnExactHoldersOf.g.pms))) = evC (laws_FnExactHoldersOf.E k) (fun κ s => lhOf k κ s laws_FnExactHoldersOf.pts) b4 (OM.start laws_FnExactHoldersOf.g.pms 0 (a0, a1, ())) (OM.fin laws_FnExactHoldersOf.g Tryz.f4.results.toList) := by kernel_rfl
theorem laws_FnExactHoldersOf.ok (k : Nat) : SmOk Tryz.prog (laws_FnExactHoldersOf.sm k) :=
  sm_ok mixed (E := laws_FnExactHoldersOf.E) (pts := laws_FnExactHoldersOf.pts) (fun k => ⟨⟨tysOk, by kernel_rfl⟩, forall_cons ⟨laws_szWorld.ok k, e6⟩ (forall_cons ⟨laws_toWorld.ok k, e8⟩ (forall_cons ⟨spec_HoldersOf.ok k, e11⟩ (forall_cons ⟨impl_HoldersOf.ok k, e12⟩ (forall_cons ⟨laws_eqIntS.ok k, e13⟩ (forall_cons ⟨laws_eqWorld.ok k, e10⟩ (forall_cons ⟨laws_markIntS.ok k, e15⟩ (forall_cons ⟨laws_markWorld.ok k, e14⟩ (forall_cons ⟨laws_heldIntS.ok k, e16⟩ (forall_nil)))))))))⟩) (fun _ => rfl) (fun _ => rfl)
    ⟨Tryz.func4, by kernel_rfl, by kernel_rfl, by kernel_rfl, by kernel_rfl, by kernel_rfl, by kernel_rfl⟩ (forall_nil) (fun k x => laws_FnExactHoldersOf.hf k x.1 x.2.1) k
end Go.Proofs.YthgnikafeamidacGreat.OmFnExactHoldersOf
