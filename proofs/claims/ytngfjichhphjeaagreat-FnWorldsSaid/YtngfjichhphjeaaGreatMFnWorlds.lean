/- Each function of the code is its plain function. Conditions: none. -/
import Derived.Test.YtngfjichhphjeaaGreatFFnWorlds
import Derived.Test.YtngfjichhphjeaaGreatChecked
set_option maxRecDepth 1000000
set_option linter.unusedVariables false
namespace Go.Proofs.YtngfjichhphjeaaGreat.OmFnWorlds
open Go Go.OM
noncomputable def tys : List (Option Ty) := [none, none, some (.int .i64), some (.int .i64), some .bool, some (.int .u8), some (.int .u8), some (.pair (.int .i64) (.pair (.int .i64) (.pair .bool (.pair (.int .u8) .unit)))), some (.pair (.int .i64) (.pair (.int .i64) (.pair .bool (.pair (.int .u8) .unit)))), some .str, some .str, some .str, some (.int .u64), some (.pair .str (.pair (.int .u64) .unit)), some (.pair .str (.pair (.int .u64) .unit)), none, none, none, none, none, none, some (.int .i32), some (.sl (.int .u8)), none, some (.sl (.int .i64)), some tConfig, some tConfig, some (.sl tStore), some (.sl tEra), some tRegister, some tRegister, some (.sl tWriter), some (.sl tMend), some (.sl tReader), some (.sl tSent), some tWorld, some tWorld, none, none, none, none, none, some tEntry, some tEntry, none, none, some (.sl tEntry), some tStore, some tStore, none, none, none, none, none, none, none, none, none, none, some (.sl tEvent), some tReader, some tReader, none, none, none, none, none, some (.sl tWord), some tWriter, some tWriter, none, none, some tl1Cur, some tl1Cur, some (.sl tDeed), none, none, none, none, none, none, none, some (.sl (.sl (.int .i64))), some tMend, some tMend, none, none, none, some tSent, some tSent, none, none, none, none, none, some tEra, some tEra, none, none, none, none, none, none, none, none, none, some tWord, some tWord, none, none, some tDeed, some tDeed, none, none, none, none, none, none, some tEvent, some tEvent, none, none, none, none, none, none, none, none, some (.int .u64), none, none, none, none, none, none, none, none, none, none, none, none, none, none, none, none, some (.sl .str), none, none, none, none, none, none, none, none, none, none, none, some (.sl .bool), none, none, none, none, none, none, none, none, none, none, none, none, none, none, none, none, none, none, none, none, none, none, some (.sl tAnswer), none, none, none, none, none, none, none, none, some tAnswer, some tAnswer, none, none, none, none, none, none, none, some (.int .u32), some (.int .u8), some (.int .u8), none, none, some (.int .i32), some (.int .i32), none, none, none]
theorem tysOk : okTys Tryz.prog tys 0 tys = true := by kernel_rfl
theorem mixed : Tryz.prog.follows .mixedOrders = true := by kernel_rfl
/-- A function whose summary is true. -/
structure Fn where
  i : Nat
  g : Sig
  fk : Nat → denI g.pms → Option (denR (outTys g.rts g.pms))
  ok : ∀ k, SmOk Tryz.prog ⟨i, g.pms, g.rts, fk k⟩
  en : OM.Entry Tryz.prog i
@[reducible] noncomputable def Fn.sm (F : Fn) (k : Nat) : Sm := ⟨F.i, F.g.pms, F.g.rts, F.fk k⟩
/-- What is told of a function: those that it calls, what it takes, its points. -/
structure Raw where
  i : Nat
  fn : Func
  g : Sig
  cs : List Fn
  ta : List Nat
  jo : List Nat
  eq : List Nat
  fk : Nat → denI g.pms → Option (denR (outTys g.rts g.pms))
  pts : List (Pt (denR (outTys g.rts g.pms)))
noncomputable def Raw.E (r : Raw) (k : Nat) : Env := ⟨tys, r.cs.map fun c => c.sm k, r.ta, r.jo, r.eq⟩
noncomputable def Raw.b (r : Raw) : Code := r.fn.body.getD .skip
noncomputable def Raw.chk (r : Raw) : Bool :=
  (!(r.fn.name == "runtime.NumGoroutine") && !r.fn.body.isNone) && ((Nat.ble r.g.pms.length 900 && Nat.ble r.g.pms.length r.fn.ntmps && Nat.ble r.fn.ntmps 9000) && (dstsOk r.fn.ntmps r.b && (noDup (ptsOf r.jo r.b) && ((r.pts.map Pt.sl).all (fun sl => slotsOk (slotLocs sl) sl) && (ressOk (r.E 0) r.g.rts r.fn.results.toList && r.eq.all (eqOk Tryz.prog tys))))))
structure Raw.Ok (r : Raw) : Prop where
  fn : Tryz.prog.funcs[r.i]? = some r.fn
  chk : r.chk = true
  pts : ∀ p ∈ r.pts, (∀ x, p.f 0 x = none) ∧ ∀ x k, p.f (k + 1) x = evAt (r.E k) (fun κ s => lhOf k κ s r.pts) p.κ r.b (unproj p.sl x) (OM.fin r.g r.fn.results.toList)
  run : ∀ k x, r.fk k x = evC (r.E k) (fun κ s => lhOf k κ s r.pts) r.b (OM.start r.g.pms 0 x) (OM.fin r.g r.fn.results.toList)
theorem and2 {a b : Bool} (h : (a && b) = true) : a = true ∧ b = true := by cases a <;> cases b <;> simp_all
theorem Raw.Ok.ent {r : Raw} (h : r.Ok) : OM.Entry Tryz.prog r.i := by
  have h1 := and2 (and2 h.chk).1
  exact ⟨r.fn, h.fn, by simpa using h1.1, by simpa using h1.2⟩
theorem Raw.Ok.sm {r : Raw} (h : r.Ok) (k : Nat) : SmOk Tryz.prog ⟨r.i, r.g.pms, r.g.rts, r.fk k⟩ := by
  have h0 := and2 h.chk
  have h1 := and2 h0.1
  have h2 := and2 h0.2
  have h3 := and2 h2.2
  have h4 := and2 h3.2
  have h5 := and2 h4.2
  have h6 := and2 h5.2
  have hb : r.fn.body = some r.b := by
    have := h1.2
    unfold Raw.b
    cases e : r.fn.body with
    | none => rw [e] at this; cases this
    | some b => rfl
  exact sm_ok mixed (E := r.E) (pts := r.pts) (fun k => ⟨⟨tysOk, h6.2⟩, fun sm hsm => by obtain ⟨c, _, rfl⟩ := List.mem_map.1 hsm; exact ⟨c.ok k, c.en⟩⟩) (fun _ => rfl) (fun _ => rfl)
    ⟨h.fn, hb, h2.1, h3.1, h4.1, h5.1, h6.1⟩ (fun p hp x => ⟨(h.pts p hp).1 x, (h.pts p hp).2 x⟩) h.run k
noncomputable def Raw.Ok.q {r : Raw} (h : r.Ok) : Fn := ⟨r.i, r.g, r.fk, h.sm, h.ent⟩
@[reducible] noncomputable def sv (l : Nat) (t : Ty) (o : Ow) : Slot := .v l t o [] 0
@[reducible] noncomputable def sr (l m : Nat) (t : Ty) : Slot := .r l m [] t
@[reducible] noncomputable def tI : Ty := .int .i64
@[reducible] noncomputable def tN : Ty := .sl tI
theorem nil {α : Type} {p : α → Prop} : ∀ x ∈ ([] : List α), p x := forall_nil
theorem cons {α : Type} {p : α → Prop} {a : α} {l : List α} (h : p a) (k : ∀ x ∈ l, p x) : ∀ x ∈ a :: l, p x := forall_cons h k
@[reducible] noncomputable def o0 : Ow := (.two (.own .z) .z)
@[reducible] noncomputable def o1 : Ow := (.two (.own .a) .z)
@[reducible] noncomputable def o2 : Ow := (.two .z (.two .z o1))
@[reducible] noncomputable def o3 : Ow := (.two (.own .z) o0)
@[reducible] noncomputable def o4 : Ow := (.two (.own o2) o1)
@[reducible] noncomputable def o5 : Ow := (.two (.own .a) o4)
@[reducible] noncomputable def o6 : Ow := (.two (.own .a) o5)
@[reducible] noncomputable def o7 : Ow := (.two (.own .a) (.two o1 o6))
@[reducible] noncomputable def o8 : Ow := (.two (.own o3) o7)
@[reducible] noncomputable def o9 : Ow := (.two (.own .z) o3)
@[reducible] noncomputable def o10 : Ow := (.two (.own .z) o9)
@[reducible] noncomputable def o11 : Ow := (.two (.own .z) (.two o0 o10))
@[reducible] noncomputable def o12 : Ow := (.two (.own .z) o11)
@[reducible] noncomputable def o13 : Ow := (.two (.own o0) .z)
@[reducible] noncomputable def o14 : Ow := (.own (.two .z o0))
@[reducible] noncomputable def o15 : Ow := (.two .z (.two o14 .z))
@[reducible] noncomputable def o16 : Ow := (.own (.own .z))
@[reducible] noncomputable def o17 : Ow := (.two .z (.two o16 .z))
@[reducible] noncomputable def o18 : Ow := (.two (.own .z) o17)
@[reducible] noncomputable def o19 : Ow := (.two (.own .z) o18)
@[reducible] noncomputable def o20 : Ow := (.two .z (.two .z o19))
@[reducible] noncomputable def o21 : Ow := (.two (.own .a) (.two .z o1))
@[reducible] noncomputable def o22 : Ow := (.two (.own .a) o21)
@[reducible] noncomputable def o23 : Ow := (.two .z (.two .z o22))
@[reducible] noncomputable def o24 : Ow := (.two .z (.two .z o0))
@[reducible] noncomputable def o25 : Ow := (.two (.own o24) o0)
@[reducible] noncomputable def o26 : Ow := (.two (.own o20) o25)
@[reducible] noncomputable def o27 : Ow := (.two (.own o15) o26)
@[reducible] noncomputable def o28 : Ow := (.two (.own .z) (.two o13 o27))
@[reducible] noncomputable def o29 : Ow := (.two (.own o3) o28)
@[reducible] noncomputable def o30 : Ow := (.two (.own .a) o1)
@[reducible] noncomputable def o31 : Ow := (.two (.own .a) o30)
@[reducible] noncomputable def o32 : Ow := (.two (.own .a) o31)
@[reducible] noncomputable def o33 : Ow := (.two (.own .a) (.two o1 o32))
@[reducible] noncomputable def o34 : Ow := (.two (.own .a) o33)
@[reducible] noncomputable def o35 : Ow := (.two (.own .a) o0)
@[reducible] noncomputable def o36 : Ow := (.two (.own .a) o35)
@[reducible] noncomputable def o37 : Ow := (.two (.own .a) o36)
@[reducible] noncomputable def o38 : Ow := (.two (.own .z) (.two o13 o37))
@[reducible] noncomputable def o39 : Ow := (.two (.own o3) o38)
@[reducible] noncomputable def o40 : Ow := (.two (.own o15) o36)
@[reducible] noncomputable def o41 : Ow := (.two (.own .z) (.two o13 o40))
@[reducible] noncomputable def o42 : Ow := (.two (.own o3) o41)
@[reducible] noncomputable def o43 : Ow := (.two (.own o20) o35)
@[reducible] noncomputable def o44 : Ow := (.two (.own o15) o43)
@[reducible] noncomputable def o45 : Ow := (.two (.own .z) (.two o13 o44))
@[reducible] noncomputable def o46 : Ow := (.two (.own o3) o45)
@[reducible] noncomputable def o47 : Ow := (.two (.own .z) o1)
noncomputable def r0 : Raw := ⟨4, Tryz.f4, ⟨[.fz (.sl (.int .u8))], [.v .bool .z], []⟩, [], [], [], [], fun k x => laws_big.f x.1, []⟩
theorem t0 : r0.Ok := ⟨Tryz.func4, by kernel_rfl, nil, fun k x => by kernel_rfl⟩
noncomputable def q0 := t0.q
noncomputable def r1 : Raw := ⟨16, Tryz.f16, ⟨[.fz (.sl (.int .u8))], [.p tl1Cur .z], []⟩, [], [28, 29], [], [], fun k x => spec_l1New.f k x.1, [⟨7, [sv 0 (.sl (.int .u8)) .z, sv 12 tI .z, sv 16 tI .z], fun k x => spec_l1New.p7 k x.1 x.2.1 x.2.2.1⟩]⟩
theorem t1 : r1.Ok := ⟨Tryz.func16, by kernel_rfl, cons ⟨fun _ => rfl, fun x k => by kernel_rfl⟩ nil, fun k x => by kernel_rfl⟩
noncomputable def q1 := t1.q
noncomputable def r2 : Raw := ⟨38, Tryz.f38, ⟨[.fz (.sl (.int .u8)), .fz tI, .fz tI], [.v tI .z], []⟩, [], [], [], [], fun k x => spec_l1Long.f x.1 x.2.1 x.2.2.1, []⟩
theorem t2 : r2.Ok := ⟨Tryz.func38, by kernel_rfl, nil, fun k x => by kernel_rfl⟩
noncomputable def q2 := t2.q
noncomputable def r3 : Raw := ⟨76, Tryz.f76, ⟨[.ptr tl1Cur .z .z], [.v tI .z], []⟩, [], [], [], [], fun k x => spec_l1Byte.f x.1, []⟩
theorem t3 : r3.Ok := ⟨Tryz.func76, by kernel_rfl, nil, fun k x => by kernel_rfl⟩
noncomputable def q3 := t3.q
noncomputable def r4 : Raw := ⟨34, Tryz.f34, ⟨[.ptr tl1Cur .z .z, .fz tI], [.v tI .z], []⟩, [q3], [], [], [], fun k x => spec_l1Below.f x.1 x.2.1, []⟩
theorem t4 : r4.Ok := ⟨Tryz.func34, by kernel_rfl, nil, fun k x => by kernel_rfl⟩
noncomputable def q4 := t4.q
noncomputable def r5 : Raw := ⟨33, Tryz.f33, ⟨[.ptr tl1Cur .z .z, .fz tI], [.v .bool .z], []⟩, [q4], [], [], [], fun k x => spec_l1Once.f x.1 x.2.1, []⟩
theorem t5 : r5.Ok := ⟨Tryz.func33, by kernel_rfl, nil, fun k x => by kernel_rfl⟩
noncomputable def q5 := t5.q
noncomputable def r6 : Raw := ⟨77, Tryz.f77, ⟨[.ptr tl1Cur .z .z], [.v tConfig o0], []⟩, [q4, q5], [], [], [], fun k x => spec_l4DrawRight.f k x.1, [⟨9, [sr 0 36001 tl1Cur, sr 8 9 tConfig, sr 12 13 tConfig, sv 16 tI .z, sv 20 tI .z, sv 9 tConfig o1, sv 13 tConfig o0, sv 36001 tl1Cur .z], fun k x => spec_l4DrawRight.p9 k x.1 x.2.1 x.2.2.1 x.2.2.2.1 x.2.2.2.2.1⟩]⟩
theorem t6 : r6.Ok := ⟨Tryz.func77, by kernel_rfl, cons ⟨fun _ => rfl, fun x k => by kernel_rfl⟩ nil, fun k x => by kernel_rfl⟩
noncomputable def q6 := t6.q
noncomputable def r7 : Raw := ⟨69, Tryz.f69, ⟨[.fz tI, .fz tI, .fz tI], [.v .bool .z], []⟩, [], [], [], [], fun k x => spec_l1In.f x.1 x.2.1 x.2.2.1, []⟩
theorem t7 : r7.Ok := ⟨Tryz.func69, by kernel_rfl, nil, fun k x => by kernel_rfl⟩
noncomputable def q7 := t7.q
noncomputable def r8 : Raw := ⟨59, Tryz.f59, ⟨[.fz tConfig], [.v .bool .z], []⟩, [q7], [], [], [], fun k x => spec_ConfigOk.f k x.1, [⟨9, [sr 4 5 tConfig, sv 12 tI .z, sv 5 tConfig .z], fun k x => spec_ConfigOk.p9 k x.1 x.2.1⟩]⟩
theorem t8 : r8.Ok := ⟨Tryz.func59, by kernel_rfl, cons ⟨fun _ => rfl, fun x k => by kernel_rfl⟩ nil, fun k x => by kernel_rfl⟩
noncomputable def q8 := t8.q
noncomputable def r9 : Raw := ⟨99, Tryz.f99, ⟨[.fz tN, .fz tI, .fz tI], [.v .bool .z], []⟩, [q7], [], [], [], fun k x => spec_l4Asc.f k x.1 x.2.1 x.2.2.1, [⟨5, [sv 0 tN .z, sv 4 tI .z, sv 8 tI .z, sv 28 tI .z], fun k x => spec_l4Asc.p5 k x.1 x.2.1 x.2.2.1 x.2.2.2.1⟩]⟩
theorem t9 : r9.Ok := ⟨Tryz.func99, by kernel_rfl, cons ⟨fun _ => rfl, fun x k => by kernel_rfl⟩ nil, fun k x => by kernel_rfl⟩
noncomputable def q9 := t9.q
noncomputable def r10 : Raw := ⟨60, Tryz.f60, ⟨[.fz tConfig, .fz tN], [.v .bool .z], []⟩, [q8, q9], [], [], [], fun k x => spec_NodesOk.f k x.1 x.2.1, []⟩
theorem t10 : r10.Ok := ⟨Tryz.func60, by kernel_rfl, nil, fun k x => by kernel_rfl⟩
noncomputable def q10 := t10.q
noncomputable def r11 : Raw := ⟨100, Tryz.f100, ⟨[.fz tConfig, .fz tN], [.v tI .z], []⟩, [], [23], [], [], fun k x => spec_l4Span.f k x.1 x.2.1, [⟨9, [sv 4 tN .z, sr 8 9 tConfig, sv 20 (.sl .bool) (.own .z), sv 24 tI .z, sv 28 tI .z, sv 9 tConfig .z], fun k x => spec_l4Span.p9 k x.1 x.2.1 x.2.2.1 x.2.2.2.1 x.2.2.2.2.1⟩]⟩
theorem t11 : r11.Ok := ⟨Tryz.func100, by kernel_rfl, cons ⟨fun _ => rfl, fun x k => by kernel_rfl⟩ nil, fun k x => by kernel_rfl⟩
noncomputable def q11 := t11.q
noncomputable def r12 : Raw := ⟨61, Tryz.f61, ⟨[.fz tConfig, .fz tN], [.v .bool .z], []⟩, [q10, q11], [], [], [], fun k x => spec_Holds.f k x.1 x.2.1, []⟩
theorem t12 : r12.Ok := ⟨Tryz.func61, by kernel_rfl, nil, fun k x => by kernel_rfl⟩
noncomputable def q12 := t12.q
noncomputable def r13 : Raw := ⟨106, Tryz.f106, ⟨[], [.v tReader o2], []⟩, [], [], [], [], fun k x => spec_ReaderNew.f, []⟩
theorem t13 : r13.Ok := ⟨Tryz.func106, by kernel_rfl, nil, fun k x => by kernel_rfl⟩
noncomputable def q13 := t13.q
noncomputable def r14 : Raw := ⟨78, Tryz.f78, ⟨[.fz tConfig], [.v tWorld (.two o0 o8), .v .bool .z], []⟩, [q8, q13], [16], [], [], fun k x => spec_WorldNew.f k x.1, []⟩
theorem t14 : r14.Ok := ⟨Tryz.func78, by kernel_rfl, nil, fun k x => by kernel_rfl⟩
noncomputable def q14 := t14.q
noncomputable def r15 : Raw := ⟨82, Tryz.f82, ⟨[.fz tI, .fz tI], [.v tI .z], []⟩, [], [], [], [], fun k x => spec_l1Max.f x.1 x.2.1, []⟩
theorem t15 : r15.Ok := ⟨Tryz.func82, by kernel_rfl, nil, fun k x => by kernel_rfl⟩
noncomputable def q15 := t15.q
noncomputable def r16 : Raw := ⟨63, Tryz.f63, ⟨[.fz tN, .fz tI], [.v .bool .z], []⟩, [], [], [], [], fun k x => spec_l4Has.f k x.1 x.2.1, [⟨5, [sv 0 tN .z, sv 4 tI .z, sv 20 tI .z], fun k x => spec_l4Has.p5 k x.1 x.2.1 x.2.2.1⟩]⟩
theorem t16 : r16.Ok := ⟨Tryz.func63, by kernel_rfl, cons ⟨fun _ => rfl, fun x k => by kernel_rfl⟩ nil, fun k x => by kernel_rfl⟩
noncomputable def q16 := t16.q
noncomputable def r17 : Raw := ⟨81, Tryz.f81, ⟨[.fz tN, .fz tI], [.v tN (.own .z)], []⟩, [q16], [36, 42], [], [], fun k x => spec_l4Put.f k x.1 x.2.1, [⟨9, [sv 0 tN .z, sv 4 tI .z, sv 20 tN (.own .z), sv 24 .bool .z, sv 28 tI .z], fun k x => spec_l4Put.p9 k x.1 x.2.1 x.2.2.1 x.2.2.2.1 x.2.2.2.2.1⟩]⟩
theorem t17 : r17.Ok := ⟨Tryz.func81, by kernel_rfl, cons ⟨fun _ => rfl, fun x k => by kernel_rfl⟩ nil, fun k x => by kernel_rfl⟩
noncomputable def q17 := t17.q
noncomputable def r18 : Raw := ⟨83, Tryz.f83, ⟨[.ptr tl1Cur .z .z, .fz tN], [.v tI .z], []⟩, [q4], [], [], [], fun k x => spec_l1PickInt.f x.1 x.2.1, []⟩
theorem t18 : r18.Ok := ⟨Tryz.func83, by kernel_rfl, nil, fun k x => by kernel_rfl⟩
noncomputable def q18 := t18.q
noncomputable def r19 : Raw := ⟨39, Tryz.f39, ⟨[.ptr tl1Cur .z .z, .fz tConfig], [.v tN (.own .z)], []⟩, [q4, q5, q15, q17, q18], [], [], [], fun k x => spec_l4DrawNodes.f k x.1 x.2.1, [⟨9, [sr 0 36001 tl1Cur, sr 12 13 tConfig, sv 20 tN (.own .z), sv 24 tI .z, sv 28 tI .z, sv 13 tConfig .z, sv 36001 tl1Cur .z], fun k x => spec_l4DrawNodes.p9 k x.1 x.2.1 x.2.2.1 x.2.2.2.1 x.2.2.2.2.1⟩]⟩
theorem t19 : r19.Ok := ⟨Tryz.func39, by kernel_rfl, cons ⟨fun _ => rfl, fun x k => by kernel_rfl⟩ nil, fun k x => by kernel_rfl⟩
noncomputable def q19 := t19.q
noncomputable def r20 : Raw := ⟨88, Tryz.f88, ⟨[.ptr tl1Cur .z .z, .fz tConfig], [.v tN (.own .z)], []⟩, [q12, q17, q19], [], [], [], fun k x => spec_l7DrawSet.f k x.1 x.2.1, [⟨7, [sr 0 36001 tl1Cur, sr 12 13 tConfig, sv 20 tN (.own .z), sv 24 tI .z, sv 13 tConfig .z, sv 36001 tl1Cur .z], fun k x => spec_l7DrawSet.p7 k x.1 x.2.1 x.2.2.1 x.2.2.2.1⟩]⟩
theorem t20 : r20.Ok := ⟨Tryz.func88, by kernel_rfl, cons ⟨fun _ => rfl, fun x k => by kernel_rfl⟩ nil, fun k x => by kernel_rfl⟩
noncomputable def q20 := t20.q
noncomputable def r21 : Raw := ⟨107, Tryz.f107, ⟨[.fz tN], [.v tI .z], []⟩, [q9], [], [], [], fun k x => spec_NodesMask.f k x.1, [⟨11, [sv 0 tN .z, sv 12 tI .z, sv 16 tI .z], fun k x => spec_NodesMask.p11 k x.1 x.2.1 x.2.2.1⟩]⟩
theorem t21 : r21.Ok := ⟨Tryz.func107, by kernel_rfl, cons ⟨fun _ => rfl, fun x k => by kernel_rfl⟩ nil, fun k x => by kernel_rfl⟩
noncomputable def q21 := t21.q
noncomputable def r22 : Raw := ⟨68, Tryz.f68, ⟨[.fz tRegister], [.v tI .z], []⟩, [], [], [], [], fun k x => spec_FirstOpen.f k x.1, [⟨5, [sr 4 5 tRegister, sv 12 tI .z, sv 5 tRegister .z], fun k x => spec_FirstOpen.p5 k x.1 x.2.1⟩]⟩
theorem t22 : r22.Ok := ⟨Tryz.func68, by kernel_rfl, cons ⟨fun _ => rfl, fun x k => by kernel_rfl⟩ nil, fun k x => by kernel_rfl⟩
noncomputable def q22 := t22.q
noncomputable def r23 : Raw := ⟨136, Tryz.f136, ⟨[.fz tRegister, .fz tI], [.v tN (.own .z)], []⟩, [q7], [19], [], [], fun k x => spec_EraNodes.f x.1 x.2.1, []⟩
theorem t23 : r23.Ok := ⟨Tryz.func136, by kernel_rfl, nil, fun k x => by kernel_rfl⟩
noncomputable def q23 := t23.q
noncomputable def r24 : Raw := ⟨121, Tryz.f121, ⟨[.ptr tl1Cur .z .z, .fz (.sl .str)], [.v .str .z], []⟩, [q4], [], [], [], fun k x => spec_l1Pick.f x.1 x.2.1, []⟩
theorem t24 : r24.Ok := ⟨Tryz.func121, by kernel_rfl, nil, fun k x => by kernel_rfl⟩
noncomputable def q24 := t24.q
noncomputable def r25 : Raw := ⟨137, Tryz.f137, ⟨[.fz tI, .fz tI], [.v tI .z], []⟩, [], [], [], [], fun k x => spec_l1Min.f x.1 x.2.1, []⟩
theorem t25 : r25.Ok := ⟨Tryz.func137, by kernel_rfl, nil, fun k x => by kernel_rfl⟩
noncomputable def q25 := t25.q
noncomputable def r26 : Raw := ⟨109, Tryz.f109, ⟨[.ptr tl1Cur .z .z, .mut tWorld (.two .z o12)], [.v tDeed .z], [13]⟩, [q4, q5, q23, q24, q25], [27, 39, 50, 58, 66, 67, 68], [4], [], fun k x => spec_l13DrawWrite.f k x.1 x.2.1, [⟨8, [sr 0 36001 tl1Cur, sr 12 13 tWorld, sr 16 17 tDeed, sv 20 tI .z, .v 13 tWorld (.two .z o12) [] 2, sv 17 tDeed .z, sv 36001 tl1Cur .z], fun k x => spec_l13DrawWrite.p8 k x.1 x.2.1 x.2.2.1 x.2.2.2.1⟩]⟩
theorem t26 : r26.Ok := ⟨Tryz.func109, by kernel_rfl, cons ⟨fun _ => rfl, fun x k => by kernel_rfl⟩ nil, fun k x => by kernel_rfl⟩
noncomputable def q26 := t26.q
noncomputable def r27 : Raw := ⟨108, Tryz.f108, ⟨[.ptr tl1Cur .z .z, .mut tWorld (.two .z o12)], [.v tDeed .z], [13]⟩, [q4, q5, q12, q15, q23], [18, 30, 44, 53, 85, 86], [14], [], fun k x => spec_l13DrawMend.f k x.1 x.2.1, [⟨28, [sr 0 36001 tl1Cur, sr 12 13 tWorld, sr 16 17 tDeed, sr 20 21 tMend, sv 28 tI .z, .v 13 tWorld (.two .z o12) [] 2, sv 17 tDeed .z, sv 21 tMend .z, sv 36001 tl1Cur .z], fun k x => spec_l13DrawMend.p28 k x.1 x.2.1 x.2.2.1 x.2.2.2.1 x.2.2.2.2.1⟩, ⟨33, [sr 0 36001 tl1Cur, sr 12 13 tWorld, sr 16 17 tDeed, sr 20 21 tMend, sv 28 tI .z, sv 32 tI .z, sv 36 tI .z, .v 13 tWorld (.two .z o12) [] 2, sv 17 tDeed .z, sv 21 tMend .z, sv 36001 tl1Cur .z], fun k x => spec_l13DrawMend.p33 k x.1 x.2.1 x.2.2.1 x.2.2.2.1 x.2.2.2.2.1 x.2.2.2.2.2.1 x.2.2.2.2.2.2.1⟩]⟩
theorem t27 : r27.Ok := ⟨Tryz.func108, by kernel_rfl, cons ⟨fun _ => rfl, fun x k => by kernel_rfl⟩ (cons ⟨fun _ => rfl, fun x k => by kernel_rfl⟩ nil), fun k x => by kernel_rfl⟩
noncomputable def q27 := t27.q
noncomputable def r28 : Raw := ⟨79, Tryz.f79, ⟨[.ptr tl1Cur .z .z, .mut tWorld (.two .z o12)], [.v tDeed .z], [13]⟩, [q4, q5, q20, q21, q22, q26, q27], [32, 46, 51, 80, 82, 96], [24, 27], [], fun k x => spec_l13DrawNext.f k x.1 x.2.1, [⟨48, [sr 0 36001 tl1Cur, sr 12 13 tWorld, sr 16 17 tDeed, sv 28 tI .z, .v 13 tWorld (.two .z o12) [] 2, sv 17 tDeed .z, sv 36001 tl1Cur .z], fun k x => spec_l13DrawNext.p48 k x.1 x.2.1 x.2.2.1 x.2.2.2.1⟩, ⟨54, [sr 0 36001 tl1Cur, sr 12 13 tWorld, sr 16 17 tDeed, .v 13 tWorld (.two .z o12) [] 2, sv 17 tDeed .z, sv 36001 tl1Cur .z], fun k x => spec_l13DrawNext.p54 k x.1 x.2.1 x.2.2.1⟩]⟩
theorem t28 : r28.Ok := ⟨Tryz.func79, by kernel_rfl, cons ⟨fun _ => rfl, fun x k => by kernel_rfl⟩ (cons ⟨fun _ => rfl, fun x k => by kernel_rfl⟩ nil), fun k x => by kernel_rfl⟩
noncomputable def q28 := t28.q
noncomputable def r29 : Raw := ⟨70, Tryz.f70, ⟨[.fz tI], [.v .bool .z], []⟩, [q7], [], [], [], fun k x => spec_PlaceOk.f x.1, []⟩
theorem t29 : r29.Ok := ⟨Tryz.func70, by kernel_rfl, nil, fun k x => by kernel_rfl⟩
noncomputable def q29 := t29.q
noncomputable def r30 : Raw := ⟨71, Tryz.f71, ⟨[.fz tI], [.v tI .z], []⟩, [q29], [], [], [], fun k x => spec_EpochOf.f x.1, []⟩
theorem t30 : r30.Ok := ⟨Tryz.func71, by kernel_rfl, nil, fun k x => by kernel_rfl⟩
noncomputable def q30 := t30.q
noncomputable def r31 : Raw := ⟨103, Tryz.f103, ⟨[.fz tEntry], [.v .bool .z], []⟩, [q7, q29, q30], [], [3], [], fun k x => spec_EntryOk.f k x.1, [⟨6, [sr 4 5 tEntry, sv 5 tEntry .z], fun k x => spec_EntryOk.p6 k x.1⟩]⟩
theorem t31 : r31.Ok := ⟨Tryz.func103, by kernel_rfl, cons ⟨fun _ => rfl, fun x k => by kernel_rfl⟩ nil, fun k x => by kernel_rfl⟩
noncomputable def q31 := t31.q
noncomputable def r32 : Raw := ⟨101, Tryz.f101, ⟨[.fz (.sl tEntry), .fz tI], [.v .bool .z], []⟩, [q31], [], [], [], fun k x => spec_l6List.f k x.1 x.2.1, [⟨9, [sv 0 (.sl tEntry) .z, sv 20 tI .z], fun k x => spec_l6List.p9 k x.1 x.2.1⟩]⟩
theorem t32 : r32.Ok := ⟨Tryz.func101, by kernel_rfl, cons ⟨fun _ => rfl, fun x k => by kernel_rfl⟩ nil, fun k x => by kernel_rfl⟩
noncomputable def q32 := t32.q
noncomputable def r33 : Raw := ⟨102, Tryz.f102, ⟨[.fz (.sl tEntry)], [.v .bool .z], []⟩, [], [], [], [], fun k x => spec_l6Asc.f k x.1, [⟨5, [sv 0 (.sl tEntry) .z, sv 12 tI .z], fun k x => spec_l6Asc.p5 k x.1 x.2.1⟩]⟩
theorem t33 : r33.Ok := ⟨Tryz.func102, by kernel_rfl, cons ⟨fun _ => rfl, fun x k => by kernel_rfl⟩ nil, fun k x => by kernel_rfl⟩
noncomputable def q33 := t33.q
noncomputable def r34 : Raw := ⟨62, Tryz.f62, ⟨[.fz tStore], [.v .bool .z], []⟩, [q7, q32, q33], [], [], [], fun k x => spec_StoreOk.f k x.1, []⟩
theorem t34 : r34.Ok := ⟨Tryz.func62, by kernel_rfl, nil, fun k x => by kernel_rfl⟩
noncomputable def q34 := t34.q
noncomputable def r35 : Raw := ⟨64, Tryz.f64, ⟨[.fz tStore], [.v .bool .z], []⟩, [], [], [], [], fun k x => spec_l12Zero.f x.1, []⟩
theorem t35 : r35.Ok := ⟨Tryz.func64, by kernel_rfl, nil, fun k x => by kernel_rfl⟩
noncomputable def q35 := t35.q
noncomputable def r36 : Raw := ⟨26, Tryz.f26, ⟨[.fz tWorld], [.v .bool .z], []⟩, [q8, q10, q12, q16, q34, q35], [], [3], [], fun k x => spec_l12Nodes.f k x.1, [⟨6, [sr 4 5 tWorld, sv 5 tWorld .z], fun k x => spec_l12Nodes.p6 k x.1⟩, ⟨9, [sr 4 5 tWorld, sv 12 tI .z, sv 5 tWorld .z], fun k x => spec_l12Nodes.p9 k x.1 x.2.1⟩]⟩
theorem t36 : r36.Ok := ⟨Tryz.func26, by kernel_rfl, cons ⟨fun _ => rfl, fun x k => by kernel_rfl⟩ (cons ⟨fun _ => rfl, fun x k => by kernel_rfl⟩ nil), fun k x => by kernel_rfl⟩
noncomputable def q36 := t36.q
noncomputable def r37 : Raw := ⟨65, Tryz.f65, ⟨[.fz tConfig, .fz tRegister], [.v .bool .z], []⟩, [q7, q8, q12, q29, q30], [45], [4, 10], [], fun k x => spec_RegOk.f k x.1 x.2.1, [⟨8, [sr 8 9 tConfig, sr 12 13 tRegister, sv 20 tI .z, sv 9 tConfig .z, sv 13 tRegister .z], fun k x => spec_RegOk.p8 k x.1 x.2.1 x.2.2.1⟩, ⟨11, [sr 8 9 tConfig, sr 12 13 tRegister, sv 20 tI .z, sv 24 tI .z, sv 9 tConfig .z, sv 13 tRegister .z], fun k x => spec_RegOk.p11 k x.1 x.2.1 x.2.2.1 x.2.2.2.1⟩, ⟨20, [sr 8 9 tConfig, sr 12 13 tRegister, sv 20 tI .z, sv 24 tI .z, sr 28 29 tEra, .r 208 29 [.snd, .snd, .fst] tI, sv 212 tI .z, sv 216 .bool .z, sv 220 .bool .z, .r 232 29 [.snd, .fst] .bool, sv 236 .bool .z, sv 240 .bool .z, sv 244 .bool .z, sv 260 .bool .z, sv 9 tConfig .z, sv 13 tRegister .z, sv 29 tEra .z], fun k x => spec_RegOk.p20 k x.1 x.2.1 x.2.2.1 x.2.2.2.1 x.2.2.2.2.1 x.2.2.2.2.2.1 x.2.2.2.2.2.2.1 x.2.2.2.2.2.2.2.1 x.2.2.2.2.2.2.2.2.1 x.2.2.2.2.2.2.2.2.2.1 x.2.2.2.2.2.2.2.2.2.2.1 x.2.2.2.2.2.2.2.2.2.2.2.1⟩]⟩
theorem t37 : r37.Ok := ⟨Tryz.func65, by kernel_rfl, cons ⟨fun _ => rfl, fun x k => by kernel_rfl⟩ (cons ⟨fun _ => rfl, fun x k => by kernel_rfl⟩ (cons ⟨fun _ => rfl, fun x k => by kernel_rfl⟩ nil)), fun k x => by kernel_rfl⟩
noncomputable def q37 := t37.q
noncomputable def r38 : Raw := ⟨66, Tryz.f66, ⟨[.fz tConfig, .fz tWriter], [.v .bool .z], []⟩, [q7, q8, q10, q12], [34], [], [4], fun k x => spec_WriterOk.f k x.1 x.2.1, [⟨11, [sr 8 9 tConfig, sr 12 13 tWriter, sv 20 tI .z, sv 24 tI .z, sv 9 tConfig .z, sv 13 tWriter .z], fun k x => spec_WriterOk.p11 k x.1 x.2.1 x.2.2.1 x.2.2.2.1⟩]⟩
theorem t38 : r38.Ok := ⟨Tryz.func66, by kernel_rfl, cons ⟨fun _ => rfl, fun x k => by kernel_rfl⟩ nil, fun k x => by kernel_rfl⟩
noncomputable def q38 := t38.q
noncomputable def r39 : Raw := ⟨135, Tryz.f135, ⟨[.fz tI], [.v tI .z], []⟩, [q29], [], [], [], fun k x => spec_OffOf.f x.1, []⟩
theorem t39 : r39.Ok := ⟨Tryz.func135, by kernel_rfl, nil, fun k x => by kernel_rfl⟩
noncomputable def q39 := t39.q
noncomputable def r40 : Raw := ⟨104, Tryz.f104, ⟨[.fz tMend], [.v tI .z], []⟩, [q39], [], [], [], fun k x => spec_l9Last.f x.1, []⟩
theorem t40 : r40.Ok := ⟨Tryz.func104, by kernel_rfl, nil, fun k x => by kernel_rfl⟩
noncomputable def q40 := t40.q
noncomputable def r41 : Raw := ⟨67, Tryz.f67, ⟨[.fz tConfig, .fz tMend], [.v .bool .z], []⟩, [q7, q8, q10, q30, q31, q33, q40], [], [], [], fun k x => spec_MendOk.f k x.1 x.2.1, [⟨9, [sr 8 9 tConfig, sr 12 13 tMend, sv 20 tI .z, sv 9 tConfig .z, sv 13 tMend .z], fun k x => spec_MendOk.p9 k x.1 x.2.1 x.2.2.1⟩, ⟨19, [sr 8 9 tConfig, sr 12 13 tMend, sv 24 tI .z, sv 9 tConfig .z, sv 13 tMend .z], fun k x => spec_MendOk.p19 k x.1 x.2.1 x.2.2.1⟩]⟩
theorem t41 : r41.Ok := ⟨Tryz.func67, by kernel_rfl, cons ⟨fun _ => rfl, fun x k => by kernel_rfl⟩ (cons ⟨fun _ => rfl, fun x k => by kernel_rfl⟩ nil), fun k x => by kernel_rfl⟩
noncomputable def q41 := t41.q
noncomputable def r42 : Raw := ⟨27, Tryz.f27, ⟨[.fz tWorld], [.v .bool .z], []⟩, [q22, q37, q38, q41], [86], [], [], fun k x => spec_l12Epochs.f k x.1, [⟨11, [sr 4 5 tWorld, sv 12 tI .z, sv 16 tI .z, sv 5 tWorld .z], fun k x => spec_l12Epochs.p11 k x.1 x.2.1 x.2.2.1⟩, ⟨21, [sr 4 5 tWorld, sv 12 tI .z, sv 20 tI .z, sv 5 tWorld .z], fun k x => spec_l12Epochs.p21 k x.1 x.2.1 x.2.2.1⟩]⟩
theorem t42 : r42.Ok := ⟨Tryz.func27, by kernel_rfl, cons ⟨fun _ => rfl, fun x k => by kernel_rfl⟩ (cons ⟨fun _ => rfl, fun x k => by kernel_rfl⟩ nil), fun k x => by kernel_rfl⟩
noncomputable def q42 := t42.q
noncomputable def r43 : Raw := ⟨28, Tryz.f28, ⟨[.fz tReader], [.v .bool .z], []⟩, [q7], [], [], [], fun k x => spec_ReaderOk.f x.1, []⟩
theorem t43 : r43.Ok := ⟨Tryz.func28, by kernel_rfl, nil, fun k x => by kernel_rfl⟩
noncomputable def q43 := t43.q
noncomputable def r44 : Raw := ⟨29, Tryz.f29, ⟨[.fz tWorld], [.v .bool .z], []⟩, [q29, q30], [20], [], [], fun k x => spec_l12Sent.f k x.1, [⟨9, [sr 4 5 tWorld, sv 12 tI .z, sv 5 tWorld .z], fun k x => spec_l12Sent.p9 k x.1 x.2.1⟩]⟩
theorem t44 : r44.Ok := ⟨Tryz.func29, by kernel_rfl, cons ⟨fun _ => rfl, fun x k => by kernel_rfl⟩ nil, fun k x => by kernel_rfl⟩
noncomputable def q44 := t44.q
noncomputable def r45 : Raw := ⟨8, Tryz.f8, ⟨[.fz tWorld], [.v .bool .z], []⟩, [q36, q42, q43, q44], [], [], [], fun k x => spec_WorldOk.f k x.1, []⟩
theorem t45 : r45.Ok := ⟨Tryz.func8, by kernel_rfl, nil, fun k x => by kernel_rfl⟩
noncomputable def q45 := t45.q
noncomputable def r46 : Raw := ⟨138, Tryz.f138, ⟨[.fz tDeed], [.v tDeed .z], []⟩, [], [19, 27, 38, 47, 55], [], [], fun k x => spec_l13Names.f x.1, []⟩
theorem t46 : r46.Ok := ⟨Tryz.func138, by kernel_rfl, nil, fun k x => by kernel_rfl⟩
noncomputable def q46 := t46.q
noncomputable def r47 : Raw := ⟨110, Tryz.f110, ⟨[.fz tDeed], [.v .bool .z], []⟩, [q7, q46], [], [], [111], fun k x => spec_DeedOk.f x.1, []⟩
theorem t47 : r47.Ok := ⟨Tryz.func110, by kernel_rfl, nil, fun k x => by kernel_rfl⟩
noncomputable def q47 := t47.q
noncomputable def r48 : Raw := ⟨153, Tryz.f153, ⟨[.fz tRegister], [.v tRegister o13], []⟩, [], [20, 28], [], [], fun k x => spec_l7Copy.f k x.1, [⟨7, [sr 4 5 tRegister, sr 8 9 tRegister, sr 12 13 tRegister, sv 16 tI .z, sv 5 tRegister .z, sv 9 tRegister o1, sv 13 tRegister o13], fun k x => spec_l7Copy.p7 k x.1 x.2.1 x.2.2.1 x.2.2.2.1⟩]⟩
theorem t48 : r48.Ok := ⟨Tryz.func153, by kernel_rfl, cons ⟨fun _ => rfl, fun x k => by kernel_rfl⟩ nil, fun k x => by kernel_rfl⟩
noncomputable def q48 := t48.q
noncomputable def r49 : Raw := ⟨154, Tryz.f154, ⟨[.fz tStore], [.v tStore o3], []⟩, [], [12], [], [], fun k x => spec_l6Copy.f x.1, []⟩
theorem t49 : r49.Ok := ⟨Tryz.func154, by kernel_rfl, nil, fun k x => by kernel_rfl⟩
noncomputable def q49 := t49.q
noncomputable def r50 : Raw := ⟨155, Tryz.f155, ⟨[.fz tWriter], [.v tWriter o15], []⟩, [], [20, 28], [], [], fun k x => spec_l8Copy.f k x.1, [⟨7, [sr 4 5 tWriter, sr 8 9 tWriter, sr 12 13 tWriter, sv 16 tI .z, sv 5 tWriter .z, sv 9 tWriter (.two .z o1), sv 13 tWriter o15], fun k x => spec_l8Copy.p7 k x.1 x.2.1 x.2.2.1 x.2.2.2.1⟩]⟩
theorem t50 : r50.Ok := ⟨Tryz.func155, by kernel_rfl, cons ⟨fun _ => rfl, fun x k => by kernel_rfl⟩ nil, fun k x => by kernel_rfl⟩
noncomputable def q50 := t50.q
noncomputable def r51 : Raw := ⟨156, Tryz.f156, ⟨[.fz tMend], [.v tMend o20], []⟩, [], [34], [], [], fun k x => spec_l9Copy.f k x.1, [⟨7, [sr 4 5 tMend, sr 8 9 tMend, sr 12 13 tMend, sv 16 tI .z, sv 5 tMend .z, sv 9 tMend o23, sv 13 tMend o20], fun k x => spec_l9Copy.p7 k x.1 x.2.1 x.2.2.1 x.2.2.2.1⟩]⟩
theorem t51 : r51.Ok := ⟨Tryz.func156, by kernel_rfl, cons ⟨fun _ => rfl, fun x k => by kernel_rfl⟩ nil, fun k x => by kernel_rfl⟩
noncomputable def q51 := t51.q
noncomputable def r52 : Raw := ⟨157, Tryz.f157, ⟨[.fz tReader], [.v tReader o24], []⟩, [], [], [], [], fun k x => spec_l10Copy.f x.1, []⟩
theorem t52 : r52.Ok := ⟨Tryz.func157, by kernel_rfl, nil, fun k x => by kernel_rfl⟩
noncomputable def q52 := t52.q
noncomputable def r53 : Raw := ⟨112, Tryz.f112, ⟨[.fz tWorld], [.v tWorld (.two o0 o29)], []⟩, [q48, q49, q50, q51, q52], [], [], [], fun k x => spec_l12Copy.f k x.1, [⟨7, [sr 4 5 tWorld, sr 8 9 tWorld, sr 12 13 tWorld, sv 16 tI .z, sv 5 tWorld .z, sv 9 tWorld (.two o1 o34), sv 13 tWorld (.two o0 o39)], fun k x => spec_l12Copy.p7 k x.1 x.2.1 x.2.2.1 x.2.2.2.1⟩, ⟨15, [sr 4 5 tWorld, sr 8 9 tWorld, sr 12 13 tWorld, sv 20 tI .z, sv 5 tWorld .z, sv 9 tWorld (.two o1 o34), sv 13 tWorld (.two o0 o42)], fun k x => spec_l12Copy.p15 k x.1 x.2.1 x.2.2.1 x.2.2.2.1⟩, ⟨23, [sr 4 5 tWorld, sr 8 9 tWorld, sr 12 13 tWorld, sv 24 tI .z, sv 5 tWorld .z, sv 9 tWorld (.two o1 o34), sv 13 tWorld (.two o0 o46)], fun k x => spec_l12Copy.p23 k x.1 x.2.1 x.2.2.1 x.2.2.2.1⟩, ⟨31, [sr 4 5 tWorld, sr 8 9 tWorld, sr 12 13 tWorld, sv 28 tI .z, sv 5 tWorld .z, sv 9 tWorld (.two o1 o34), sv 13 tWorld (.two o0 o29)], fun k x => spec_l12Copy.p31 k x.1 x.2.1 x.2.2.1 x.2.2.2.1⟩]⟩
theorem t53 : r53.Ok := ⟨Tryz.func112, by kernel_rfl, cons ⟨fun _ => rfl, fun x k => by kernel_rfl⟩ (cons ⟨fun _ => rfl, fun x k => by kernel_rfl⟩ (cons ⟨fun _ => rfl, fun x k => by kernel_rfl⟩ (cons ⟨fun _ => rfl, fun x k => by kernel_rfl⟩ nil))), fun k x => by kernel_rfl⟩
noncomputable def q53 := t53.q
noncomputable def r54 : Raw := ⟨165, Tryz.f165, ⟨[.fz tI], [.v tN (.own .z)], []⟩, [q7], [], [], [], fun k x => spec_MaskNodes.f k x.1, [⟨7, [sv 0 tI .z, sv 12 tN (.own .z), sv 16 tI .z], fun k x => spec_MaskNodes.p7 k x.1 x.2.1 x.2.2.1⟩]⟩
theorem t54 : r54.Ok := ⟨Tryz.func165, by kernel_rfl, cons ⟨fun _ => rfl, fun x k => by kernel_rfl⟩ nil, fun k x => by kernel_rfl⟩
noncomputable def q54 := t54.q
noncomputable def r55 : Raw := ⟨117, Tryz.f117, ⟨[.fz tConfig, .fz tRegister, .fz tN], [.v tRegister o13, .v tI .z, .v .bool .z], []⟩, [q12, q37, q48], [31], [], [], fun k x => spec_RegOpen.f k x.1 x.2.1 x.2.2.1, []⟩
theorem t55 : r55.Ok := ⟨Tryz.func117, by kernel_rfl, nil, fun k x => by kernel_rfl⟩
noncomputable def q55 := t55.q
noncomputable def r56 : Raw := ⟨139, Tryz.f139, ⟨[.own tWorld (.two o0 o12), .fz tDeed], [.v tWorld (.two o0 o12), .v tI .z], []⟩, [q54, q55], [29, 33], [], [], fun k x => spec_l13Open.f k x.1 x.2.1, []⟩
theorem t56 : r56.Ok := ⟨Tryz.func139, by kernel_rfl, nil, fun k x => by kernel_rfl⟩
noncomputable def q56 := t56.q
noncomputable def r57 : Raw := ⟨166, Tryz.f166, ⟨[.fz tWorld, .fz tI], [.v .bool .z], []⟩, [q7], [], [], [], fun k x => spec_l13Writer.f x.1 x.2.1, []⟩
theorem t57 : r57.Ok := ⟨Tryz.func166, by kernel_rfl, nil, fun k x => by kernel_rfl⟩
noncomputable def q57 := t57.q
noncomputable def r58 : Raw := ⟨120, Tryz.f120, ⟨[.fz tConfig, .fz tWriter, .fz .str], [.v tWriter o15, .v tI .z, .v .bool .z], []⟩, [q38, q50], [19], [], [], fun k x => spec_WriterAdd.f k x.1 x.2.1 x.2.2.1, []⟩
theorem t58 : r58.Ok := ⟨Tryz.func120, by kernel_rfl, nil, fun k x => by kernel_rfl⟩
noncomputable def q58 := t58.q
noncomputable def r59 : Raw := ⟨86, Tryz.f86, ⟨[.fz tI, .fz tI], [.v tI .z], []⟩, [], [], [], [], fun k x => spec_l1Place.f x.1 x.2.1, []⟩
theorem t59 : r59.Ok := ⟨Tryz.func86, by kernel_rfl, nil, fun k x => by kernel_rfl⟩
noncomputable def q59 := t59.q
noncomputable def r60 : Raw := ⟨140, Tryz.f140, ⟨[.own tWorld (.two o0 o12), .fz tDeed], [.v tWorld (.two o0 o12), .v tI .z], []⟩, [q57, q58, q59], [55, 104, 110, 113], [], [], fun k x => spec_l13Add.f k x.1 x.2.1, [⟨19, [sr 8 9 tWorld, sr 16 17 tWorld, sr 36 37 tSent, sv 40 tI .z, sv 9 tWorld (.two o0 o12), sv 17 tWorld (.two o1 o34), sv 37 tSent .z], fun k x => spec_l13Add.p19 k x.1 x.2.1 x.2.2.1 x.2.2.2.1⟩, ⟨33, [sr 8 9 tWorld, sr 16 17 tWorld, sr 36 37 tSent, sv 44 (.sl tSent) (.own .z), sv 48 .bool .z, sv 52 tI .z, sv 9 tWorld (.two o0 o12), sv 17 tWorld (.two o1 o34), sv 37 tSent .z], fun k x => spec_l13Add.p33 k x.1 x.2.1 x.2.2.1 x.2.2.2.1 x.2.2.2.2.1 x.2.2.2.2.2.1⟩]⟩
theorem t60 : r60.Ok := ⟨Tryz.func140, by kernel_rfl, cons ⟨fun _ => rfl, fun x k => by kernel_rfl⟩ (cons ⟨fun _ => rfl, fun x k => by kernel_rfl⟩ nil), fun k x => by kernel_rfl⟩
noncomputable def q60 := t60.q
noncomputable def r61 : Raw := ⟨167, Tryz.f167, ⟨[.fz tWorld, .fz tI], [.v tI .z], []⟩, [q7, q16], [], [], [], fun k x => spec_l13Node.f k x.1 x.2.1, []⟩
theorem t61 : r61.Ok := ⟨Tryz.func167, by kernel_rfl, nil, fun k x => by kernel_rfl⟩
noncomputable def q61 := t61.q
noncomputable def r62 : Raw := ⟨158, Tryz.f158, ⟨[.fz tStore, .fz tEntry], [.v .bool .z], []⟩, [q30], [], [], [], fun k x => spec_l6Takes.f x.1 x.2.1, []⟩
theorem t62 : r62.Ok := ⟨Tryz.func158, by kernel_rfl, nil, fun k x => by kernel_rfl⟩
noncomputable def q62 := t62.q
noncomputable def r63 : Raw := ⟨113, Tryz.f113, ⟨[.fz tStore, .fz tEntry], [.v tStore o3, .v .bool .z], []⟩, [q31, q34, q49, q62], [31], [], [], fun k x => spec_StorePut.f k x.1 x.2.1, []⟩
theorem t63 : r63.Ok := ⟨Tryz.func113, by kernel_rfl, nil, fun k x => by kernel_rfl⟩
noncomputable def q63 := t63.q
noncomputable def r64 : Raw := ⟨141, Tryz.f141, ⟨[.own tWorld (.two o0 o12), .fz tDeed], [.v tWorld (.two o0 o12), .v tI .z], []⟩, [q7, q16, q23, q57, q59, q61, q63], [21, 67, 79], [], [], fun k x => spec_l13Store.f k x.1 x.2.1, []⟩
theorem t64 : r64.Ok := ⟨Tryz.func141, by kernel_rfl, nil, fun k x => by kernel_rfl⟩
noncomputable def q64 := t64.q
noncomputable def r65 : Raw := ⟨178, Tryz.f178, ⟨[.fz tEntry, .fz tEntry], [.v tEntry .z], []⟩, [], [], [], [], fun k x => spec_Better.f x.1 x.2.1, []⟩
theorem t65 : r65.Ok := ⟨Tryz.func178, by kernel_rfl, nil, fun k x => by kernel_rfl⟩
noncomputable def q65 := t65.q
noncomputable def r66 : Raw := ⟨160, Tryz.f160, ⟨[.fz (.sl tEntry), .fz tEntry], [.v (.sl tEntry) (.own .z)], []⟩, [q65], [56, 62], [9], [], fun k x => spec_l6Keep.f k x.1 x.2.1, [⟨9, [sv 0 (.sl tEntry) .z, sr 12 13 tEntry, sv 20 (.sl tEntry) (.own .z), sv 24 .bool .z, sv 28 tI .z, sv 13 tEntry .z], fun k x => spec_l6Keep.p9 k x.1 x.2.1 x.2.2.1 x.2.2.2.1 x.2.2.2.2.1⟩, ⟨18, [sv 0 (.sl tEntry) .z, sr 12 13 tEntry, sv 20 (.sl tEntry) (.own .z), sv 24 .bool .z, sv 28 tI .z, sv 13 tEntry .z], fun k x => spec_l6Keep.p18 k x.1 x.2.1 x.2.2.1 x.2.2.2.1 x.2.2.2.2.1⟩]⟩
theorem t66 : r66.Ok := ⟨Tryz.func160, by kernel_rfl, cons ⟨fun _ => rfl, fun x k => by kernel_rfl⟩ (cons ⟨fun _ => rfl, fun x k => by kernel_rfl⟩ nil), fun k x => by kernel_rfl⟩
noncomputable def q66 := t66.q
noncomputable def r67 : Raw := ⟨159, Tryz.f159, ⟨[.fz tStore, .fz tI], [.v tStore o3, .v .bool .z], []⟩, [q7, q34, q49, q66], [], [], [], fun k x => spec_StoreCrash.f k x.1 x.2.1, [⟨11, [sv 4 tI .z, sr 8 9 tStore, sr 16 17 tStore, sr 24 25 tStore, sv 28 tI .z, sv 9 tStore .z, sv 17 tStore o30, sv 25 tStore o47], fun k x => spec_StoreCrash.p11 k x.1 x.2.1 x.2.2.1 x.2.2.2.1 x.2.2.2.2.1⟩]⟩
theorem t67 : r67.Ok := ⟨Tryz.func159, by kernel_rfl, cons ⟨fun _ => rfl, fun x k => by kernel_rfl⟩ nil, fun k x => by kernel_rfl⟩
noncomputable def q67 := t67.q
noncomputable def r68 : Raw := ⟨115, Tryz.f115, ⟨[.fz tStore], [.v tStore o3, .v .bool .z], []⟩, [q67], [], [], [], fun k x => spec_StoreSync.f k x.1, []⟩
theorem t68 : r68.Ok := ⟨Tryz.func115, by kernel_rfl, nil, fun k x => by kernel_rfl⟩
noncomputable def q68 := t68.q
noncomputable def r69 : Raw := ⟨30, Tryz.f30, ⟨[.fz (.sl tEntry), .fz tI], [.v tEntry .z, .v .bool .z], []⟩, [], [], [], [], fun k x => spec_l6Get.f k x.1 x.2.1, [⟨5, [sv 0 (.sl tEntry) .z, sv 4 tI .z, sr 16 17 tEntry, sv 24 tI .z, sv 17 tEntry .z], fun k x => spec_l6Get.p5 k x.1 x.2.1 x.2.2.1 x.2.2.2.1⟩]⟩
theorem t69 : r69.Ok := ⟨Tryz.func30, by kernel_rfl, cons ⟨fun _ => rfl, fun x k => by kernel_rfl⟩ nil, fun k x => by kernel_rfl⟩
noncomputable def q69 := t69.q
noncomputable def r70 : Raw := ⟨122, Tryz.f122, ⟨[.fz tConfig, .fz tWriter, .fz tI, .fz tI], [.v tWriter o15, .v .bool .z], []⟩, [q7, q12, q17, q38, q50], [], [], [], fun k x => spec_WriterAck.f k x.1 x.2.1 x.2.2.1 x.2.2.2.1, []⟩
theorem t70 : r70.Ok := ⟨Tryz.func122, by kernel_rfl, nil, fun k x => by kernel_rfl⟩
noncomputable def q70 := t70.q
noncomputable def r71 : Raw := ⟨181, Tryz.f181, ⟨[.fz tI, .fz tI], [.v tI .z, .v .bool .z], []⟩, [q7], [], [], [], fun k x => spec_PlaceMake.f x.1 x.2.1, []⟩
theorem t71 : r71.Ok := ⟨Tryz.func181, by kernel_rfl, nil, fun k x => by kernel_rfl⟩
noncomputable def q71 := t71.q
noncomputable def r72 : Raw := ⟨173, Tryz.f173, ⟨[.fz tMend, .fz tI], [.v tEntry .z, .v .bool .z], []⟩, [q69, q71], [33, 50], [], [], fun k x => spec_MendEntry.f k x.1 x.2.1, []⟩
theorem t72 : r72.Ok := ⟨Tryz.func173, by kernel_rfl, nil, fun k x => by kernel_rfl⟩
noncomputable def q72 := t72.q
noncomputable def r73 : Raw := ⟨128, Tryz.f128, ⟨[.fz tConfig, .fz tMend, .fz tI, .fz tI], [.v tMend o20, .v .bool .z], []⟩, [q7, q17, q41, q51], [], [], [], fun k x => spec_MendAck.f k x.1 x.2.1 x.2.2.1 x.2.2.2.1, []⟩
theorem t73 : r73.Ok := ⟨Tryz.func128, by kernel_rfl, nil, fun k x => by kernel_rfl⟩
noncomputable def q73 := t73.q
noncomputable def r74 : Raw := ⟨168, Tryz.f168, ⟨[.own tWorld (.two o0 o12), .fz tI], [.v tWorld (.two o0 o12)], []⟩, [q16, q23, q30, q39, q59, q69, q70, q72, q73], [24, 36, 111, 151], [], [43], fun k x => spec_l13Tell.f k x.1 x.2.1, [⟨7, [sv 4 tI .z, sr 8 9 tWorld, sr 16 17 tWorld, sr 20 21 tStore, sv 24 tI .z, sv 9 tWorld (.two o0 o12), sv 17 tWorld (.two o1 o34), sv 21 tStore .z], fun k x => spec_l13Tell.p7 k x.1 x.2.1 x.2.2.1 x.2.2.2.1 x.2.2.2.2.1⟩, ⟨17, [sv 4 tI .z, sr 8 9 tWorld, sr 16 17 tWorld, sr 20 21 tStore, sv 24 tI .z, sr 28 29 tWriter, sv 32 tI .z, .r 184 21 [.snd, .snd, .fst] tI, sv 188 tI .z, .r 192 29 [.fst] tI, sv 196 tI .z, sv 200 .bool .z, sv 9 tWorld (.two o0 o12), sv 17 tWorld (.two o1 o34), sv 21 tStore .z, sv 29 tWriter .z], fun k x => spec_l13Tell.p17 k x.1 x.2.1 x.2.2.1 x.2.2.2.1 x.2.2.2.2.1 x.2.2.2.2.2.1 x.2.2.2.2.2.2.1 x.2.2.2.2.2.2.2.1 x.2.2.2.2.2.2.2.2.1 x.2.2.2.2.2.2.2.2.2.1⟩, ⟨31, [sv 4 tI .z, sr 8 9 tWorld, sr 16 17 tWorld, sr 20 21 tStore, sv 24 tI .z, sr 28 29 tWriter, sv 44 tI .z, .r 184 21 [.snd, .snd, .fst] tI, sv 188 tI .z, .r 192 29 [.fst] tI, sv 196 tI .z, sv 200 .bool .z, sv 9 tWorld (.two o0 o12), sv 17 tWorld (.two o1 o34), sv 21 tStore .z, sv 29 tWriter .z], fun k x => spec_l13Tell.p31 k x.1 x.2.1 x.2.2.1 x.2.2.2.1 x.2.2.2.2.1 x.2.2.2.2.2.1 x.2.2.2.2.2.2.1 x.2.2.2.2.2.2.2.1 x.2.2.2.2.2.2.2.2.1 x.2.2.2.2.2.2.2.2.2.1⟩, ⟨43, [sv 4 tI .z, sr 8 9 tWorld, sr 16 17 tWorld, sr 20 21 tStore, sv 52 tI .z, sv 9 tWorld (.two o0 o12), sv 17 tWorld (.two o1 o34), sv 21 tStore .z], fun k x => spec_l13Tell.p43 k x.1 x.2.1 x.2.2.1 x.2.2.2.1 x.2.2.2.2.1⟩, ⟨51, [sv 4 tI .z, sr 8 9 tWorld, sr 16 17 tWorld, sr 20 21 tStore, sv 52 tI .z, sr 56 57 tMend, sv 60 tI .z, sv 9 tWorld (.two o0 o12), sv 17 tWorld (.two o1 o34), sv 21 tStore .z, sv 57 tMend .z], fun k x => spec_l13Tell.p51 k x.1 x.2.1 x.2.2.1 x.2.2.2.1 x.2.2.2.2.1 x.2.2.2.2.2.1 x.2.2.2.2.2.2.1⟩]⟩
theorem t74 : r74.Ok := ⟨Tryz.func168, by kernel_rfl, cons ⟨fun _ => rfl, fun x k => by kernel_rfl⟩ (cons ⟨fun _ => rfl, fun x k => by kernel_rfl⟩ (cons ⟨fun _ => rfl, fun x k => by kernel_rfl⟩ (cons ⟨fun _ => rfl, fun x k => by kernel_rfl⟩ (cons ⟨fun _ => rfl, fun x k => by kernel_rfl⟩ nil)))), fun k x => by kernel_rfl⟩
noncomputable def q74 := t74.q
noncomputable def r75 : Raw := ⟨142, Tryz.f142, ⟨[.own tWorld (.two o0 o12), .fz tDeed], [.v tWorld (.two o0 o12), .v tI .z], []⟩, [q61, q68, q74], [34], [], [], fun k x => spec_l13Sync.f k x.1 x.2.1, []⟩
theorem t75 : r75.Ok := ⟨Tryz.func142, by kernel_rfl, nil, fun k x => by kernel_rfl⟩
noncomputable def q75 := t75.q
noncomputable def r76 : Raw := ⟨172, Tryz.f172, ⟨[.fz tN, .fz tN], [.v tN (.own .z)], []⟩, [q16], [25], [], [], fun k x => spec_l4Less.f k x.1 x.2.1, [⟨7, [sv 0 tN .z, sv 4 tN .z, sv 20 tN (.own .z), sv 24 tI .z], fun k x => spec_l4Less.p7 k x.1 x.2.1 x.2.2.1 x.2.2.2.1⟩]⟩
theorem t76 : r76.Ok := ⟨Tryz.func172, by kernel_rfl, cons ⟨fun _ => rfl, fun x k => by kernel_rfl⟩ nil, fun k x => by kernel_rfl⟩
noncomputable def q76 := t76.q
noncomputable def r77 : Raw := ⟨169, Tryz.f169, ⟨[.fz tConfig, .fz tWriter, .fz tI], [.v tWriter o15, .v .bool .z], []⟩, [q38, q50, q76], [], [], [], fun k x => spec_WriterForget.f k x.1 x.2.1 x.2.2.1, [⟨11, [sv 8 tI .z, sr 24 25 tWriter, sr 32 33 tWriter, sv 36 tI .z, sv 25 tWriter (.two .z o1), sv 33 tWriter o15], fun k x => spec_WriterForget.p11 k x.1 x.2.1 x.2.2.1 x.2.2.2.1⟩]⟩
theorem t77 : r77.Ok := ⟨Tryz.func169, by kernel_rfl, cons ⟨fun _ => rfl, fun x k => by kernel_rfl⟩ nil, fun k x => by kernel_rfl⟩
noncomputable def q77 := t77.q
noncomputable def r78 : Raw := ⟨170, Tryz.f170, ⟨[.fz tConfig, .fz tMend, .fz tI], [.v tMend o20, .v .bool .z], []⟩, [q41, q51, q76], [], [], [], fun k x => spec_MendForget.f k x.1 x.2.1 x.2.2.1, [⟨11, [sv 8 tI .z, sr 24 25 tMend, sr 32 33 tMend, sv 36 tI .z, sv 25 tMend o23, sv 33 tMend o20], fun k x => spec_MendForget.p11 k x.1 x.2.1 x.2.2.1 x.2.2.2.1⟩]⟩
theorem t78 : r78.Ok := ⟨Tryz.func170, by kernel_rfl, cons ⟨fun _ => rfl, fun x k => by kernel_rfl⟩ nil, fun k x => by kernel_rfl⟩
noncomputable def q78 := t78.q
noncomputable def r79 : Raw := ⟨143, Tryz.f143, ⟨[.own tWorld (.two o0 o12), .fz tDeed], [.v tWorld (.two o0 o12), .v tI .z], []⟩, [q12, q17, q61, q77, q78], [], [], [], fun k x => spec_l13Lose.f k x.1 x.2.1, [⟨15, [sr 8 9 tWorld, sr 12 13 tDeed, sr 16 17 tWorld, sv 28 tI .z, sv 9 tWorld (.two o0 o12), sv 13 tDeed .z, sv 17 tWorld (.two o1 o34)], fun k x => spec_l13Lose.p15 k x.1 x.2.1 x.2.2.1 x.2.2.2.1⟩, ⟨23, [sr 8 9 tWorld, sr 12 13 tDeed, sr 16 17 tWorld, sv 32 tI .z, sv 9 tWorld (.two o0 o12), sv 13 tDeed .z, sv 17 tWorld (.two o1 o34)], fun k x => spec_l13Lose.p23 k x.1 x.2.1 x.2.2.1 x.2.2.2.1⟩]⟩
theorem t79 : r79.Ok := ⟨Tryz.func143, by kernel_rfl, cons ⟨fun _ => rfl, fun x k => by kernel_rfl⟩ (cons ⟨fun _ => rfl, fun x k => by kernel_rfl⟩ nil), fun k x => by kernel_rfl⟩
noncomputable def q79 := t79.q
noncomputable def r80 : Raw := ⟨179, Tryz.f179, ⟨[.fz tConfig, .fz tN], [.v .bool .z], []⟩, [q10, q12], [], [], [], fun k x => spec_LostOk.f k x.1 x.2.1, []⟩
theorem t80 : r80.Ok := ⟨Tryz.func179, by kernel_rfl, nil, fun k x => by kernel_rfl⟩
noncomputable def q80 := t80.q
noncomputable def r81 : Raw := ⟨180, Tryz.f180, ⟨[.fz (.sl tStore)], [.v (.sl tEntry) (.own .z)], []⟩, [q66], [], [], [], fun k x => spec_l11Union.f k x.1, [⟨7, [sv 0 (.sl tStore) .z, sv 12 (.sl tEntry) (.own .z), sv 16 tI .z], fun k x => spec_l11Union.p7 k x.1 x.2.1 x.2.2.1⟩, ⟨13, [sv 0 (.sl tStore) .z, sv 12 (.sl tEntry) (.own .z), sv 16 tI .z, sv 20 tI .z], fun k x => spec_l11Union.p13 k x.1 x.2.1 x.2.2.1 x.2.2.2.1⟩]⟩
theorem t81 : r81.Ok := ⟨Tryz.func180, by kernel_rfl, cons ⟨fun _ => rfl, fun x k => by kernel_rfl⟩ (cons ⟨fun _ => rfl, fun x k => by kernel_rfl⟩ nil), fun k x => by kernel_rfl⟩
noncomputable def q81 := t81.q
noncomputable def r82 : Raw := ⟨171, Tryz.f171, ⟨[.fz tConfig, .fz (.sl tStore), .fz tN, .fz tI, .fz tI], [.v tStore o47, .v .bool .z], []⟩, [q8, q16, q34, q80, q81], [57, 75], [], [], fun k x => spec_Fill.f k x.1 x.2.1 x.2.2.1 x.2.2.2.1 x.2.2.2.2.1, [⟨13, [sv 4 (.sl tStore) .z, sv 8 tN .z, sv 16 tI .z, sr 40 41 tStore, sr 48 49 tStore, sv 52 (.sl tStore) (.own .z), sv 56 tI .z, sv 41 tStore o30, sv 49 tStore o30], fun k x => spec_Fill.p13 k x.1 x.2.1 x.2.2.1 x.2.2.2.1 x.2.2.2.2.1 x.2.2.2.2.2.1 x.2.2.2.2.2.2.1⟩, ⟨23, [sv 16 tI .z, sr 40 41 tStore, sr 48 49 tStore, sv 52 (.sl tStore) (.own .z), sv 60 tI .z, sv 41 tStore o30, sv 49 tStore o30], fun k x => spec_Fill.p23 k x.1 x.2.1 x.2.2.1 x.2.2.2.1 x.2.2.2.2.1⟩]⟩
theorem t82 : r82.Ok := ⟨Tryz.func171, by kernel_rfl, cons ⟨fun _ => rfl, fun x k => by kernel_rfl⟩ (cons ⟨fun _ => rfl, fun x k => by kernel_rfl⟩ nil), fun k x => by kernel_rfl⟩
noncomputable def q82 := t82.q
noncomputable def r83 : Raw := ⟨144, Tryz.f144, ⟨[.own tWorld (.two o0 o12), .fz tDeed], [.v tWorld (.two o0 o12), .v tI .z], []⟩, [q15, q16, q76, q82], [40, 45], [], [], fun k x => spec_l13Fill.f k x.1 x.2.1, []⟩
theorem t83 : r83.Ok := ⟨Tryz.func144, by kernel_rfl, nil, fun k x => by kernel_rfl⟩
noncomputable def q83 := t83.q
noncomputable def r84 : Raw := ⟨123, Tryz.f123, ⟨[.fz tI, .fz tI], [.v tMend o23], []⟩, [], [5, 6], [], [], fun k x => spec_MendNew.f x.1 x.2.1, []⟩
theorem t84 : r84.Ok := ⟨Tryz.func123, by kernel_rfl, nil, fun k x => by kernel_rfl⟩
noncomputable def q84 := t84.q
noncomputable def r85 : Raw := ⟨145, Tryz.f145, ⟨[.own tWorld (.two o0 o12)], [.v tWorld (.two o0 o12), .v tI .z], []⟩, [q22, q84], [], [], [], fun k x => spec_l13Mend.f k x.1, []⟩
theorem t85 : r85.Ok := ⟨Tryz.func145, by kernel_rfl, nil, fun k x => by kernel_rfl⟩
noncomputable def q85 := t85.q
noncomputable def r86 : Raw := ⟨116, Tryz.f116, ⟨[.fz tStore, .fz tI], [.v tStore o3, .v .bool .z], []⟩, [q7, q15, q34, q49, q68], [], [], [], fun k x => spec_StoreSeal.f k x.1 x.2.1, []⟩
theorem t86 : r86.Ok := ⟨Tryz.func116, by kernel_rfl, nil, fun k x => by kernel_rfl⟩
noncomputable def q86 := t86.q
noncomputable def r87 : Raw := ⟨125, Tryz.f125, ⟨[.fz tStore, .fz tI], [.v (.sl tEntry) (.own .z)], []⟩, [q30, q34], [33], [], [], fun k x => spec_StoreEra.f k x.1 x.2.1, [⟨7, [sv 4 tI .z, sr 8 9 tStore, sv 20 (.sl tEntry) (.own .z), sv 24 tI .z, sv 9 tStore .z], fun k x => spec_StoreEra.p7 k x.1 x.2.1 x.2.2.1 x.2.2.2.1⟩]⟩
theorem t87 : r87.Ok := ⟨Tryz.func125, by kernel_rfl, cons ⟨fun _ => rfl, fun x k => by kernel_rfl⟩ nil, fun k x => by kernel_rfl⟩
noncomputable def q87 := t87.q
noncomputable def r88 : Raw := ⟨124, Tryz.f124, ⟨[.fz tConfig, .fz tMend, .fz tI, .fz (.sl tEntry)], [.v tMend o20, .v .bool .z], []⟩, [q17, q30, q41, q51, q66], [], [], [], fun k x => spec_MendSeal.f k x.1 x.2.1 x.2.2.1 x.2.2.2.1, [⟨13, [sv 12 (.sl tEntry) .z, sr 16 17 tConfig, sr 20 21 tMend, sr 32 33 tMend, sr 40 41 tMend, sv 44 tI .z, sv 17 tConfig .z, sv 21 tMend .z, sv 33 tMend o23, sv 41 tMend o20], fun k x => spec_MendSeal.p13 k x.1 x.2.1 x.2.2.1 x.2.2.2.1 x.2.2.2.2.1 x.2.2.2.2.2.1⟩]⟩
theorem t88 : r88.Ok := ⟨Tryz.func124, by kernel_rfl, cons ⟨fun _ => rfl, fun x k => by kernel_rfl⟩ nil, fun k x => by kernel_rfl⟩
noncomputable def q88 := t88.q
noncomputable def r89 : Raw := ⟨146, Tryz.f146, ⟨[.own tWorld (.two o0 o12), .fz tDeed], [.v tWorld (.two o0 o12), .v tI .z], []⟩, [q16, q23, q61, q86, q87, q88], [20, 76, 80], [], [], fun k x => spec_l13Seal.f k x.1 x.2.1, []⟩
theorem t89 : r89.Ok := ⟨Tryz.func146, by kernel_rfl, nil, fun k x => by kernel_rfl⟩
noncomputable def q89 := t89.q
noncomputable def r90 : Raw := ⟨162, Tryz.f162, ⟨[.fz tN, .fz tN], [.v tN (.own .z)], []⟩, [q76], [], [], [], fun k x => spec_l9Both.f k x.1 x.2.1, []⟩
theorem t90 : r90.Ok := ⟨Tryz.func162, by kernel_rfl, nil, fun k x => by kernel_rfl⟩
noncomputable def q90 := t90.q
noncomputable def r91 : Raw := ⟨161, Tryz.f161, ⟨[.fz tConfig, .fz tN, .fz tN], [.v .bool .z], []⟩, [q10, q11, q12, q76], [], [], [], fun k x => spec_Enough.f k x.1 x.2.1 x.2.2.1, []⟩
theorem t91 : r91.Ok := ⟨Tryz.func161, by kernel_rfl, nil, fun k x => by kernel_rfl⟩
noncomputable def q91 := t91.q
noncomputable def r92 : Raw := ⟨126, Tryz.f126, ⟨[.fz tConfig, .fz tMend, .fz tN], [.v tMend o20, .v .bool .z], []⟩, [q40, q41, q51, q90, q91], [], [], [], fun k x => spec_MendPlan.f k x.1 x.2.1 x.2.2.1, [⟨17, [sr 16 17 tMend, sr 24 25 tMend, sr 32 33 tMend, sv 36 tI .z, sv 17 tMend .z, sv 25 tMend o23, sv 33 tMend o20], fun k x => spec_MendPlan.p17 k x.1 x.2.1 x.2.2.1 x.2.2.2.1⟩]⟩
theorem t92 : r92.Ok := ⟨Tryz.func126, by kernel_rfl, cons ⟨fun _ => rfl, fun x k => by kernel_rfl⟩ nil, fun k x => by kernel_rfl⟩
noncomputable def q92 := t92.q
noncomputable def r93 : Raw := ⟨147, Tryz.f147, ⟨[.own tWorld (.two o0 o12)], [.v tWorld (.two o0 o12), .v tI .z], []⟩, [q23, q92], [34], [], [], fun k x => spec_l13Plan.f k x.1, []⟩
theorem t93 : r93.Ok := ⟨Tryz.func147, by kernel_rfl, nil, fun k x => by kernel_rfl⟩
noncomputable def q93 := t93.q
noncomputable def r94 : Raw := ⟨148, Tryz.f148, ⟨[.own tWorld (.two o0 o12), .fz tDeed], [.v tWorld (.two o0 o12), .v tI .z], []⟩, [q16, q23, q61, q63, q72], [68], [], [], fun k x => spec_l13Fix.f k x.1 x.2.1, []⟩
theorem t94 : r94.Ok := ⟨Tryz.func148, by kernel_rfl, nil, fun k x => by kernel_rfl⟩
noncomputable def q94 := t94.q
noncomputable def r95 : Raw := ⟨174, Tryz.f174, ⟨[.fz tConfig, .fz tMend], [.v .bool .z], []⟩, [q12, q41], [], [], [], fun k x => spec_MendReady.f k x.1 x.2.1, [⟨9, [sr 8 9 tConfig, sr 12 13 tMend, sv 20 tI .z, sv 9 tConfig .z, sv 13 tMend .z], fun k x => spec_MendReady.p9 k x.1 x.2.1 x.2.2.1⟩]⟩
theorem t95 : r95.Ok := ⟨Tryz.func174, by kernel_rfl, cons ⟨fun _ => rfl, fun x k => by kernel_rfl⟩ nil, fun k x => by kernel_rfl⟩
noncomputable def q95 := t95.q
noncomputable def r96 : Raw := ⟨118, Tryz.f118, ⟨[.fz tConfig, .fz tRegister, .fz tI, .fz tI], [.v tRegister o13, .v .bool .z], []⟩, [q7, q22, q37, q48], [51], [], [], fun k x => spec_RegClose.f k x.1 x.2.1 x.2.2.1 x.2.2.2.1, []⟩
theorem t96 : r96.Ok := ⟨Tryz.func118, by kernel_rfl, nil, fun k x => by kernel_rfl⟩
noncomputable def q96 := t96.q
noncomputable def r97 : Raw := ⟨149, Tryz.f149, ⟨[.own tWorld (.two o0 o12)], [.v tWorld (.two o0 o12), .v tI .z], []⟩, [q95, q96], [44], [], [], fun k x => spec_l13Close.f k x.1, []⟩
theorem t97 : r97.Ok := ⟨Tryz.func149, by kernel_rfl, nil, fun k x => by kernel_rfl⟩
noncomputable def q97 := t97.q
noncomputable def r98 : Raw := ⟨119, Tryz.f119, ⟨[.fz tConfig, .fz tRegister, .fz tI], [.v tRegister o13, .v .bool .z], []⟩, [q15, q29, q30, q37, q48], [], [], [], fun k x => spec_RegTrim.f k x.1 x.2.1 x.2.2.1, []⟩
theorem t98 : r98.Ok := ⟨Tryz.func119, by kernel_rfl, nil, fun k x => by kernel_rfl⟩
noncomputable def q98 := t98.q
noncomputable def r99 : Raw := ⟨36, Tryz.f36, ⟨[.fz tWriter], [.v tI .z], []⟩, [], [], [], [], fun k x => spec_WriterSure.f k x.1, [⟨5, [sr 4 5 tWriter, sv 12 tI .z, sv 5 tWriter .z], fun k x => spec_WriterSure.p5 k x.1 x.2.1⟩]⟩
theorem t99 : r99.Ok := ⟨Tryz.func36, by kernel_rfl, cons ⟨fun _ => rfl, fun x k => by kernel_rfl⟩ nil, fun k x => by kernel_rfl⟩
noncomputable def q99 := t99.q
noncomputable def r100 : Raw := ⟨15, Tryz.f15, ⟨[.fz tWorld, .fz tI], [.v tI .z], []⟩, [q99], [], [], [], fun k x => spec_SureOf.f k x.1 x.2.1, [⟨5, [sv 4 tI .z, sr 8 9 tWorld, sv 20 tI .z, sv 9 tWorld .z], fun k x => spec_SureOf.p5 k x.1 x.2.1 x.2.2.1⟩]⟩
theorem t100 : r100.Ok := ⟨Tryz.func15, by kernel_rfl, cons ⟨fun _ => rfl, fun x k => by kernel_rfl⟩ nil, fun k x => by kernel_rfl⟩
noncomputable def q100 := t100.q
noncomputable def r101 : Raw := ⟨176, Tryz.f176, ⟨[.fz tWorld, .fz tReader, .fz tI], [.v (.sl tAnswer) (.own .z)], []⟩, [q54, q59, q61, q69], [50, 51, 52], [], [], fun k x => spec_l13Answers.f k x.1 x.2.1 x.2.2.1, [⟨9, [sr 12 13 tWorld, sr 16 17 tReader, sv 28 (.sl tAnswer) (.own .z), sv 32 tN (.own .z), sv 36 tI .z, sv 13 tWorld .z, sv 17 tReader .z], fun k x => spec_l13Answers.p9 k x.1 x.2.1 x.2.2.1 x.2.2.2.1 x.2.2.2.2.1⟩]⟩
theorem t101 : r101.Ok := ⟨Tryz.func176, by kernel_rfl, cons ⟨fun _ => rfl, fun x k => by kernel_rfl⟩ nil, fun k x => by kernel_rfl⟩
noncomputable def q101 := t101.q
noncomputable def r102 : Raw := ⟨182, Tryz.f182, ⟨[.fz tConfig, .fz (.sl tAnswer)], [.v tN (.own .z), .v .bool .z], []⟩, [q10], [20], [], [], fun k x => spec_l10Nodes.f k x.1 x.2.1, [⟨7, [sv 4 (.sl tAnswer) .z, sr 8 9 tConfig, sv 24 tN (.own .z), sv 28 tI .z, sv 9 tConfig .z], fun k x => spec_l10Nodes.p7 k x.1 x.2.1 x.2.2.1 x.2.2.2.1⟩]⟩
theorem t102 : r102.Ok := ⟨Tryz.func182, by kernel_rfl, cons ⟨fun _ => rfl, fun x k => by kernel_rfl⟩ nil, fun k x => by kernel_rfl⟩
noncomputable def q102 := t102.q
noncomputable def r103 : Raw := ⟨183, Tryz.f183, ⟨[.fz tReader, .fz tEvent, .fz tI, .fz tI], [.v tReader o24], []⟩, [q52], [14, 18, 20], [], [], fun k x => spec_l10Tell.f x.1 x.2.1 x.2.2.1 x.2.2.2.1, []⟩
theorem t103 : r103.Ok := ⟨Tryz.func183, by kernel_rfl, nil, fun k x => by kernel_rfl⟩
noncomputable def q103 := t103.q
noncomputable def r104 : Raw := ⟨184, Tryz.f184, ⟨[.fz tN, .fz tI, .fz (.sl tAnswer)], [.v tEvent .z], []⟩, [q16, q31, q65], [21, 56, 61, 63, 65], [], [], fun k x => spec_l10Best.f k x.1 x.2.1 x.2.2.1, [⟨9, [sv 0 tN .z, sv 4 tI .z, sv 8 (.sl tAnswer) .z, sr 24 25 tEvent, sr 28 29 tEntry, sv 32 .bool .z, sv 36 tI .z, sv 25 tEvent .z, sv 29 tEntry .z], fun k x => spec_l10Best.p9 k x.1 x.2.1 x.2.2.1 x.2.2.2.1 x.2.2.2.2.1 x.2.2.2.2.2.1 x.2.2.2.2.2.2.1⟩]⟩
theorem t104 : r104.Ok := ⟨Tryz.func184, by kernel_rfl, cons ⟨fun _ => rfl, fun x k => by kernel_rfl⟩ nil, fun k x => by kernel_rfl⟩
noncomputable def q104 := t104.q
noncomputable def r105 : Raw := ⟨175, Tryz.f175, ⟨[.fz tConfig, .fz tRegister, .fz tI, .fz tReader, .fz (.sl tAnswer)], [.v tReader o24, .v tI .z], []⟩, [q30, q37, q39, q43, q52, q59, q90, q91, q102, q103, q104], [56], [16], [], fun k x => spec_ReaderNext.f k x.1 x.2.1 x.2.2.1 x.2.2.2.1 x.2.2.2.2.1, [⟨32, [sv 16 (.sl tAnswer) .z, sr 32 33 tReader, sr 40 41 tReader, sr 56 57 tEra, sv 60 tI .z, sv 33 tReader .z, sv 41 tReader o2, sv 57 tEra .z], fun k x => spec_ReaderNext.p32 k x.1 x.2.1 x.2.2.1 x.2.2.2.1 x.2.2.2.2.1⟩]⟩
theorem t105 : r105.Ok := ⟨Tryz.func175, by kernel_rfl, cons ⟨fun _ => rfl, fun x k => by kernel_rfl⟩ nil, fun k x => by kernel_rfl⟩
noncomputable def q105 := t105.q
noncomputable def r106 : Raw := ⟨150, Tryz.f150, ⟨[.own tWorld (.two o0 o12), .fz tDeed], [.v tWorld (.two o0 o12), .v tI .z], []⟩, [q7, q100, q101, q105], [53], [], [], fun k x => spec_l13Read.f k x.1 x.2.1, []⟩
theorem t106 : r106.Ok := ⟨Tryz.func150, by kernel_rfl, nil, fun k x => by kernel_rfl⟩
noncomputable def q106 := t106.q
noncomputable def r107 : Raw := ⟨151, Tryz.f151, ⟨[.own tWorld (.two o0 o12), .fz tDeed], [.v tWorld (.two o0 o12), .v tI .z], []⟩, [q57], [31, 34], [], [], fun k x => spec_l13Drop.f k x.1 x.2.1, [⟨11, [sr 8 9 tWorld, sr 12 13 tDeed, sr 16 17 tWorld, sv 24 (.sl tWriter) (.own .z), sv 28 tI .z, sv 9 tWorld (.two o0 o12), sv 13 tDeed .z, sv 17 tWorld (.two o1 o34)], fun k x => spec_l13Drop.p11 k x.1 x.2.1 x.2.2.1 x.2.2.2.1 x.2.2.2.2.1⟩]⟩
theorem t107 : r107.Ok := ⟨Tryz.func151, by kernel_rfl, cons ⟨fun _ => rfl, fun x k => by kernel_rfl⟩ nil, fun k x => by kernel_rfl⟩
noncomputable def q107 := t107.q
noncomputable def r108 : Raw := ⟨177, Tryz.f177, ⟨[.fz tStore, .fz tI], [.v tStore o3, .v .bool .z], []⟩, [q29, q34, q49], [40], [], [], fun k x => spec_StoreTrim.f k x.1 x.2.1, [⟨17, [sv 4 tI .z, sr 8 9 tStore, sr 16 17 tStore, sr 24 25 tStore, sv 28 tI .z, sv 9 tStore .z, sv 17 tStore o30, sv 25 tStore o3], fun k x => spec_StoreTrim.p17 k x.1 x.2.1 x.2.2.1 x.2.2.2.1 x.2.2.2.2.1⟩]⟩
theorem t108 : r108.Ok := ⟨Tryz.func177, by kernel_rfl, cons ⟨fun _ => rfl, fun x k => by kernel_rfl⟩ nil, fun k x => by kernel_rfl⟩
noncomputable def q108 := t108.q
noncomputable def r109 : Raw := ⟨152, Tryz.f152, ⟨[.own tWorld (.two o0 o12), .fz tDeed], [.v tWorld (.two o0 o12), .v tI .z], []⟩, [q61, q67, q108], [52], [7], [], fun k x => spec_l13Other.f k x.1 x.2.1, [⟨14, [sr 8 9 tWorld, sr 12 13 tDeed, sr 16 17 tWorld, sr 28 29 tStore, sv 32 .bool .z, sv 9 tWorld (.two o0 o12), sv 13 tDeed .z, sv 17 tWorld (.two o1 o34), sv 29 tStore o3], fun k x => spec_l13Other.p14 k x.1 x.2.1 x.2.2.1 x.2.2.2.1 x.2.2.2.2.1⟩]⟩
theorem t109 : r109.Ok := ⟨Tryz.func152, by kernel_rfl, cons ⟨fun _ => rfl, fun x k => by kernel_rfl⟩ nil, fun k x => by kernel_rfl⟩
noncomputable def q109 := t109.q
noncomputable def r110 : Raw := ⟨111, Tryz.f111, ⟨[.own tWorld (.two o0 o12), .fz tDeed], [.v tWorld (.two o0 o12), .v tI .z], []⟩, [q56, q60, q64, q75, q79, q83, q85, q89, q93, q94, q97, q98, q106, q107, q109], [99], [], [], fun k x => spec_l13Do.f k x.1 x.2.1, []⟩
theorem t110 : r110.Ok := ⟨Tryz.func111, by kernel_rfl, nil, fun k x => by kernel_rfl⟩
noncomputable def q110 := t110.q
noncomputable def r111 : Raw := ⟨80, Tryz.f80, ⟨[.mut tWorld (.two .z o12), .fz tDeed], [.v tWorld (.two o0 o12), .v tI .z], [9]⟩, [q45, q47, q53, q110], [], [], [], fun k x => spec_WorldDo.f k x.1 x.2.1, []⟩
theorem t111 : r111.Ok := ⟨Tryz.func80, by kernel_rfl, nil, fun k x => by kernel_rfl⟩
noncomputable def q111 := t111.q
noncomputable def r112 : Raw := ⟨37, Tryz.f37, ⟨[.ptr tl1Cur .z .z, .fz tI], [.v tWorld .dead, .v (.sl tDeed) (.own .z), .v tWorld (.two .z o12)], []⟩, [q4, q6, q12, q14, q28, q111], [51, 77], [9], [], fun k x => spec_l13DrawRun_w.f k x.1 x.2.1, [⟨9, [sr 0 36001 tl1Cur, sv 4 tI .z, sr 16 17 tWorld, sr 24 25 tWorld, sr 28 29 tConfig, sv 32 tN (.own .z), sv 36 tI .z, sv 17 tWorld (.two o1 o34), sv 25 tWorld (.two o1 o34), sv 29 tConfig o0, sv 36001 tl1Cur .z], fun k x => spec_l13DrawRun_w.p9 k x.1 x.2.1 x.2.2.1 x.2.2.2.1 x.2.2.2.2.1 x.2.2.2.2.2.1 x.2.2.2.2.2.2.1⟩, ⟨15, [sr 0 36001 tl1Cur, sv 4 tI .z, sr 16 17 tWorld, sr 24 25 tWorld, sr 28 29 tConfig, sv 32 tN (.own .z), sv 17 tWorld (.two o1 o34), sv 25 tWorld (.two o1 o34), sv 29 tConfig o0, sv 36001 tl1Cur .z], fun k x => spec_l13DrawRun_w.p15 k x.1 x.2.1 x.2.2.1 x.2.2.2.1 x.2.2.2.2.1 x.2.2.2.2.2.1⟩, ⟨18, [sr 0 36001 tl1Cur, sv 4 tI .z, sr 16 17 tWorld, sr 24 25 tWorld, sr 28 29 tConfig, sv 17 tWorld (.two o1 o34), sv 25 tWorld (.two o1 o34), sv 29 tConfig o0, sv 36001 tl1Cur .z], fun k x => spec_l13DrawRun_w.p18 k x.1 x.2.1 x.2.2.1 x.2.2.2.1 x.2.2.2.2.1⟩, ⟨29, [sr 0 36001 tl1Cur, sr 16 17 tWorld, sr 24 25 tWorld, sr 40 41 tWorld, sr 48 49 tWorld, sv 52 (.sl tDeed) (.own .z), sv 56 tI .z, sv 60 tI .z, sv 17 tWorld (.two o1 o34), sv 25 tWorld (.two o1 o34), sv 41 tWorld .dead, sv 49 tWorld (.two .z o12), sv 36001 tl1Cur .z], fun k x => spec_l13DrawRun_w.p29 k x.1 x.2.1 x.2.2.1 x.2.2.2.1 x.2.2.2.2.1 x.2.2.2.2.2.1 x.2.2.2.2.2.2.1 x.2.2.2.2.2.2.2.1⟩]⟩
theorem t112 : r112.Ok := ⟨Tryz.func37, by kernel_rfl, cons ⟨fun _ => rfl, fun x k => by kernel_rfl⟩ (cons ⟨fun _ => rfl, fun x k => by kernel_rfl⟩ (cons ⟨fun _ => rfl, fun x k => by kernel_rfl⟩ (cons ⟨fun _ => rfl, fun x k => by kernel_rfl⟩ nil))), fun k x => by kernel_rfl⟩
noncomputable def q112 := t112.q
noncomputable def r113 : Raw := ⟨114, Tryz.f114, ⟨[.ptr tl1Cur .z .z], [.v tEntry .z], []⟩, [q4, q5, q24, q30, q59], [], [], [], fun k x => spec_l3DrawRight.f x.1, []⟩
theorem t113 : r113.Ok := ⟨Tryz.func114, by kernel_rfl, nil, fun k x => by kernel_rfl⟩
noncomputable def q113 := t113.q
noncomputable def r114 : Raw := ⟨84, Tryz.f84, ⟨[.ptr tl1Cur .z .z], [.v tStore o3], []⟩, [q4, q5, q59, q63, q68, q86, q113], [53], [], [], fun k x => spec_l6DrawRight.f k x.1, [⟨9, [sr 0 36001 tl1Cur, sr 8 9 tStore, sr 12 13 tStore, sv 16 tI .z, sv 20 tI .z, sv 9 tStore o30, sv 13 tStore o3, sv 36001 tl1Cur .z], fun k x => spec_l6DrawRight.p9 k x.1 x.2.1 x.2.2.1 x.2.2.2.1 x.2.2.2.2.1⟩, ⟨41, [sr 0 36001 tl1Cur, sr 8 9 tStore, sr 12 13 tStore, sv 32 tI .z, sv 9 tStore o30, sv 13 tStore o3, sv 36001 tl1Cur .z], fun k x => spec_l6DrawRight.p41 k x.1 x.2.1 x.2.2.1 x.2.2.2.1⟩, ⟨47, [sr 0 36001 tl1Cur, sr 8 9 tStore, sr 12 13 tStore, sv 32 tI .z, sv 36 tI .z, sv 9 tStore o30, sv 13 tStore o3, sv 36001 tl1Cur .z], fun k x => spec_l6DrawRight.p47 k x.1 x.2.1 x.2.2.1 x.2.2.2.1 x.2.2.2.2.1⟩]⟩
theorem t114 : r114.Ok := ⟨Tryz.func84, by kernel_rfl, cons ⟨fun _ => rfl, fun x k => by kernel_rfl⟩ (cons ⟨fun _ => rfl, fun x k => by kernel_rfl⟩ (cons ⟨fun _ => rfl, fun x k => by kernel_rfl⟩ nil)), fun k x => by kernel_rfl⟩
noncomputable def q114 := t114.q
noncomputable def r115 : Raw := ⟨45, Tryz.f45, ⟨[.ptr tl1Cur .z .z], [.v tI .z], []⟩, [q4, q18, q59], [], [], [], fun k x => spec_l1DrawPlace.f x.1, []⟩
theorem t115 : r115.Ok := ⟨Tryz.func45, by kernel_rfl, nil, fun k x => by kernel_rfl⟩
noncomputable def q115 := t115.q
noncomputable def r116 : Raw := ⟨85, Tryz.f85, ⟨[.ptr tl1Cur .z .z], [.v tEntry .z], []⟩, [q4, q18, q113, q115], [], [], [], fun k x => spec_l3Draw.f x.1, []⟩
theorem t116 : r116.Ok := ⟨Tryz.func85, by kernel_rfl, nil, fun k x => by kernel_rfl⟩
noncomputable def q116 := t116.q
noncomputable def r117 : Raw := ⟨40, Tryz.f40, ⟨[.ptr tl1Cur .z .z], [.v tStore o3], []⟩, [q4, q18, q59, q114, q116], [], [], [], fun k x => spec_l6Draw.f k x.1, [⟨21, [sr 0 36001 tl1Cur, sr 8 9 tStore, sr 12 13 tStore, sv 9 tStore o30, sv 13 tStore o3, sv 36001 tl1Cur .z], fun k x => spec_l6Draw.p21 k x.1 x.2.1 x.2.2.1⟩]⟩
theorem t117 : r117.Ok := ⟨Tryz.func40, by kernel_rfl, cons ⟨fun _ => rfl, fun x k => by kernel_rfl⟩ nil, fun k x => by kernel_rfl⟩
noncomputable def q117 := t117.q
noncomputable def r118 : Raw := ⟨87, Tryz.f87, ⟨[.ptr tl1Cur .z .z, .fz tConfig], [.v tRegister o13], []⟩, [q4, q20, q55, q59, q96, q98], [58], [], [], fun k x => spec_l7DrawRight.f k x.1 x.2.1, [⟨7, [sr 0 36001 tl1Cur, sr 12 13 tConfig, sr 16 17 tRegister, sr 20 21 tRegister, sv 24 tI .z, sv 13 tConfig .z, sv 17 tRegister o1, sv 21 tRegister o13, sv 36001 tl1Cur .z], fun k x => spec_l7DrawRight.p7 k x.1 x.2.1 x.2.2.1 x.2.2.2.1 x.2.2.2.2.1⟩]⟩
theorem t118 : r118.Ok := ⟨Tryz.func87, by kernel_rfl, cons ⟨fun _ => rfl, fun x k => by kernel_rfl⟩ nil, fun k x => by kernel_rfl⟩
noncomputable def q118 := t118.q
noncomputable def r119 : Raw := ⟨41, Tryz.f41, ⟨[.ptr tl1Cur .z .z, .fz tConfig], [.v tRegister o0], []⟩, [q4, q18, q19, q20, q115, q118], [], [], [], fun k x => spec_l7Draw.f k x.1 x.2.1, [⟨35, [sr 0 36001 tl1Cur, sr 16 17 tRegister, sr 20 21 tRegister, sv 28 tN (.own .z), sv 17 tRegister o1, .v 21 tRegister o0 [28] 0, sv 36001 tl1Cur .z], fun k x => spec_l7Draw.p35 k x.1 x.2.1 x.2.2.1 x.2.2.2.1⟩]⟩
theorem t119 : r119.Ok := ⟨Tryz.func41, by kernel_rfl, cons ⟨fun _ => rfl, fun x k => by kernel_rfl⟩ nil, fun k x => by kernel_rfl⟩
noncomputable def q119 := t119.q
noncomputable def r120 : Raw := ⟨89, Tryz.f89, ⟨[.ptr tl1Cur .z .z, .fz tConfig], [.v tWriter (.two .z o0)], []⟩, [q4, q5, q15, q24, q58, q70], [51], [], [], fun k x => spec_l8DrawRight.f k x.1 x.2.1, [⟨7, [sr 0 36001 tl1Cur, sr 12 13 tConfig, sr 16 17 tWriter, sr 20 21 tWriter, sv 24 tI .z, sv 13 tConfig .z, sv 17 tWriter (.two .z o1), sv 21 tWriter o15, sv 36001 tl1Cur .z], fun k x => spec_l8DrawRight.p7 k x.1 x.2.1 x.2.2.1 x.2.2.2.1 x.2.2.2.2.1⟩]⟩
theorem t120 : r120.Ok := ⟨Tryz.func89, by kernel_rfl, cons ⟨fun _ => rfl, fun x k => by kernel_rfl⟩ nil, fun k x => by kernel_rfl⟩
noncomputable def q120 := t120.q
noncomputable def r121 : Raw := ⟨42, Tryz.f42, ⟨[.ptr tl1Cur .z .z, .fz tConfig], [.v tWriter (.two .z o0)], []⟩, [q4, q18, q120], [63], [], [], fun k x => spec_l8Draw.f k x.1 x.2.1, [⟨23, [sr 0 36001 tl1Cur, sr 16 17 tWriter, sr 20 21 tWriter, sv 17 tWriter (.two .z o1), sv 21 tWriter (.two .z o0), sv 36001 tl1Cur .z], fun k x => spec_l8Draw.p23 k x.1 x.2.1 x.2.2.1⟩]⟩
theorem t121 : r121.Ok := ⟨Tryz.func42, by kernel_rfl, cons ⟨fun _ => rfl, fun x k => by kernel_rfl⟩ nil, fun k x => by kernel_rfl⟩
noncomputable def q121 := t121.q
noncomputable def r122 : Raw := ⟨127, Tryz.f127, ⟨[.fz tConfig, .fz tMend], [.v tN (.own .z)], []⟩, [q12, q17], [9], [], [], fun k x => spec_l9Cover.f k x.1 x.2.1, [⟨7, [sr 8 9 tConfig, sv 20 tN (.own .z), sv 24 tI .z, sv 9 tConfig .z], fun k x => spec_l9Cover.p7 k x.1 x.2.1 x.2.2.1⟩]⟩
theorem t122 : r122.Ok := ⟨Tryz.func127, by kernel_rfl, cons ⟨fun _ => rfl, fun x k => by kernel_rfl⟩ nil, fun k x => by kernel_rfl⟩
noncomputable def q122 := t122.q
noncomputable def r123 : Raw := ⟨90, Tryz.f90, ⟨[.ptr tl1Cur .z .z, .fz tConfig], [.v tMend o20], []⟩, [q4, q5, q15, q73, q84, q87, q88, q92, q114, q122], [43, 57, 83], [14], [], fun k x => spec_l9DrawRight.f k x.1 x.2.1, [⟨9, [sr 0 36001 tl1Cur, sr 12 13 tConfig, sr 16 17 tMend, sr 20 21 tMend, sv 24 tI .z, sv 28 tI .z, sv 13 tConfig .z, sv 17 tMend o23, sv 21 tMend o20, sv 36001 tl1Cur .z], fun k x => spec_l9DrawRight.p9 k x.1 x.2.1 x.2.2.1 x.2.2.2.1 x.2.2.2.2.1 x.2.2.2.2.2.1⟩, ⟨28, [sr 0 36001 tl1Cur, sr 12 13 tConfig, sr 16 17 tMend, sr 20 21 tMend, sv 13 tConfig .z, sv 17 tMend o23, sv 21 tMend o20, sv 36001 tl1Cur .z], fun k x => spec_l9DrawRight.p28 k x.1 x.2.1 x.2.2.1 x.2.2.2.1⟩, ⟨31, [sr 0 36001 tl1Cur, sr 12 13 tConfig, sr 16 17 tMend, sr 20 21 tMend, sv 48 tI .z, sv 13 tConfig .z, sv 17 tMend o23, sv 21 tMend o20, sv 36001 tl1Cur .z], fun k x => spec_l9DrawRight.p31 k x.1 x.2.1 x.2.2.1 x.2.2.2.1 x.2.2.2.2.1⟩]⟩
theorem t123 : r123.Ok := ⟨Tryz.func90, by kernel_rfl, cons ⟨fun _ => rfl, fun x k => by kernel_rfl⟩ (cons ⟨fun _ => rfl, fun x k => by kernel_rfl⟩ (cons ⟨fun _ => rfl, fun x k => by kernel_rfl⟩ nil)), fun k x => by kernel_rfl⟩
noncomputable def q123 := t123.q
noncomputable def r124 : Raw := ⟨43, Tryz.f43, ⟨[.ptr tl1Cur .z .z, .fz tConfig], [.v tMend o20], []⟩, [q4, q18, q19, q116, q123], [], [], [], fun k x => spec_l9Draw.f k x.1 x.2.1, []⟩
theorem t124 : r124.Ok := ⟨Tryz.func43, by kernel_rfl, nil, fun k x => by kernel_rfl⟩
noncomputable def q124 := t124.q
noncomputable def r125 : Raw := ⟨44, Tryz.f44, ⟨[.ptr tl1Cur .z .z], [.v tReader o24], []⟩, [q4, q18, q115], [], [], [], fun k x => spec_l10DrawReader.f k x.1, [⟨7, [sr 0 36001 tl1Cur, sr 8 9 tReader, sr 12 13 tReader, sv 16 tI .z, sv 9 tReader o2, sv 13 tReader o24, sv 36001 tl1Cur .z], fun k x => spec_l10DrawReader.p7 k x.1 x.2.1 x.2.2.1 x.2.2.2.1⟩]⟩
theorem t125 : r125.Ok := ⟨Tryz.func44, by kernel_rfl, cons ⟨fun _ => rfl, fun x k => by kernel_rfl⟩ nil, fun k x => by kernel_rfl⟩
noncomputable def q125 := t125.q
noncomputable def r126 : Raw := ⟨46, Tryz.f46, ⟨[.ptr tl1Cur .z .z], [.v tConfig o0], []⟩, [q4, q6, q18], [], [], [], fun k x => spec_l4Draw.f k x.1, []⟩
theorem t126 : r126.Ok := ⟨Tryz.func46, by kernel_rfl, nil, fun k x => by kernel_rfl⟩
noncomputable def q126 := t126.q
noncomputable def r127 : Raw := ⟨17, Tryz.f17, ⟨[.ptr tl1Cur .z .z, .fz (.sl (.int .u8))], [.v tWorld (.two .z o12)], []⟩, [q2, q4, q19, q112, q115, q117, q119, q121, q124, q125, q126], [], [], [], fun k x => spec_l13DrawWorld.f k x.1 x.2.1, []⟩
theorem t127 : r127.Ok := ⟨Tryz.func17, by kernel_rfl, nil, fun k x => by kernel_rfl⟩
noncomputable def q127 := t127.q
noncomputable def r128 : Raw := ⟨18, Tryz.f18, ⟨[.ptr tl1Cur .z .z, .fz tWorld], [.v tI .z], []⟩, [q4, q5, q115], [], [], [], fun k x => spec_l13DrawPlace.f x.1 x.2.1, []⟩
theorem t128 : r128.Ok := ⟨Tryz.func18, by kernel_rfl, nil, fun k x => by kernel_rfl⟩
noncomputable def q128 := t128.q
noncomputable def r129 : Raw := ⟨5, Tryz.f5, ⟨[.fz (.sl (.int .u8))], [.v tWorld (.two .z o12), .v tI .z], []⟩, [q1, q127, q128], [], [], [], fun k x => spec_DrawHoldersOf.f k x.1, []⟩
theorem t129 : r129.Ok := ⟨Tryz.func5, by kernel_rfl, nil, fun k x => by kernel_rfl⟩
noncomputable def q129 := t129.q
noncomputable def r130 : Raw := ⟨47, Tryz.f47, ⟨[.fz tI, .fz tI, .fz tI], [.v .bool .z], []⟩, [], [], [], [], fun k x => impl_within.f x.1 x.2.1 x.2.2.1, []⟩
theorem t130 : r130.Ok := ⟨Tryz.func47, by kernel_rfl, nil, fun k x => by kernel_rfl⟩
noncomputable def q130 := t130.q
noncomputable def r131 : Raw := ⟨19, Tryz.f19, ⟨[.fz tConfig], [.v .bool .z], []⟩, [q130], [11], [], [], fun k x => impl_ConfigOk.f k x.1, [⟨5, [sr 4 5 tConfig, sv 24 tN .z, sv 28 tI .z, sv 32 tI .z, sv 5 tConfig .z], fun k x => impl_ConfigOk.p5 k x.1 x.2.1 x.2.2.1 x.2.2.2.1⟩]⟩
theorem t131 : r131.Ok := ⟨Tryz.func19, by kernel_rfl, cons ⟨fun _ => rfl, fun x k => by kernel_rfl⟩ nil, fun k x => by kernel_rfl⟩
noncomputable def q131 := t131.q
noncomputable def r132 : Raw := ⟨91, Tryz.f91, ⟨[.fz tN, .fz tI], [.v .bool .z], []⟩, [q130], [13], [], [], fun k x => impl_ascends.f k x.1 x.2.1, [⟨5, [sv 0 tN .z, sv 4 tI .z, sv 28 tN .z, sv 32 tI .z, sv 36 tI .z], fun k x => impl_ascends.p5 k x.1 x.2.1 x.2.2.1 x.2.2.2.1 x.2.2.2.2.1⟩]⟩
theorem t132 : r132.Ok := ⟨Tryz.func91, by kernel_rfl, cons ⟨fun _ => rfl, fun x k => by kernel_rfl⟩ nil, fun k x => by kernel_rfl⟩
noncomputable def q132 := t132.q
noncomputable def r133 : Raw := ⟨48, Tryz.f48, ⟨[.fz tConfig, .fz tN], [.v .bool .z], []⟩, [q131, q132], [], [], [], fun k x => impl_NodesOk.f k x.1 x.2.1, []⟩
theorem t133 : r133.Ok := ⟨Tryz.func48, by kernel_rfl, nil, fun k x => by kernel_rfl⟩
noncomputable def q133 := t133.q
noncomputable def r134 : Raw := ⟨96, Tryz.f96, ⟨[.fz tI], [.v .bool .z], []⟩, [q130], [], [], [], fun k x => impl_isEpoch.f x.1, []⟩
theorem t134 : r134.Ok := ⟨Tryz.func96, by kernel_rfl, nil, fun k x => by kernel_rfl⟩
noncomputable def q134 := t134.q
noncomputable def r135 : Raw := ⟨133, Tryz.f133, ⟨[.fz tI], [.v .bool .z], []⟩, [q130], [], [], [], fun k x => impl_isOff.f x.1, []⟩
theorem t135 : r135.Ok := ⟨Tryz.func133, by kernel_rfl, nil, fun k x => by kernel_rfl⟩
noncomputable def q135 := t135.q
noncomputable def r136 : Raw := ⟨94, Tryz.f94, ⟨[.fz tI], [.v .bool .z], []⟩, [q134, q135], [], [], [], fun k x => impl_PlaceOk.f x.1, []⟩
theorem t136 : r136.Ok := ⟨Tryz.func94, by kernel_rfl, nil, fun k x => by kernel_rfl⟩
noncomputable def q136 := t136.q
noncomputable def r137 : Raw := ⟨58, Tryz.f58, ⟨[.fz .str], [.v .bool .z], []⟩, [], [], [], [], fun k x => impl_dataOk.f x.1, []⟩
theorem t137 : r137.Ok := ⟨Tryz.func58, by kernel_rfl, nil, fun k x => by kernel_rfl⟩
noncomputable def q137 := t137.q
noncomputable def r138 : Raw := ⟨52, Tryz.f52, ⟨[.fz tI], [.v tI .z], []⟩, [q136], [], [], [], fun k x => impl_EpochOf.f x.1, []⟩
theorem t138 : r138.Ok := ⟨Tryz.func52, by kernel_rfl, nil, fun k x => by kernel_rfl⟩
noncomputable def q138 := t138.q
noncomputable def r139 : Raw := ⟨105, Tryz.f105, ⟨[.fz tEntry], [.v .bool .z], []⟩, [q130, q136, q137, q138], [], [2, 3], [], fun k x => impl_EntryOk.f k x.1, [⟨4, [sr 4 5 tEntry, sv 12 .bool .z, sv 5 tEntry .z], fun k x => impl_EntryOk.p4 k x.1 x.2.1⟩, ⟨6, [sr 4 5 tEntry, sv 12 .bool .z, sv 16 .bool .z, sv 5 tEntry .z], fun k x => impl_EntryOk.p6 k x.1 x.2.1 x.2.2.1⟩]⟩
theorem t139 : r139.Ok := ⟨Tryz.func105, by kernel_rfl, cons ⟨fun _ => rfl, fun x k => by kernel_rfl⟩ (cons ⟨fun _ => rfl, fun x k => by kernel_rfl⟩ nil), fun k x => by kernel_rfl⟩
noncomputable def q139 := t139.q
noncomputable def r140 : Raw := ⟨72, Tryz.f72, ⟨[.fz (.sl tEntry)], [.v .bool .z], []⟩, [q139], [10], [], [], fun k x => impl_entriesOk.f k x.1, [⟨5, [sv 20 (.sl tEntry) .z, sv 24 tI .z, sv 28 tI .z], fun k x => impl_entriesOk.p5 k x.1 x.2.1 x.2.2.1⟩]⟩
theorem t140 : r140.Ok := ⟨Tryz.func72, by kernel_rfl, cons ⟨fun _ => rfl, fun x k => by kernel_rfl⟩ nil, fun k x => by kernel_rfl⟩
noncomputable def q140 := t140.q
noncomputable def r141 : Raw := ⟨73, Tryz.f73, ⟨[.fz (.sl tEntry)], [.v .bool .z], []⟩, [], [11], [], [], fun k x => impl_placesAscend.f k x.1, [⟨5, [sv 0 (.sl tEntry) .z, sv 20 (.sl tEntry) .z, sv 24 tI .z, sv 28 tI .z], fun k x => impl_placesAscend.p5 k x.1 x.2.1 x.2.2.1 x.2.2.2.1⟩]⟩
theorem t141 : r141.Ok := ⟨Tryz.func73, by kernel_rfl, cons ⟨fun _ => rfl, fun x k => by kernel_rfl⟩ nil, fun k x => by kernel_rfl⟩
noncomputable def q141 := t141.q
noncomputable def r142 : Raw := ⟨31, Tryz.f31, ⟨[.fz tStore], [.v .bool .z], []⟩, [q130, q140, q141], [], [], [], fun k x => impl_StoreOk.f k x.1, []⟩
theorem t142 : r142.Ok := ⟨Tryz.func31, by kernel_rfl, nil, fun k x => by kernel_rfl⟩
noncomputable def q142 := t142.q
noncomputable def r143 : Raw := ⟨130, Tryz.f130, ⟨[.fz tN], [.v tN (.own .z)], []⟩, [], [4], [], [], fun k x => impl_copyInts.f x.1, []⟩
theorem t143 : r143.Ok := ⟨Tryz.func130, by kernel_rfl, nil, fun k x => by kernel_rfl⟩
noncomputable def q143 := t143.q
noncomputable def b129 : Code := Tryz.f129.body.getD .skip
theorem e129 : OM.Entry Tryz.prog 129 := ⟨_, Tryz.func129, by kernel_rfl, by kernel_rfl⟩
noncomputable def slices_DeleteFunc_int_int_impl_both_1.rho : Shelf.Ren := ⟨fun n => cond (Nat.beq n 6) 163 (cond (Nat.beq n 10) 129 (n)), fun n => cond (Nat.beq n 22) 24 (cond (Nat.beq n 23) 3 (cond (Nat.beq n 25) 94 (cond (Nat.beq n 0) 0 (cond (Nat.beq n 3) 3 (cond (Nat.beq n 4) 4 (n)))))), fun n => n⟩
theorem slices_DeleteFunc_int_int_impl_both_1.lay : Proofs.SlLaysH.n10 Tryz.prog slices_DeleteFunc_int_int_impl_both_1.rho := { mixed := mixed, f6 := ⟨"slices.IndexFunc[[]int,int]", by kernel_rfl, (Tryz.func163).trans (congrArg some (by kernel_rfl))⟩, f10 := ⟨"slices.DeleteFunc[[]int,int]", by kernel_rfl, (Tryz.func129).trans (congrArg some (by kernel_rfl))⟩, t0 := Tryz.underlying0, a0 := Tryz.isAgg0, z0 := Tryz.sizeOf0, v0 := Tryz.zeroValue0, t3 := Tryz.underlying3, a3 := Tryz.isAgg3, z3 := Tryz.sizeOf3, v3 := Tryz.zeroValue3, t4 := Tryz.underlying4, a4 := Tryz.isAgg4, z4 := Tryz.sizeOf4, v4 := Tryz.zeroValue4, t22 := Tryz.underlying24, a22 := Tryz.isAgg24, z22 := Tryz.sizeOf24, v22 := Tryz.zeroValue24, a23 := Tryz.isAgg3, z23 := Tryz.sizeOf3, t25 := Tryz.underlying94, a25 := Tryz.isAgg94, z25 := Tryz.sizeOf94, v25 := Tryz.zeroValue94 }
noncomputable def slices_DeleteFunc_int_int_impl_both_1.rhoC : Shelf.Ren := ⟨fun n => cond (Nat.beq n 29) 164 (cond (Nat.beq n 31) 132 (n)), fun n => cond (Nat.beq n 22) 24 (cond (Nat.beq n 23) 3 (cond (Nat.beq n 0) 0 (cond (Nat.beq n 3) 3 (cond (Nat.beq n 4) 4 (n))))), fun n => n⟩
theorem slices_DeleteFunc_int_int_impl_both_1.layC : Proofs.SlLaysE.n31 Tryz.prog slices_DeleteFunc_int_int_impl_both_1.rhoC := { mixed := mixed, f29 := ⟨"slices.Index[[]int,int]", by kernel_rfl, (Tryz.func164).trans (congrArg some (by kernel_rfl))⟩, f31 := ⟨"slices.Contains[[]int,int]", by kernel_rfl, (Tryz.func132).trans (congrArg some (by kernel_rfl))⟩, t0 := Tryz.underlying0, a0 := Tryz.isAgg0, z0 := Tryz.sizeOf0, v0 := Tryz.zeroValue0, t3 := Tryz.underlying3, a3 := Tryz.isAgg3, z3 := Tryz.sizeOf3, v3 := Tryz.zeroValue3, t4 := Tryz.underlying4, a4 := Tryz.isAgg4, z4 := Tryz.sizeOf4, v4 := Tryz.zeroValue4, t22 := Tryz.underlying24, a22 := Tryz.isAgg24, z22 := Tryz.sizeOf24, v22 := Tryz.zeroValue24, a23 := Tryz.isAgg3, z23 := Tryz.sizeOf3 }
theorem slices_DeleteFunc_int_int_impl_both_1.gives (w : Go.World) (S : Nat → Prop) (y : ((List Int) × Unit)) (cap : List Value) (x : Int) (hy : slices_DeleteFunc_int_int_impl_both_1.okp y) (h : Rp w S (.pair (.fp (.sl (.int .i64))) .unit) .z y cap (fun _ => False)) : Proofs.FnGives Tryz.prog 131 cap.toArray #[.int .i64 x] (.bool (slices_DeleteFunc_int_int_impl_both_1.pred y x)) w := by
  obtain ⟨b, off, c1, rfl, h1, h2⟩ := cap_one h
  obtain ⟨a, n, c, rfl⟩ : ∃ a n c, c1 = [.slice a n c] := by
    obtain ⟨a, c, e, _⟩ := h2
    exact ⟨a, _, c, e⟩
  have hcell : w.cell? ⟨b, off, none⟩ = some (.slice a n c) := h1 0 _ rfl
  have hcon := contains_calls slices_DeleteFunc_int_int_impl_both_1.layC h2 hy x
  change Calls Tryz.prog 132 _ _ _ at hcon
  unfold slices_DeleteFunc_int_int_impl_both_1.pred
  generalize (y.1.any fun u => decide (x = u)) = r at hcon ⊢
  clear h h1 h2 hy
  show Calls Tryz.prog 131 #[.int .i64 x, .pointer (some ⟨b, off, none⟩)] w _
  go_enter Tryz.func131, Tryz.ntmps131
  go_wp2_with (go_at_call 132; refine hcon.mono ?_; rintro e w' ⟨rfl, rfl⟩)
  all_goals (go_ret; exact ⟨rfl, 0, rfl⟩)
@[reducible] noncomputable def slices_DeleteFunc_int_int_impl_both_1.g : Sig := ⟨[.own (.sl (.int .i64)) (.own .z), .fz (.fn 131 (.pair (.fp (.sl (.int .i64))) .unit))], [.v (.sl (.int .i64)) (.own .z)], []⟩
@[reducible] noncomputable def slices_DeleteFunc_int_int_impl_both_1.fk : Nat → denI slices_DeleteFunc_int_int_impl_both_1.g.pms → Option (denR (outTys slices_DeleteFunc_int_int_impl_both_1.g.rts slices_DeleteFunc_int_int_impl_both_1.g.pms)) := fun k x => slices_DeleteFunc_int_int_impl_both_1.f x.1 x.2.1
@[reducible] noncomputable def slices_DeleteFunc_int_int_impl_both_1.sm (k : Nat) : Sm := ⟨129, slices_DeleteFunc_int_int_impl_both_1.g.pms, slices_DeleteFunc_int_int_impl_both_1.g.rts, slices_DeleteFunc_int_int_impl_both_1.fk k⟩
theorem slices_DeleteFunc_int_int_impl_both_1.ok (k : Nat) : SmOk Tryz.prog (slices_DeleteFunc_int_int_impl_both_1.sm k) :=
  del_ok (t := (.pair (.fp (.sl (.int .i64))) .unit)) slices_DeleteFunc_int_int_impl_both_1.lay Tryz.zeroValue3 (Proofs.enters_of Tryz.func131 (by kernel_rfl) rfl) slices_DeleteFunc_int_int_impl_both_1.pred slices_DeleteFunc_int_int_impl_both_1.okp slices_DeleteFunc_int_int_impl_both_1.gives
noncomputable def q144 : Fn := ⟨129, slices_DeleteFunc_int_int_impl_both_1.g, slices_DeleteFunc_int_int_impl_both_1.fk, slices_DeleteFunc_int_int_impl_both_1.ok, e129⟩
noncomputable def r145 : Raw := ⟨92, Tryz.f92, ⟨[.fz tN, .fz tN], [.v tN (.own .z)], []⟩, [q143, q144], [], [], [], fun k x => impl_both.f x.1 x.2.1, []⟩
theorem t145 : r145.Ok := ⟨Tryz.func92, by kernel_rfl, nil, fun k x => by kernel_rfl⟩
noncomputable def q145 := t145.q
noncomputable def r146 : Raw := ⟨49, Tryz.f49, ⟨[.fz (.fp tWorld), .fz tI], [.v .bool .z], []⟩, [q145], [5], [], [], fun k x => impl_World_isLost.f x.1 x.2.1, []⟩
theorem t146 : r146.Ok := ⟨Tryz.func49, by kernel_rfl, nil, fun k x => by kernel_rfl⟩
noncomputable def q146 := t146.q
noncomputable def r147 : Raw := ⟨164, Tryz.f164, ⟨[.fz tN, .fz tI], [.v tI .z], []⟩, [], [], [], [], fun k x => slices_Index_int_int.f k x.1 x.2.1, [⟨5, [sv 0 tN .z, sv 4 tI .z, sv 28 tI .z, sv 32 tI .z], fun k x => slices_Index_int_int.p5 k x.1 x.2.1 x.2.2.1 x.2.2.2.1⟩]⟩
theorem t147 : r147.Ok := ⟨Tryz.func164, by kernel_rfl, cons ⟨fun _ => rfl, fun x k => by kernel_rfl⟩ nil, fun k x => by kernel_rfl⟩
noncomputable def q147 := t147.q
noncomputable def r148 : Raw := ⟨132, Tryz.f132, ⟨[.fz tN, .fz tI], [.v .bool .z], []⟩, [q147], [], [], [], fun k x => slices_Contains_int_int.f k x.1 x.2.1, []⟩
theorem t148 : r148.Ok := ⟨Tryz.func132, by kernel_rfl, nil, fun k x => by kernel_rfl⟩
noncomputable def q148 := t148.q
noncomputable def r149 : Raw := ⟨93, Tryz.f93, ⟨[.fz tConfig, .fz tN], [.v tI .z], []⟩, [q133, q148], [18, 32], [], [], fun k x => impl_SpanOf.f k x.1 x.2.1, [⟨11, [sr 8 9 tConfig, sv 20 tN (.own .z), sv 52 tN .z, sv 56 tI .z, sv 60 tI .z, sv 9 tConfig .z], fun k x => impl_SpanOf.p11 k x.1 x.2.1 x.2.2.1 x.2.2.2.1 x.2.2.2.2.1⟩]⟩
theorem t149 : r149.Ok := ⟨Tryz.func93, by kernel_rfl, cons ⟨fun _ => rfl, fun x k => by kernel_rfl⟩ nil, fun k x => by kernel_rfl⟩
noncomputable def q149 := t149.q
noncomputable def r150 : Raw := ⟨50, Tryz.f50, ⟨[.fz tConfig, .fz tN], [.v .bool .z], []⟩, [q133, q149], [], [], [], fun k x => impl_Holds.f k x.1 x.2.1, []⟩
theorem t150 : r150.Ok := ⟨Tryz.func50, by kernel_rfl, nil, fun k x => by kernel_rfl⟩
noncomputable def q150 := t150.q
noncomputable def r151 : Raw := ⟨20, Tryz.f20, ⟨[.fz (.fp tWorld)], [.v .bool .z], []⟩, [q133, q142, q146, q150], [38], [], [], fun k x => impl_World_storesOk.f k x.1, [⟨9, [sv 0 (.fp tWorld) .z, sv 128 (.sl tStore) .z, sv 132 tI .z, sv 136 tI .z], fun k x => impl_World_storesOk.p9 k x.1 x.2.1 x.2.2.1 x.2.2.2.1⟩]⟩
theorem t151 : r151.Ok := ⟨Tryz.func20, by kernel_rfl, cons ⟨fun _ => rfl, fun x k => by kernel_rfl⟩ nil, fun k x => by kernel_rfl⟩
noncomputable def q151 := t151.q
noncomputable def r152 : Raw := ⟨51, Tryz.f51, ⟨[.fz tConfig, .fz tEra], [.v .bool .z], []⟩, [q130, q150], [], [], [], fun k x => impl_eraOk.f k x.1 x.2.1, []⟩
theorem t152 : r152.Ok := ⟨Tryz.func51, by kernel_rfl, nil, fun k x => by kernel_rfl⟩
noncomputable def q152 := t152.q
noncomputable def r153 : Raw := ⟨21, Tryz.f21, ⟨[.fz tConfig, .fz tRegister], [.v .bool .z], []⟩, [q130, q131, q138, q152], [15], [8], [], fun k x => impl_RegOk.f k x.1 x.2.1, [⟨5, [sr 8 9 tConfig, sr 12 13 tRegister, sv 36 (.sl tEra) .z, sv 40 tI .z, sv 44 tI .z, sv 9 tConfig .z, sv 13 tRegister .z], fun k x => impl_RegOk.p5 k x.1 x.2.1 x.2.2.1 x.2.2.2.1 x.2.2.2.2.1⟩, ⟨16, [sr 8 9 tConfig, sr 12 13 tRegister, sv 28 .bool .z, sv 9 tConfig .z, sv 13 tRegister .z], fun k x => impl_RegOk.p16 k x.1 x.2.1 x.2.2.1⟩]⟩
theorem t153 : r153.Ok := ⟨Tryz.func21, by kernel_rfl, cons ⟨fun _ => rfl, fun x k => by kernel_rfl⟩ (cons ⟨fun _ => rfl, fun x k => by kernel_rfl⟩ nil), fun k x => by kernel_rfl⟩
noncomputable def q153 := t153.q
noncomputable def r154 : Raw := ⟨95, Tryz.f95, ⟨[.fz .bool], [.v tI .z], []⟩, [], [], [], [], fun k x => impl_flagNum.f x.1, []⟩
theorem t154 : r154.Ok := ⟨Tryz.func95, by kernel_rfl, nil, fun k x => by kernel_rfl⟩
noncomputable def q154 := t154.q
noncomputable def r155 : Raw := ⟨53, Tryz.f53, ⟨[.fz tConfig, .fz tWriter], [.v .bool .z], []⟩, [q131, q133, q134, q137, q150, q154], [14], [], [4], fun k x => impl_WriterOk.f k x.1 x.2.1, [⟨7, [sr 8 9 tConfig, sr 12 13 tWriter, sv 20 tI .z, sv 36 (.sl tWord) .z, sv 40 tI .z, sv 44 tI .z, sv 9 tConfig .z, sv 13 tWriter .z], fun k x => impl_WriterOk.p7 k x.1 x.2.1 x.2.2.1 x.2.2.2.1 x.2.2.2.2.1 x.2.2.2.2.2.1⟩]⟩
theorem t155 : r155.Ok := ⟨Tryz.func53, by kernel_rfl, cons ⟨fun _ => rfl, fun x k => by kernel_rfl⟩ nil, fun k x => by kernel_rfl⟩
noncomputable def q155 := t155.q
noncomputable def r156 : Raw := ⟨54, Tryz.f54, ⟨[.fz (.fp tWorld), .fz tI], [.v .bool .z], []⟩, [q130], [], [], [], fun k x => impl_World_isThere.f x.1 x.2.1, []⟩
theorem t156 : r156.Ok := ⟨Tryz.func54, by kernel_rfl, nil, fun k x => by kernel_rfl⟩
noncomputable def q156 := t156.q
noncomputable def r157 : Raw := ⟨22, Tryz.f22, ⟨[.fz (.fp tWorld)], [.v .bool .z], []⟩, [q155, q156], [14], [], [], fun k x => impl_World_writersOk.f k x.1, [⟨5, [sv 0 (.fp tWorld) .z, sv 32 (.sl tWriter) .z, sv 36 tI .z, sv 40 tI .z], fun k x => impl_World_writersOk.p5 k x.1 x.2.1 x.2.2.1 x.2.2.2.1⟩]⟩
theorem t157 : r157.Ok := ⟨Tryz.func22, by kernel_rfl, cons ⟨fun _ => rfl, fun x k => by kernel_rfl⟩ nil, fun k x => by kernel_rfl⟩
noncomputable def q157 := t157.q
noncomputable def r158 : Raw := ⟨134, Tryz.f134, ⟨[.fz tI], [.v tI .z], []⟩, [q136], [], [], [], fun k x => impl_OffOf.f x.1, []⟩
theorem t158 : r158.Ok := ⟨Tryz.func134, by kernel_rfl, nil, fun k x => by kernel_rfl⟩
noncomputable def q158 := t158.q
noncomputable def r159 : Raw := ⟨97, Tryz.f97, ⟨[.fz tMend], [.v tI .z], []⟩, [q158], [], [], [], fun k x => impl_lastOff.f x.1, []⟩
theorem t159 : r159.Ok := ⟨Tryz.func97, by kernel_rfl, nil, fun k x => by kernel_rfl⟩
noncomputable def q159 := t159.q
noncomputable def r160 : Raw := ⟨98, Tryz.f98, ⟨[.fz tMend], [.v .bool .z], []⟩, [q138, q139, q141], [11], [], [], fun k x => impl_seenOk.f k x.1, [⟨5, [sr 4 5 tMend, sv 24 (.sl tEntry) .z, sv 28 tI .z, sv 32 tI .z, sv 5 tMend .z], fun k x => impl_seenOk.p5 k x.1 x.2.1 x.2.2.1 x.2.2.2.1⟩]⟩
theorem t160 : r160.Ok := ⟨Tryz.func98, by kernel_rfl, cons ⟨fun _ => rfl, fun x k => by kernel_rfl⟩ nil, fun k x => by kernel_rfl⟩
noncomputable def q160 := t160.q
noncomputable def r161 : Raw := ⟨55, Tryz.f55, ⟨[.fz tConfig, .fz tMend], [.v .bool .z], []⟩, [q130, q131, q133, q134, q159, q160], [15], [10, 11], [], fun k x => impl_MendOk.f k x.1 x.2.1, [⟨5, [sr 8 9 tConfig, sr 12 13 tMend, sv 40 (.sl tN) .z, sv 44 tI .z, sv 48 tI .z, sv 9 tConfig .z, sv 13 tMend .z], fun k x => impl_MendOk.p5 k x.1 x.2.1 x.2.2.1 x.2.2.2.1 x.2.2.2.2.1⟩, ⟨20, [sr 8 9 tConfig, sr 12 13 tMend, sv 28 tI .z, sv 9 tConfig .z, sv 13 tMend .z], fun k x => impl_MendOk.p20 k x.1 x.2.1 x.2.2.1⟩, ⟨22, [sr 8 9 tConfig, sr 12 13 tMend, sv 28 tI .z, sv 32 .bool .z, sv 9 tConfig .z, sv 13 tMend .z], fun k x => impl_MendOk.p22 k x.1 x.2.1 x.2.2.1 x.2.2.2.1⟩]⟩
theorem t161 : r161.Ok := ⟨Tryz.func55, by kernel_rfl, cons ⟨fun _ => rfl, fun x k => by kernel_rfl⟩ (cons ⟨fun _ => rfl, fun x k => by kernel_rfl⟩ (cons ⟨fun _ => rfl, fun x k => by kernel_rfl⟩ nil)), fun k x => by kernel_rfl⟩
noncomputable def q161 := t161.q
noncomputable def r162 : Raw := ⟨56, Tryz.f56, ⟨[.fz tRegister], [.v tI .z], []⟩, [], [12], [], [], fun k x => impl_FirstOpen.f k x.1, [⟨5, [sv 24 (.sl tEra) .z, sv 28 tI .z, sv 32 tI .z], fun k x => impl_FirstOpen.p5 k x.1 x.2.1 x.2.2.1⟩]⟩
theorem t162 : r162.Ok := ⟨Tryz.func56, by kernel_rfl, cons ⟨fun _ => rfl, fun x k => by kernel_rfl⟩ nil, fun k x => by kernel_rfl⟩
noncomputable def q162 := t162.q
noncomputable def r163 : Raw := ⟨23, Tryz.f23, ⟨[.fz (.fp tWorld)], [.v .bool .z], []⟩, [q161, q162], [13], [], [], fun k x => impl_World_mendsOk.f k x.1, [⟨5, [sv 0 (.fp tWorld) .z, sv 32 (.sl tMend) .z, sv 36 tI .z, sv 40 tI .z], fun k x => impl_World_mendsOk.p5 k x.1 x.2.1 x.2.2.1 x.2.2.2.1⟩]⟩
theorem t163 : r163.Ok := ⟨Tryz.func23, by kernel_rfl, cons ⟨fun _ => rfl, fun x k => by kernel_rfl⟩ nil, fun k x => by kernel_rfl⟩
noncomputable def q163 := t163.q
noncomputable def r164 : Raw := ⟨57, Tryz.f57, ⟨[.fz tReader], [.v .bool .z], []⟩, [q130], [], [], [], fun k x => impl_ReaderOk.f x.1, []⟩
theorem t164 : r164.Ok := ⟨Tryz.func57, by kernel_rfl, nil, fun k x => by kernel_rfl⟩
noncomputable def q164 := t164.q
noncomputable def r165 : Raw := ⟨24, Tryz.f24, ⟨[.fz (.fp tWorld)], [.v .bool .z], []⟩, [q164], [13], [], [], fun k x => impl_World_readersOk.f k x.1, [⟨5, [sv 0 (.fp tWorld) .z, sv 32 (.sl tReader) .z, sv 36 tI .z, sv 40 tI .z], fun k x => impl_World_readersOk.p5 k x.1 x.2.1 x.2.2.1 x.2.2.2.1⟩]⟩
theorem t165 : r165.Ok := ⟨Tryz.func24, by kernel_rfl, cons ⟨fun _ => rfl, fun x k => by kernel_rfl⟩ nil, fun k x => by kernel_rfl⟩
noncomputable def q165 := t165.q
noncomputable def r166 : Raw := ⟨25, Tryz.f25, ⟨[.fz (.fp tWorld)], [.v .bool .z], []⟩, [q137, q138, q156], [14], [], [], fun k x => impl_World_sentOk.f k x.1, [⟨5, [sv 0 (.fp tWorld) .z, sv 32 (.sl tSent) .z, sv 36 tI .z, sv 40 tI .z], fun k x => impl_World_sentOk.p5 k x.1 x.2.1 x.2.2.1 x.2.2.2.1⟩]⟩
theorem t166 : r166.Ok := ⟨Tryz.func25, by kernel_rfl, cons ⟨fun _ => rfl, fun x k => by kernel_rfl⟩ nil, fun k x => by kernel_rfl⟩
noncomputable def q166 := t166.q
noncomputable def r167 : Raw := ⟨6, Tryz.f6, ⟨[.fz tWorld], [.v .bool .z], []⟩, [q131, q151, q153, q157, q163, q165, q166], [], [2], [], fun k x => impl_WorldOk.f k x.1, [⟨4, [sr 4 5 tWorld, sv 12 .bool .z, sv 5 tWorld .z], fun k x => impl_WorldOk.p4 k x.1 x.2.1⟩]⟩
theorem t167 : r167.Ok := ⟨Tryz.func6, by kernel_rfl, cons ⟨fun _ => rfl, fun x k => by kernel_rfl⟩ nil, fun k x => by kernel_rfl⟩
noncomputable def q167 := t167.q
noncomputable def r168 : Raw := ⟨75, Tryz.f75, ⟨[.fz tEntry, .fz tI], [.v tI .z], []⟩, [], [], [], [], fun k x => impl_placeIn_1.f x.1 x.2.1, []⟩
theorem t168 : r168.Ok := ⟨Tryz.func75, by kernel_rfl, nil, fun k x => by kernel_rfl⟩
noncomputable def q168 := t168.q
noncomputable def r169 : Raw := ⟨74, Tryz.f74, ⟨[.fz (.sl tEntry), .fz tI, .fz (.fn 75 .unit)], [.v tI .z, .v .bool .z], []⟩, [q168], [34], [], [], fun k x => slices_BinarySearchFunc_impl_Entry_impl_Entry_int_impl_placeIn_1.f k x.1 x.2.1 x.2.2.1, [⟨7, [sv 0 (.sl tEntry) .z, sv 4 tI .z, sv 8 (.fn 75 .unit) .z, sv 32 tI .z, sv 36 tI .z, sv 40 tI .z], fun k x => slices_BinarySearchFunc_impl_Entry_impl_Entry_int_impl_placeIn_1.p7 k x.1 x.2.1 x.2.2.1 x.2.2.2.1 x.2.2.2.2.1 x.2.2.2.2.2.1⟩]⟩
theorem t169 : r169.Ok := ⟨Tryz.func74, by kernel_rfl, cons ⟨fun _ => rfl, fun x k => by kernel_rfl⟩ nil, fun k x => by kernel_rfl⟩
noncomputable def q169 := t169.q
noncomputable def r170 : Raw := ⟨32, Tryz.f32, ⟨[.fz (.sl tEntry), .fz tI], [.v tI .z, .v .bool .z], []⟩, [q169], [], [], [], fun k x => impl_placeIn.f k x.1 x.2.1, []⟩
theorem t170 : r170.Ok := ⟨Tryz.func32, by kernel_rfl, nil, fun k x => by kernel_rfl⟩
noncomputable def q170 := t170.q
noncomputable def r171 : Raw := ⟨11, Tryz.f11, ⟨[.fz tStore, .fz tI], [.v tEntry .z, .v .bool .z], []⟩, [q142, q170], [], [], [], fun k x => impl_StoreGet.f k x.1 x.2.1, []⟩
theorem t171 : r171.Ok := ⟨Tryz.func11, by kernel_rfl, nil, fun k x => by kernel_rfl⟩
noncomputable def q171 := t171.q
noncomputable def r172 : Raw := ⟨7, Tryz.f7, ⟨[.fz tWorld, .fz tI], [.v tN (.own .z)], []⟩, [q167, q171], [22, 31], [], [], fun k x => impl_HoldersOf.f k x.1 x.2.1, [⟨11, [sv 4 tI .z, sv 20 tN (.own .z), sv 64 (.sl tStore) .z, sv 68 tI .z, sv 72 tI .z], fun k x => impl_HoldersOf.p11 k x.1 x.2.1 x.2.2.1 x.2.2.2.1 x.2.2.2.2.1⟩]⟩
theorem t172 : r172.Ok := ⟨Tryz.func7, by kernel_rfl, cons ⟨fun _ => rfl, fun x k => by kernel_rfl⟩ nil, fun k x => by kernel_rfl⟩
noncomputable def q172 := t172.q
noncomputable def r173 : Raw := ⟨10, Tryz.f10, ⟨[.fz tWorld, .fz tI], [.v tN (.own .z)], []⟩, [q45, q69], [], [], [], fun k x => spec_HoldersOf.f k x.1 x.2.1, [⟨7, [sv 4 tI .z, sr 8 9 tWorld, sv 20 tN (.own .z), sv 24 tI .z, sv 9 tWorld .z], fun k x => spec_HoldersOf.p7 k x.1 x.2.1 x.2.2.1 x.2.2.2.1⟩]⟩
theorem t173 : r173.Ok := ⟨Tryz.func10, by kernel_rfl, cons ⟨fun _ => rfl, fun x k => by kernel_rfl⟩ nil, fun k x => by kernel_rfl⟩
noncomputable def q173 := t173.q
noncomputable def r174 : Raw := ⟨9, Tryz.f9, ⟨[.fz tN, .fz tN], [.v .bool .z], []⟩, [], [], [], [], fun k x => laws_sameInts.f k x.1 x.2.1, [⟨9, [sv 0 tN .z, sv 4 tN .z, sv 20 tI .z], fun k x => laws_sameInts.p9 k x.1 x.2.1 x.2.2.1⟩]⟩
theorem t174 : r174.Ok := ⟨Tryz.func9, by kernel_rfl, cons ⟨fun _ => rfl, fun x k => by kernel_rfl⟩ nil, fun k x => by kernel_rfl⟩
noncomputable def q174 := t174.q
noncomputable def r175 : Raw := ⟨12, Tryz.f12, ⟨[.fz tN, .fz tI], [.v .bool .z], []⟩, [], [], [], [], fun k x => laws_within.f k x.1 x.2.1, [⟨5, [sv 0 tN .z, sv 4 tI .z, sv 20 tI .z], fun k x => laws_within.p5 k x.1 x.2.1 x.2.2.1⟩]⟩
theorem t175 : r175.Ok := ⟨Tryz.func12, by kernel_rfl, cons ⟨fun _ => rfl, fun x k => by kernel_rfl⟩ nil, fun k x => by kernel_rfl⟩
noncomputable def q175 := t175.q
noncomputable def r176 : Raw := ⟨13, Tryz.f13, ⟨[.fz (.sl (.int .u8))], [.v tWorld (.two .z o12), .v tI .z], []⟩, [q1, q4, q5, q127], [], [], [], fun k x => spec_DrawSureOf.f k x.1, []⟩
theorem t176 : r176.Ok := ⟨Tryz.func13, by kernel_rfl, nil, fun k x => by kernel_rfl⟩
noncomputable def q176 := t176.q
noncomputable def r177 : Raw := ⟨35, Tryz.f35, ⟨[.fz tWriter], [.v tI .z], []⟩, [], [12], [], [], fun k x => impl_WriterSure.f k x.1, [⟨5, [sr 4 5 tWriter, sv 24 (.sl tWord) .z, sv 28 tI .z, sv 32 tI .z, sv 5 tWriter .z], fun k x => impl_WriterSure.p5 k x.1 x.2.1 x.2.2.1 x.2.2.2.1⟩]⟩
theorem t177 : r177.Ok := ⟨Tryz.func35, by kernel_rfl, cons ⟨fun _ => rfl, fun x k => by kernel_rfl⟩ nil, fun k x => by kernel_rfl⟩
noncomputable def q177 := t177.q
noncomputable def r178 : Raw := ⟨14, Tryz.f14, ⟨[.fz tWorld, .fz tI], [.v tI .z], []⟩, [q177], [13], [], [], fun k x => impl_SureOf.f k x.1 x.2.1, [⟨5, [sv 4 tI .z, sv 32 (.sl tWriter) .z, sv 36 tI .z, sv 40 tI .z], fun k x => impl_SureOf.p5 k x.1 x.2.1 x.2.2.1 x.2.2.2.1⟩]⟩
theorem t178 : r178.Ok := ⟨Tryz.func14, by kernel_rfl, cons ⟨fun _ => rfl, fun x k => by kernel_rfl⟩ nil, fun k x => by kernel_rfl⟩
noncomputable def q178 := t178.q
@[reducible] noncomputable def laws_FnWorlds.g : Sig := ⟨[.fz (.sl (.int .u8))], [.v .bool .z], []⟩
@[reducible] noncomputable def laws_FnWorlds.fk : Nat → denI laws_FnWorlds.g.pms → Option (denR (outTys laws_FnWorlds.g.rts laws_FnWorlds.g.pms)) := fun k x => laws_FnWorlds.f k x.1
noncomputable def r179 : Raw := ⟨3, Tryz.f3, laws_FnWorlds.g, [q0, q45, q100, q129, q167, q171, q172, q173, q174, q175, q176, q178], [], [], [4], laws_FnWorlds.fk, [⟨19, [sv 0 (.sl (.int .u8)) .z, sr 12 13 tWorld, sv 16 tI .z, sv 20 .bool .z, sv 24 tN (.own .z), sv 28 tI .z, sv 13 tWorld (.two .z o12)], fun k x => laws_FnWorlds.p19 k x.1 x.2.1 x.2.2.1 x.2.2.2.1 x.2.2.2.2.1 x.2.2.2.2.2.1⟩]⟩
theorem t179 : r179.Ok := ⟨Tryz.func3, by kernel_rfl, cons ⟨fun _ => rfl, fun x k => by kernel_rfl⟩ nil, fun k x => by kernel_rfl⟩
theorem laws_FnWorlds.ok (k : Nat) : SmOk Tryz.prog ⟨3, laws_FnWorlds.g.pms, laws_FnWorlds.g.rts, laws_FnWorlds.fk k⟩ := t179.sm k
end Go.Proofs.YtngfjichhphjeaaGreat.OmFnWorlds
