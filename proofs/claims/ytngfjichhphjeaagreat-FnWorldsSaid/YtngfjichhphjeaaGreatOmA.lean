/- OM: plain typed values with ownership told by place, the interpreter of Go code over them, and what their relation to the machine is. Conditions: none. -/
import Derived.Orders
import Derived.KernelRfl
import Derived.Below
import Derived.WalkKit
import Derived.Laws.StructEq
set_option linter.unusedVariables false
set_option linter.unusedSimpArgs false
namespace Go.OM
open Go

/-- A value's shape. A struct is a chain of pairs that ends in unit. -/
inductive Ty where
  | int (k : IntKind) | bool | str | sl (t : Ty) | unit | pair (a b : Ty) | fp (t : Ty) | fn (g : Nat) (t : Ty)
  deriving DecidableEq

/-- The plain Lean type of a shape. -/
@[reducible] def Ty.den : Ty → Type
  | .int _ => Int | .bool => Bool | .str => ByteArray | .sl t => List t.den | .unit => Unit | .pair a b => a.den × b.den | .fp t => t.den | .fn _ t => t.den

def Ty.size : Ty → Nat
  | .unit => 0 | .pair a b => a.size + b.size | _ => 1
def Ty.agg : Ty → Bool
  | .unit => true | .pair _ _ => true | _ => false

def zv : (t : Ty) → t.den
  | .int _ => (0 : Int) | .bool => false | .str => (⟨#[]⟩ : ByteArray) | .sl _ => [] | .unit => () | .pair a b => (zv a, zv b) | .fp t => zv t | .fn _ t => zv t

def eqD : (t : Ty) → DecidableEq t.den
  | .int _ => inferInstanceAs (DecidableEq Int) | .bool => inferInstanceAs (DecidableEq Bool) | .str => inferInstanceAs (DecidableEq ByteArray)
  | .sl t => have := eqD t; inferInstanceAs (DecidableEq (List t.den)) | .unit => inferInstanceAs (DecidableEq Unit)
  | .pair a b => have := eqD a; have := eqD b; inferInstanceAs (DecidableEq (a.den × b.den)) | .fp t => eqD t | .fn _ t => eqD t

/-- Who owns a value's rows: 'own' a row of the place's own, 'z' nothing (what it leads to is only read), 'a' there is no element, 'dead' it was taken. -/
inductive Ow where
  | a | z | own (o : Ow) | two (x y : Ow) | dead
  deriving DecidableEq
def Ow.mk2 : Ow → Ow → Ow
  | .z, .z => .z | x, y => .two x y
def Ow.has : Ow → Bool
  | .own _ => true | .two x y => x.has || y.has | _ => false
def Ow.live : Ow → Bool
  | .own o => o.live | .two x y => x.live && y.live | .dead => false | _ => true
def Ow.isDead : Ow → Bool
  | .dead => true | _ => false
def Ow.fst : Ow → Option Ow
  | .two x _ => some x | .z => some .z | _ => none
def Ow.snd : Ow → Option Ow
  | .two _ y => some y | .z => some .z | _ => none
/-- All rows given up. -/
def Ow.gone : Ow → Bool
  | .own o => o.gone | .two x y => x.gone && y.gone | .dead => false | _ => true
def Ow.join : Ow → Ow → Option Ow
  | .a, y => some y
  | .z, y => if y.gone then some .z else none
  | .own x, .own y => (x.join y).map .own
  | .two x y, .two x' y' => (x.join x').bind fun u => (y.join y').map fun v => Ow.mk2 u v
  | x, .a => some x
  | x, .z => if x.gone then some .z else none
  | _, _ => none
/-- o may be taken for o' (its own parts may be given up). -/
def Ow.le : Ow → Ow → Bool
  | .a, _ => true
  | .z, .z => true
  | .own x, .own y => x.le y
  | .own x, .z => x.live
  | .two x y, .two x' y' => x.le x' && y.le y'
  | .two x y, .z => x.live && y.live
  | .dead, .dead => true
  | _, _ => false
def zo : Ty → Ow
  | .sl _ => .own .a | .pair a b => Ow.mk2 (zo a) (zo b) | _ => .z

/-- All of its own. -/
def fo : Ty → Ow
  | .sl t => .own (fo t) | .pair a b => Ow.mk2 (fo a) (fo b) | _ => .z
inductive Step where
  | fst | snd | ix (i : Nat)
  deriving DecidableEq
abbrev Path := List Step
def Path.flat : Path → Bool
  | [] => true | .ix _ :: _ => false | _ :: p => Path.flat p
/-- At most one index. -/
def Path.ones : Path → Bool
  | [] => true | .ix _ :: p => Path.flat p | _ :: p => Path.ones p
def fpath : Nat → Path
  | 0 => [.fst] | n + 1 => .snd :: fpath n

def getP : (t : Ty) → t.den → Path → Option ((t' : Ty) × t'.den)
  | t, x, [] => some ⟨t, x⟩
  | .pair a _, x, .fst :: p => getP a x.1 p
  | .pair _ b, x, .snd :: p => getP b x.2 p
  | .sl t, xs, .ix i :: p => getP t (xs.getD i (zv t)) p
  | _, _, _ => none
/-- A part's shape. -/
def getT : Ty → Path → Option Ty
  | t, [] => some t
  | .pair a _, .fst :: p => getT a p
  | .pair _ b, .snd :: p => getT b p
  | .sl t, .ix _ :: p => getT t p
  | _, _ => none
def setP : (t : Ty) → t.den → Path → (t' : Ty) → t'.den → Option t.den
  | t, _, [], t', y => if h : t' = t then some (h ▸ y) else none
  | .pair a _, x, .fst :: p, t', y => (setP a x.1 p t' y).map fun e => (e, x.2)
  | .pair _ b, x, .snd :: p, t', y => (setP b x.2 p t' y).map fun e => (x.1, e)
  | .sl t, xs, .ix i :: p, t', y => (setP t (xs.getD i (zv t)) p t' y).map fun e => xs.set i e
  | _, _, _, _, _ => none
def getO : Ow → Path → Option Ow
  | o, [] => some o
  | .z, _ => some .z
  | .two x _, .fst :: p => getO x p
  | .two _ y, .snd :: p => getO y p
  | .own o, .ix _ :: p => getO o p
  | _, _ => none
def setO : Ow → Path → Ow → Option Ow
  | _, [], o => some o
  | .z, .fst :: p, o => (setO .z p o).map fun e => Ow.mk2 e .z
  | .z, .snd :: p, o => (setO .z p o).map fun e => Ow.mk2 .z e
  | .two x y, .fst :: p, o => (setO x p o).map fun e => Ow.mk2 e y
  | .two x y, .snd :: p, o => (setO y p o).map fun e => Ow.mk2 x e
  | .own x, .ix _ :: p, o => (setO x p o).bind fun e => if e = x then some (.own x) else none
  | _, _, _ => none

/-- Places: a temporary's own, a box's (named by the temporary that got its address). -/
abbrev Loc := Nat
@[reducible] def tm (n : Nat) : Loc := 4 * n
@[reducible] def bx (n : Nat) : Loc := 4 * n + 1
/-- A component of a call's results; the box of one that is an address; whether a place is the one that it was. -/
@[reducible] def cp (d i : Nat) : Loc := 4 * (8 * d + i) + 2
@[reducible] def bxc (d i : Nat) : Loc := bx (10000 + 8 * d + i)
@[reducible] def idl (l : Loc) : Loc := 4 * l + 3
/-- The box that a parameter leads to. -/
@[reducible] def pb (i : Nat) : Loc := bx (9000 + i)
abbrev Lend := List (Loc × Nat)

/-- A result's kind: a value, or the address of a box of its own. -/
structure RT where
  ptr : Bool
  ty : Ty
  o : Ow

@[reducible] def RT.v (t : Ty) (o : Ow) : RT := ⟨false, t, o⟩
@[reducible] def RT.p (t : Ty) (o : Ow) : RT := ⟨true, t, o⟩
@[reducible] def denR : List Ty → Type
  | [] => Unit | [a] => a.den | a :: b :: r => a.den × denR (b :: r)

/-- A value: its shape, who owns its rows, what it is, the places that it is lent from, its header's tag. -/
structure V where
  t : Ty
  o : Ow
  x : t.den
  lend : Lend
  tag : Nat
inductive T where
  | undef
  | und
  | val (v : V) (org : Option (Loc × Path × Nat))
  | prp (pos : Bool) (p : Prop) (d : Decidable p)
  | ref (l : Loc) (p : Path) (v hv iv : Nat) (t : Ty)
  | tup (b n iv : Nat)
/-- A place: what it holds; how often it was written, its header was. -/
structure Cell where
  t : T
  v : Nat
  hv : Nat
abbrev St := Loc → Cell
abbrev Upds := List (Loc × Cell)
def upd (s : St) (l : Loc) (c : Cell) : St := fun j => cond (Nat.beq j l) c (s j)
def upds (s : St) : Upds → St
  | [] => s
  | (l, c) :: r => upds (upd s l c) r

/-- What an operation comes to: an end, a test that must hold, a split, a call. -/
inductive Prog (α : Type) : Type 1 where
  | ret (x : α)
  | fail
  | need (p : Prop) (d : Decidable p) (k : Prog α)
  | br (p : Prop) (d : Decidable p) (x y : Prog α)
  | call {β : Type} (m : Option β) (k : β → Prog α)
def Prog.run {α : Type} {R : Type} : Prog α → (α → Option R) → Option R
  | .ret x, k => k x
  | .fail, _ => none
  | .need p d q, k => @ite _ p d (q.run k) none
  | .br p d x y, k => @ite _ p d (x.run k) (y.run k)
  | .call m q, k => m.bind fun b => (q b).run k
def Prog.bind {α β : Type} : Prog α → (α → Prog β) → Prog β
  | .ret x, f => f x
  | .fail, _ => .fail
  | .need p d q, f => .need p d (q.bind f)
  | .br p d x y, f => .br p d (x.bind f) (y.bind f)
  | .call m q, f => .call m fun b => (q b).bind f
/-- How a parameter is handed on: to be read; for good; a row (or a struct of rows) to be written; a box's address to be written. -/
inductive PM where
  | fz (t : Ty) | own (t : Ty) (o : Ow) | mut (t : Ty) (o : Ow) | ptr (t : Ty) (o o' : Ow)
@[reducible] def PM.ty : PM → Ty | .fz t => t | .own t _ => t | .mut t _ => t | .ptr t _ _ => t
@[reducible] def PM.outs : PM → List Ty | .mut t _ => [t] | .ptr t _ _ => [t] | _ => []
@[reducible] def denI : List PM → Type
  | [] => Unit | p :: r => p.ty.den × denI r
@[reducible] def outTys (rts : List RT) (pms : List PM) : List Ty := rts.map RT.ty ++ pms.flatMap PM.outs
/-- A function's summary. -/
structure Sm where
  f : Nat
  pms : List PM
  rts : List RT
  fn : denI pms → Option (denR (outTys rts pms))

structure Env where
  tys : List (Option Ty)
  sms : List Sm
  takes : List Nat
  joins : List Nat
  eqs : List Nat

section
variable (E : Env)
def tyOf (i : Nat) : Option Ty := (E.tys[i]?).join
def validL (s : St) (l : Lend) : Bool := l.all fun e => Nat.beq (s e.1).v e.2
def validR (s : St) (l : Loc) (p : Path) (v hv iv : Nat) : Bool := Nat.beq (s (idl l)).v iv && (p.flat || (Nat.beq (s l).hv hv && (p.ones || Nat.beq (s l).v v)))
def validO (s : St) : Option (Loc × Path × Nat) → Option (Loc × Path × Nat)
  | some (l, p, v) => if Nat.beq (s l).v v then some (l, p, v) else none
  | none => none
def V.p (t : Ty) (x : t.den) : V := ⟨t, .z, x, [], 0⟩
def constT (ty : Option Ty) : Value → Option V
  | .int k n => some (.p (.int k) n)
  | .bool b => some (.p .bool b)
  | .string x => some (.p .str x)
  | .slice none 0 0 => match ty with | some (.sl t) => some ⟨.sl t, .own .a, [], [], 0⟩ | _ => none
  | _ => none
def boolOf (pos : Bool) (p : Prop) (d : Decidable p) : Bool := cond pos (@decide p d) (!(@decide p d))
/-- What an operand is, read without being taken. -/
def peek (s : St) (ty : Option Ty) : Operand → Option T
  | .tmp j => match (s (tm j)).t with
    | .val ⟨t, o, x, lend, tag⟩ org => if validL s lend && o.live then
        (if o.has then some (.val ⟨t, .z, x, (tm j, (s (tm j)).v) :: lend, 0⟩ (some (tm j, [], (s (tm j)).v))) else some (.val ⟨t, o, x, lend, 0⟩ (validO s org))) else none
    | .prp pos p d => some (.prp pos p d)
    | .ref l p v hv iv t => if validR s l p v hv iv then some (.ref l p v hv iv t) else none
    | .tup b n iv => if Nat.beq (s (idl (tm b))).v iv then some (.tup b n iv) else none
    | _ => none
  | .const v => (constT ty v).map (.val · none)
  | .func f => some (.val (.p (.fn f .unit) ()) none)
  | .global _ => none
/-- As a value: a test becomes a bool. -/
def T.val? : T → Option V
  | .val v _ => some v
  | .prp pos p d => some (.p .bool (boolOf pos p d))
  | _ => none
def peekV (s : St) (ty : Option Ty) (x : Operand) : Option V := (peek s ty x).bind T.val?
def bump (s : St) (l : Loc) (t : T) : Loc × Cell := (l, ⟨t, (s l).v + 1, (s l).hv + 1⟩)
def bumpIn (s : St) (l : Loc) (t : T) : Loc × Cell := (l, ⟨t, (s l).v + 1, (s l).hv⟩)
/-- What an operand is, taken for good: its temporary has it no more, if it owns anything. -/
def take (s : St) (ty : Option Ty) : Operand → Option (V × Upds)
  | .tmp j => match (s (tm j)).t with
    | .val ⟨t, o, x, lend, tag⟩ _ => if validL s lend && o.live then (if o.has then some (⟨t, o, x, lend, tag⟩, [bump s (tm j) .undef]) else some (⟨t, o, x, lend, 0⟩, [])) else none
    | .prp pos p d => some (.p .bool (boolOf pos p d), [])
    | _ => none
  | x => (peekV s ty x).map fun v => (v, [])
/-- What is stored: what is dead may fill a whole box. -/
def deadOf (s : St) : Operand → Option V
  | .tmp j => match (s (tm j)).t with
    | .val ⟨t, o, x, lend, _⟩ _ => if validL s lend && o.isDead then some ⟨t, o, x, lend, 0⟩ else none
    | _ => none
  | _ => none
def takeS (s : St) (ty : Option Ty) (p : Path) (x : Operand) : Option (V × Upds) :=
  match take s ty x with
  | some q => some q
  | none => if p.isEmpty then (deadOf s x).map fun v => (v, []) else none
/-- The content of a place. -/
def content (s : St) (l : Loc) : Option V :=
  match (s l).t with
  | .val v _ => if validL s v.lend then some v else none
  | _ => none
/-- A row that is to be written or given up: where it lies. -/
def placeOf (s : St) (x : Operand) : Option (Ty × Loc × Path) :=
  match peek s none x with
  | some (.val v (some (l, p, _))) => some (v.t, l, p)
  | _ => none
def castT {t t' : Ty} (x : t.den) : Option t'.den := if h : t = t' then some (h ▸ x) else none

/-- The longest row, told so that the checker does not count it out. -/
theorem limEx : ∃ x : Int, x = 1073741824 := ⟨_, rfl⟩
noncomputable def lim : Int := Classical.choose limEx
theorem lim_eq : lim = 1073741824 := Classical.choose_spec limEx
/-- Closed sizes: rows stay below this many elements. -/
def bytesOf (xs : List Int) : ByteArray := ⟨(xs.map fun n => UInt8.ofNat n.toNat).toArray⟩
def listOf (s : ByteArray) : List Int := s.data.toList.map fun b => (b.toNat : Int)
def wrap64 (x : Int) : Int := IntKind.i64.wrap x
def wrapK : IntKind → Int → Int
  | .i64, x => wrap64 x | k, x => k.wrap x
def bits (k : IntKind) (f : BitVec k.bits → BitVec k.bits → BitVec k.bits) (x y : Int) : Int := k.wrap (f (BitVec.ofInt k.bits x) (BitVec.ofInt k.bits y)).toNat
def andK (k : IntKind) (x y : Int) : Int := bits k (· &&& ·) x y
def orK (k : IntKind) (x y : Int) : Int := bits k (· ||| ·) x y
def xorK (k : IntKind) (x y : Int) : Int := bits k (· ^^^ ·) x y
def shlK (k : IntKind) (x y : Int) : Int := wrapK k (x * 2 ^ (min y.toNat k.bits))
def shrK (k : IntKind) (x y : Int) : Int := x.fdiv (2 ^ (min y.toNat k.bits))

def T.i (k : IntKind) (x : Int) : T := .val (.p (.int k) x) none
def evBin (op : BinOp) (k : IntKind) (x y : Int) : Prog T :=
  match op with
  | .add => .ret (.i k (wrapK k (x + y)))
  | .sub => .ret (.i k (wrapK k (x - y)))
  | .mul => .ret (.i k (wrapK k (x * y)))
  | .quo => .br (y = 0) inferInstance .fail (.ret (.i k (wrapK k (x.tdiv y))))
  | .rem => .br (y = 0) inferInstance .fail (.ret (.i k (x.tmod y)))
  | .and => .ret (.i k (andK k x y))
  | .or => .ret (.i k (orK k x y))
  | .xor => .ret (.i k (xorK k x y))
  | .eql => .ret (.prp true (x = y) inferInstance)
  | .neq => .ret (.prp false (x = y) inferInstance)
  | .lss => .ret (.prp true (x < y) inferInstance)
  | .leq => .ret (.prp true (x ≤ y) inferInstance)
  | .gtr => .ret (.prp true (y < x) inferInstance)
  | .geq => .ret (.prp true (y ≤ x) inferInstance)
  | _ => .fail
def evBinT (op : BinOp) (a b : V) : Prog T :=
  match op, a, b with
  | .shl, ⟨.int k, _, x, _, _⟩, ⟨.int _, _, y, _, _⟩ => .need (0 ≤ y) inferInstance (.ret (.i k (shlK k x y)))
  | .shr, ⟨.int k, _, x, _, _⟩, ⟨.int _, _, y, _, _⟩ => .need (0 ≤ y) inferInstance (.ret (.i k (shrK k x y)))
  | op, ⟨.int k, _, x, _, _⟩, ⟨.int k', _, y, _, _⟩ => if k = k' then evBin op k x y else .fail
  | .add, ⟨.str, _, x, _, _⟩, ⟨.str, _, y, _, _⟩ => .need ((x.size : Int) + (y.size : Int) ≤ 9223372036854775807) inferInstance (.ret (.val (.p .str (x ++ y)) none))
  | .eql, ⟨.str, _, x, _, _⟩, ⟨.str, _, y, _, _⟩ => .ret (.prp true (x = y) (eqD .str x y))
  | .neq, ⟨.str, _, x, _, _⟩, ⟨.str, _, y, _, _⟩ => .ret (.prp false (x = y) (eqD .str x y))
  | _, _, _ => .fail
/-- Whole numbers, bools and strings alone. -/
def Ty.scal : Ty → Bool
  | .int _ => true | .bool => true | .str => true | .unit => true | .pair a b => a.scal && b.scal | _ => false
/-- Two structs held against each other. -/
def evEqS (ty : Option Ty) (op : BinOp) (a b : V) : Prog T :=
  match ty, op, a, b with
  | some t0, .eql, ⟨t, _, x, _, _⟩, ⟨_, _, y, _, _⟩ => if t.scal && decide (t0 = t) then match castT y with | some y => .ret (.prp true (x = y) (eqD t x y)) | none => .fail else .fail
  | some t0, .neq, ⟨t, _, x, _, _⟩, ⟨_, _, y, _, _⟩ => if t.scal && decide (t0 = t) then match castT y with | some y => .ret (.prp false (x = y) (eqD t x y)) | none => .fail else .fail
  | _, _, _, _ => .fail
def evUn (op : UnOp) (a : T) : Prog T :=
  match op, a with
  | .not, .prp pos p d => .ret (.prp (!pos) p d)
  | .not, .val ⟨.bool, _, b, _, _⟩ _ => .ret (.prp false (b = true) inferInstance)
  | .neg, .val ⟨.int k, _, x, _, _⟩ _ => .ret (.i k (wrapK k (0 - x)))
  | _, _ => .fail

/-- Elements that are given one by one. -/
def gatherE (t : Ty) : Nat → List (Nat × Operand) → St → Upds → List t.den → Ow → Lend → Option (V × Upds)
  | _, [], _, u, acc, o, lend => some (⟨.sl t, .own o, acc, lend, 0⟩, u)
  | i, (j, x) :: r, s, u, acc, o, lend =>
    if Nat.beq i j then
      match take s (some t) x with
      | some (⟨t', o', y, lend', _⟩, u') => match (castT y : Option t.den), o.join o' with
        | some y, some o => gatherE t (i + 1) r (upds s u') (u ++ u') (acc ++ [y]) o (lend ++ lend')
        | _, _ => none
      | none => none
    else none
/-- A struct's parts set one by one. -/
def gatherF : List (Nat × Operand) → St → Upds → V → Option (V × Upds)
  | [], _, u, acc => some (acc, u)
  | (j, x) :: r, s, u, ⟨t, o, acc, lend, _⟩ =>
    match getP t acc (fpath j) with
    | some ⟨tj, _⟩ => match take s (some tj) x with
      | some (⟨t', o', y, lend', _⟩, u') => match setP t acc (fpath j) t' y, setO o (fpath j) o' with
        | some acc, some o => gatherF r (upds s u') (u ++ u') ⟨t, o, acc, lend ++ lend', 0⟩
        | _, _ => none
      | none => none
    | none => none

/-- What a call hands on. 'back': places that are written behind it. -/
structure Gath (pms : List PM) where
  x : denI pms
  lend : Lend
  back : List (Loc × Path)
  moved : Upds
/-- A place's content at a path. -/
def at_ (s : St) (l : Loc) (p : Path) : Option (V × ((t : Ty) × t.den) × Ow) :=
  match content s l with
  | some v => match getP v.t v.x p, getO v.o p with
    | some y, some o' => some (v, y, o')
    | _, _ => none
  | none => none
/-- One argument: its value, what it is lent from, where it is written back, what is moved. -/
def argOf (s : St) : (p : PM) → Operand → Option (p.ty.den × Lend × List (Loc × Path) × Upds)
  | .fz t, x => match peek s (some t) x with
    | some (.ref l p _ _ _ _) => match t with
      | .fp t' => match at_ s l p with
        | some (v, ⟨_, y⟩, o) => if o.live then match (castT y : Option t'.den) with
          | some y => some (y, (l, (s l).v) :: v.lend, [], [])
          | none => none
          else none
        | none => none
      | _ => none
    | some T => match T.val? with
      | some v => match (castT v.x : Option t.den) with
        | some y => some (y, v.lend, [], [])
        | none => none
      | none => none
    | none => none
  | .own t o, x => match placeOf s x with
    | some (tx, l, p) => if p.flat && decide (tx = t) then match at_ s l p with
      | some (v, ⟨_, y⟩, o') => if o'.le o then match (castT y : Option t.den), setO v.o p .dead with
        | some y, some od => some (y, v.lend, [], [bump s l (.val { v with o := od, tag := 0 } none)])
        | _, _ => none
        else none
      | none => none
      else none
    | none => none
  | .mut t o, x => match placeOf s x with
    | some (tx, l, p) => match at_ s l p with
      | some (v, ⟨_, y⟩, o') => if o'.le o && decide (tx = t) then match (castT y : Option t.den) with
        | some y => some (y, v.lend, [(l, p)], [])
        | none => none
        else none
      | none => none
    | none => none
  | .ptr t o _, x => match peek s none x with
    | some (.ref l [] _ _ _ _) => match at_ s l [] with
      | some (v, ⟨_, y⟩, o') => if o'.le o then match (castT y : Option t.den) with
        | some y => some (y, v.lend, [(l, [])], [])
        | none => none
        else none
      | none => none
    | _ => none
def gatherA : (pms : List PM) → List Operand → St → Option (Gath pms)
  | [], [], _ => some ⟨(), [], [], []⟩
  | p :: ps, x :: xs, s => match argOf s p x, gatherA ps xs s with
    | some (y, lend, back, moved), some g => some ⟨(y, g.x), lend ++ g.lend, back ++ g.back, moved ++ g.moved⟩
    | _, _ => none
  | _, _, _ => none
/-- The captured variables of a closure, handed on behind the arguments. -/
def gatherC : (pms : List PM) → (t : Ty) → t.den → Option (denI pms)
  | [], .unit, _ => some ()
  | .fz t :: ps, .pair a b, x => if t.agg then none else match (castT x.1 : Option t.den), gatherC ps b x.2 with
    | some y, some r => some (y, r)
    | _, _ => none
  | _, _, _ => none
def appI : (p q : List PM) → denI p → denI q → denI (p ++ q)
  | [], _, _, y => y
  | _ :: p, q, x, y => (x.1, appI p q x.2 y)
/-- The head and the rest of a row of results. -/
def headR : (a : Ty) → (r : List Ty) → denR (a :: r) → a.den
  | _, [], x => x | _, _ :: _, x => x.1
def tailR : (a : Ty) → (r : List Ty) → denR (a :: r) → denR r
  | _, [], _ => () | _, _ :: _, x => x.2
def consR : (a : Ty) → (r : List Ty) → a.den → denR r → denR (a :: r)
  | _, [], x, _ => x | _, _ :: _, x, y => (x, y)
def splitR : (a b : List Ty) → denR (a ++ b) → denR a × denR b
  | [], _, x => ((), x)
  | t :: r, b, x => (consR t r (headR t (r ++ b) x) (splitR r b (tailR t (r ++ b) x)).1, (splitR r b (tailR t (r ++ b) x)).2)
def joinR : (a b : List Ty) → denR a → denR b → denR (a ++ b)
  | [], _, _, y => y
  | t :: r, b, x, y => consR t (r ++ b) (headR t r x) (joinR r b (tailR t r x) y)
/-- Does a result lead to rows that are not its own? -/
def frz : Ty → Ow → Bool
  | .sl _, .z => true | .fp _, _ => true | .fn _ _, _ => true
  | .sl t, .own o => frz t o
  | .pair a b, o => match o.fst, o.snd with | some x, some y => frz a x || frz b y | _, _ => false
  | _, _ => false
/-- What a value leads to, if it leads to rows that are not its own. -/
@[reducible] def lnOf (b : Bool) (ln : Lend) : Lend := cond b ln []
/-- Places that a call has written get what it left there. -/
def backs : (pms : List PM) → denR (pms.flatMap PM.outs) → List (Loc × Path) → Lend → St → Option Upds
  | [], _, [], _, _ => some []
  | .fz _ :: ps, y, bs, ln, s => backs ps y bs ln s
  | .own _ _ :: ps, y, bs, ln, s => backs ps y bs ln s
  | .mut t o :: ps, y, (l, p) :: bs, ln, s => match content s l with
    | some v => match setP v.t v.x p t (headR t (ps.flatMap PM.outs) y), setO v.o p o with
      | some yn, some on => (backs ps (tailR t (ps.flatMap PM.outs) y) bs ln s).map fun u => bump s l (.val ⟨v.t, on, yn, v.lend ++ lnOf (frz t o) ln, v.tag⟩ none) :: u
      | _, _ => none
    | none => none
  | .ptr t _ o' :: ps, y, (l, _) :: bs, ln, s => (backs ps (tailR t (ps.flatMap PM.outs) y) bs ln s).map fun u => bump s l (.val ⟨t, o', headR t (ps.flatMap PM.outs) y, lnOf (frz t o') ln, 0⟩ none) :: u
  | _, _, _, _, _ => none
/-- A value of its own in a temporary; a box of its own. -/
def putV (s : St) (d : Nat) (v : V) : Upds := [bump s (tm d) (.val v none)]
def newBox (s : St) (l : Loc) (v : V) : Upds := [bump s l (.val v none), bump s (idl l) .undef]
def refTo (s : St) (l : Loc) (t : Ty) : T := .ref l [] ((s l).v + 1) ((s l).hv + 1) ((s (idl l)).v + 1) t
def putB (s : St) (d : Nat) (v : V) : Upds := newBox s (bx d) v ++ [bump s (tm d) (refTo s (bx d) v.t)]
/-- A call's results in its destination. -/
def comps (s : St) (d : Nat) : Nat → (rts : List RT) → denR (rts.map RT.ty) → Lend → Upds
  | _, [], _, _ => []
  | i, r :: rs, x, ln => let v : V := ⟨r.ty, r.o, headR r.ty (rs.map RT.ty) x, lnOf (frz r.ty r.o) ln, 0⟩
    (if r.ptr then newBox s (bxc d i) v ++ [bump s (cp d i) (refTo s (bxc d i) r.ty)] else [bump s (cp d i) (.val v none)]) ++ comps s d (i + 1) rs (tailR r.ty (rs.map RT.ty) x) ln
def results (s : St) (d : Nat) : (rts : List RT) → denR (rts.map RT.ty) → Lend → Upds
  | [], _, _ => [bump s (tm d) .undef]
  | [r], x, ln => if r.ptr then putB s d ⟨r.ty, r.o, x, lnOf (frz r.ty r.o) ln, 0⟩ else putV s d ⟨r.ty, r.o, x, lnOf (frz r.ty r.o) ln, 0⟩
  | ts, x, ln => bump s (idl (tm d)) .undef :: (comps s d 0 ts x ln ++ [bump s (tm d) (.tup d ts.length ((s (idl (tm d))).v + 1))])
def RT.frz (r : RT) : Bool := OM.frz r.ty r.o
def findSm (f : Nat) (pms : Sm → Bool) : List Sm → Option Sm
  | [] => none
  | s :: r => if Nat.beq s.f f && pms s then some s else findSm f pms r
def noDup : List Loc → Bool
  | [] => true | l :: r => !r.any (Nat.beq l) && noDup r
def evGo (sm : Sm) (d : Option Nat) (s : St) (x : denI sm.pms) (lend : Lend) (back : List (Loc × Path)) (moved : Upds) : Prog Upds :=
  let ln := if sm.rts.any RT.frz || sm.pms.any (fun p => !p.outs.isEmpty) then lend else []
  let ls := moved.map (·.1) ++ back.map (·.1)
  if noDup ls && lend.all (fun e => !ls.any (Nat.beq e.1)) && Nat.ble sm.rts.length 8 then
    .call (sm.fn x) fun r =>
      let q := splitR (sm.rts.map RT.ty) (sm.pms.flatMap PM.outs) r
      match backs sm.pms q.2 back ln s with
      | some u => .ret (moved ++ u ++ (match d with | some d => results (upds s (moved ++ u)) d sm.rts q.1 ln | none => []))
      | none => .fail
  else .fail
def evCall (sm : Sm) (args : List Operand) (cap : Option V) (d : Option Nat) (s : St) : Prog Upds :=
  match cap with
  | none => match gatherA sm.pms args s with
    | some g => evGo sm d s g.x g.lend g.back g.moved
    | none => .fail
  | some v =>
    match gatherA (sm.pms.take args.length) args s, gatherC (sm.pms.drop args.length) v.t v.x with
    | some g, some c => evGo sm d s (cast (congrArg denI (List.take_append_drop args.length sm.pms)) (appI _ _ g.x c)) (v.lend ++ g.lend) g.back g.moved
    | _, _ => .fail

/-- What is appended: elements, who owns their rows. -/
def appSrc (t : Ty) : V → Option ((Ty.sl t).den × Ow × Lend)
  | ⟨.sl t', .own o, ys, ln, _⟩ => (castT (t := .sl t') ys : Option (Ty.sl t).den).map fun ys => (ys, o, ln)
  | ⟨.sl t', .z, ys, ln, _⟩ => (castT (t := .sl t') ys : Option (Ty.sl t).den).map fun ys => (ys, .z, ln)
  | ⟨.str, _, ys, ln, _⟩ => (castT (t := .sl (.int .u8)) (listOf ys) : Option (Ty.sl t).den).map fun ys => (ys, .z, ln)
  | _ => none
noncomputable def evAppend (s : St) (d : Nat) (ty ty1 : Option Ty) (x y : Operand) : Prog Upds :=
  match placeOf s x with
  | some (tx, l, p) => if p.flat then match at_ s l p with
    | some (v, ⟨.sl t, xs⟩, .own o1) => match setO v.o p .dead, decide (ty = some (.sl t)) && decide (tx = .sl t) with
      | some od, true =>
        match take (upds s [bump s l (.val { v with o := od, tag := 0 } none)]) (some (.sl t)) y with
        | some (W, u2) => match appSrc t W, decide (ty1 = some W.t) with
          | some (ys, o2, ln2), true => match o1.join o2 with
            | some o => .need (((List.length xs : Nat) : Int) + ((List.length ys : Nat) : Int) ≤ lim) inferInstance
                (.ret (bump s l (.val { v with o := od, tag := 0 } none) :: (u2 ++ putV (upds (upds s [bump s l (.val { v with o := od, tag := 0 } none)]) u2) d ⟨.sl t, .own o, List.append xs ys, v.lend ++ ln2, 0⟩)))
            | none => .fail
          | _, _ => .fail
        | none => .fail
      | _, _ => .fail
    | _ => .fail
    else .fail
  | none => .fail

def evExtract (s : St) (d j i : Nat) : Prog Upds :=
  match peek s none (.tmp j) with
  | some (.tup b n _) => if Nat.blt i n then match (s (cp b i)).t with
    | .ref l p v hv iv t => if validR s l p v hv iv then .ret [bump s (tm d) (.ref l p v hv iv t)] else .fail
    | .val v _ => if validL s v.lend && (v.o.live || v.o.isDead) then
        (if v.o.has then .ret (bump s (cp b i) .undef :: putV s d v) else .ret (putV s d ⟨v.t, v.o, v.x, v.lend, 0⟩)) else .fail
    | _ => .fail
    else .fail
  | _ => .fail
def capsOf (s : St) : List Operand → Option ((t : Ty) × t.den × Lend)
  | [] => some ⟨.unit, (), []⟩
  | x :: r => match peek s none x, capsOf s r with
    | some (.ref l p _ _ _ _), some ⟨tr, yr, lr⟩ => match at_ s l p with
      | some (v, ⟨t, y⟩, o') => if o'.live then some ⟨.pair (.fp t) tr, (y, yr), (l, (s l).v) :: v.lend ++ lr⟩ else none
      | none => none
    | _, _ => none
def takesOf (E : Env) (o : Oper) : Bool := match o.dst with | some d => E.takes.any (Nat.beq d) | none => false
/-- Does a temporary own what it holds? -/
def ownTmp (s : St) : Operand → Bool
  | .tmp j => match (s (tm j)).t with | .val v _ => v.o.has | _ => false
  | _ => false
/-- What an operand is, taken for good; where it was read from a place that owns it, from that place. -/
def takeP (s : St) (x : Operand) : Option (V × Upds) :=
  if ownTmp s x then take s none x else
  match placeOf s x with
  | some (tx, l, p) => if p.flat then match at_ s l p with
    | some (v, ⟨t', y⟩, o') => match setO v.o p .dead with
      | some od => if decide (tx = t') && o'.has && o'.live then some (⟨t', o', y, v.lend, 0⟩, [bump s l (.val { v with o := od, tag := 0 } none)]) else none
      | none => none
    | none => none
    else none
  | none => take s none x
def isNilP : Operand → Bool
  | .const (.pointer none) => true | _ => false
def outT (o : Oper) (s : St) : Option (V × Upds) → Prog Upds
  | some (v, u) => match o.dst with | some d => .ret (u ++ putV (upds s u) d v) | none => .fail
  | none => .fail
def putT (o : Oper) (s : St) (T : T) : Prog Upds := match o.dst with | some d => .ret [bump s (tm d) T] | none => .fail
/-- The place that a value was read from, if that owns it. -/
def orgOf (s : St) : Operand → Option (Loc × Path × Nat)
  | .tmp j => match (s (tm j)).t with | .val v org => if v.o.has then none else validO s org | _ => none
  | _ => none
/-- A value that is put into an element is given up as far as the element's owner asks. -/
def fit (s : St) (l : Loc) (p : Path) (v : V) : V :=
  if p.flat then v else match content s l with
  | some c => (match getO c.o p with
    | some e => if v.o.has && v.o.le e && e.live then { v with o := e } else v
    | none => v)
  | none => v
def evStore (s : St) (l : Loc) (p : Path) (v : V) (u : Upds) (org : Option (Loc × Path × Nat)) : Prog Upds :=
  match content s l with
  | some c => match setP c.t c.x p v.t v.x, setO c.o p v.o with
    | some yn, some on =>
        .ret (u ++ [if p.flat then bump s l (.val ⟨c.t, on, yn, (if p.isEmpty then [] else c.lend) ++ v.lend, 0⟩ (if p.isEmpty then org else none)) else bumpIn s l (.val ⟨c.t, on, yn, c.lend ++ v.lend, c.tag⟩ none)])
    | _, _ => .fail
  | none => .fail
def boundOf (s : St) (b : Option Operand) (d : Int) : Option Int := match b with
  | none => some d
  | some b => match peekV s none b with | some ⟨.int _, _, i, _, _⟩ => some i | _ => none
def argTy (E : Env) (c : Call) (i : Nat) : Option Ty := (c.argTypes[i]?).bind (tyOf E)
noncomputable def evOp (E : Env) (o : Oper) (s : St) : Prog Upds :=
  match o.op with
  | .move x => if takesOf E o && ownTmp s x then outT o s (take s none x)
    else match peek s (tyOf E o.type) x with | some T => putT o s T | none => .fail
  | .assign x => if isNilP x then putT o s .undef else if ownTmp s x then outT o s (take s none x)
    else match peek s (tyOf E o.type) x with | some T => putT o s T | none => .fail
  | .pick c x y => match peekV s none c with
    | some ⟨.bool, _, b, _, _⟩ => .br (b = true) inferInstance
        (match peek s (tyOf E o.type) x with | some T => putT o s T | none => .fail) (match peek s (tyOf E o.type) y with | some T => putT o s T | none => .fail)
    | _ => .fail
  | .alloc t => match tyOf E t, o.dst with
    | some t, some d => .ret (putB s d ⟨t, zo t, zv t, [], 0⟩)
    | _, _ => .fail
  | .box t x => match tyOf E t, o.dst with
    | some t, some d => match take s (some t) x with
      | some (v, u) => if v.t = t then .ret (u ++ putB (upds s u) d v) else .fail
      | none => .fail
    | _, _ => .fail
  | .build t ps => match tyOf E t with
    | some t => if t.agg then outT o s (gatherF ps.toList s [] ⟨t, zo t, zv t, [], 0⟩) else .fail
    | none => .fail
  | .buildSlice t n ps => match tyOf E t with
    | some (.sl t) => if Nat.beq ps.size n && Nat.ble (n * t.size) 16777216 then outT o s (gatherE t 0 ps.toList s [] [] .a []) else .fail
    | _ => .fail
  | .load t x => match peek s none x, tyOf E t with
    | some (.ref l p _ _ _ _), some t => match at_ s l p with
      | some (v, ⟨t', y⟩, o') => if t' = t then (if o'.live || o'.isDead then
          (if o'.has then
            (if takesOf E o && p.flat then (match setO v.o p .dead with
              | some od => outT o s (some (⟨t', o', y, v.lend, if p.isEmpty then v.tag else 0⟩, [bump s l (.val { v with o := od, tag := 0 } none)]))
              | none => .fail)
            else putT o s (.val ⟨t', .z, y, (l, (s l).v) :: v.lend, 0⟩ (some (l, p, (s l).v))))
          else putT o s (.val ⟨t', o', y, v.lend, 0⟩ none)) else .fail) else .fail
      | none => .fail
    | some (.val ⟨.fp t', _, y, ln, _⟩ _), some t => if t' = t then putT o s (.val ⟨t', .z, y, ln, 0⟩ none) else .fail
    | _, _ => .fail
  | .store t x y => match peek s none x, tyOf E t, o.dst with
    | some (.ref l p _ _ _ _), some t, none => match takeS s (some t) p y with
      | some (v, u) => if v.t = t then evStore (upds s u) l p (fit (upds s u) l p v) u (orgOf s y) else .fail
      | none => .fail
    | _, _, _ => .fail
  | .nilCheck x => match peek s none x with
    | some (.ref l p v hv iv t) => putT o s (.ref l p v hv iv t)
    | some (.val ⟨.fp t, w, y, ln, _⟩ _) => putT o s (.val ⟨.fp t, w, y, ln, 0⟩ none)
    | _ => .fail
  | .binOp op t x y _ => match peekV s none x, peekV s none y with
    | some a, some b => if a.t.agg || decide (a.t = .bool) then (if E.eqs.any (Nat.beq t) then (evEqS (tyOf E t) op a b).bind (putT o s) else .fail) else (evBinT op a b).bind (putT o s)
    | _, _ => .fail
  | .unOp op _ x => match peek s none x with
    | some a => (evUn op a).bind (putT o s)
    | none => .fail
  | .convert src t x => if (peekV s none x).map V.t = tyOf E src then (match peekV s none x, tyOf E t with
    | some ⟨.int _, _, y, _, _⟩, some (.int k) => putT o s (.i k (wrapK k y))
    | some ⟨.sl (.int .u8), _, y, _, _⟩, some .str => putT o s (.val (.p .str (bytesOf y)) none)
    | some ⟨.str, _, y, _, _⟩, some (.sl (.int .u8)) => putT o s (.val ⟨.sl (.int .u8), .z, listOf y, [], 0⟩ none)
    | _, _ => .fail) else .fail
  | .makeSlice t x y => match peekV s none x, peekV s none y, tyOf E t with
    | some ⟨.int .i64, _, n, _, _⟩, some ⟨.int .i64, _, c, _, _⟩, some (.sl t) => .need (0 ≤ n ∧ n ≤ c ∧ c ≤ lim) inferInstance
        (putT o s (.val ⟨.sl t, .own (fo t), List.replicate (Int.toNat n) (zv t), [], 0⟩ none))
    | _, _, _ => .fail
  | .slice ty x lo hi none => match (if takesOf E o then takeP s x else (peekV s none x).map fun v => (v, [])) with
    | some (⟨.sl t, o', xs, ln, _⟩, u) => if tyOf E ty = some (.sl t) then
      (match boundOf s lo 0, boundOf s hi ((List.length xs : Nat) : Int) with
      | some l, some h => .need (0 ≤ l ∧ l ≤ h ∧ h ≤ ((List.length xs : Nat) : Int)) inferInstance (outT o s (some (⟨.sl t, o', List.take (Int.toNat h - Int.toNat l) (List.drop (Int.toNat l) xs), ln, 0⟩, u)))
      | _, _ => .fail) else .fail
    | _ => .fail
  | .fieldAddr ty x i => match peek s none x with
    | some (.ref l p v hv iv t) => match getT t (fpath i) with
      | some t' => if tyOf E ty = some t then putT o s (.ref l (p ++ fpath i) v hv iv t') else .fail
      | none => .fail
    | some (.val ⟨.fp t, _, y, ln, _⟩ _) => match getP t y (fpath i) with
      | some ⟨t', y'⟩ => if tyOf E ty = some t then putT o s (.val ⟨.fp t', .z, y', ln, 0⟩ none) else .fail
      | none => .fail
    | _ => .fail
  | .field ty x i => match peekV s none x with
    | some v => match getP v.t v.x (fpath i), getO v.o (fpath i) with
      | some ⟨t, y⟩, some o' => if tyOf E ty = some v.t then putT o s (.val ⟨t, o', y, v.lend, 0⟩ none) else .fail
      | _, _ => .fail
    | none => .fail
  | .indexAddr ty x i => match peek s none x, peekV s none i with
    | some (.val ⟨.sl t, _, xs, ln, _⟩ org), some ⟨.int _, _, i, _, _⟩ => if tyOf E ty = some (.sl t) then .need (0 ≤ i ∧ i < ((List.length xs : Nat) : Int)) inferInstance
        (match org with
        | some (l, p, _) => (match at_ s l p with
          | some (_, ⟨.sl t', _⟩, .own _) => if t' = t then putT o s (.ref l (p ++ [.ix (Int.toNat i)]) (s l).v (s l).hv (s (idl l)).v t) else .fail
          | _ => .fail)
        | none => putT o s (.val ⟨.fp t, .z, List.getD xs (Int.toNat i) (zv t), ln, 0⟩ none)) else .fail
    | _, _ => .fail
  | .extract (.tmp j) i => match o.dst with | some d => evExtract s d j i | none => .fail
  | .makeFunc (.func g) first cap => match capsOf s cap.toList with
    | some ⟨t, y, ln⟩ => if Nat.beq first.size 0 then putT o s (.val ⟨.fn g t, .z, y, ln, 0⟩ none) else .fail
    | none => .fail
  | .call c => match c.callee with
    | .builtin .len => if (peekV s none (c.args.getD 0 (.global 0))).map V.t = argTy E c 0 then (match peekV s none (c.args.getD 0 (.global 0)) with
      | some ⟨.sl _, _, xs, _, _⟩ => putT o s (.i .i64 ((List.length xs : Nat) : Int))
      | some ⟨.str, _, x, _, _⟩ => putT o s (.i .i64 ((ByteArray.size x : Nat) : Int))
      | _ => .fail) else .fail
    | .builtin .append => match o.dst with | some d => if decide (c.args.size = 2) && decide (c.argTypes.size = 2) then evAppend s d (argTy E c 0) (argTy E c 1) (c.args.getD 0 (.global 0)) (c.args.getD 1 (.global 0)) else .fail | none => .fail
    | .builtin .max => match peekV s none (c.args.getD 0 (.global 0)), peekV s none (c.args.getD 1 (.global 0)) with
      | some ⟨.int k, _, x, _, _⟩, some ⟨.int _, _, y, _, _⟩ => if Nat.beq c.args.size 2 then putT o s (.i k (max x y)) else .fail
      | _, _ => .fail
    | .value (.func f) => match findSm f (fun sm => Nat.beq sm.pms.length c.args.size) E.sms with
      | some sm => evCall sm c.args.toList none o.dst s
      | none => .fail
    | .value (.tmp j) => match peek s none (.tmp j) with
      | some (.val ⟨.fn g t, w, y, ln, tg⟩ _) => match findSm g (fun _ => true) E.sms with
        | some sm => evCall sm c.args.toList (some ⟨t, w, y, ln, tg⟩) o.dst s
        | none => .fail
      | _ => .fail
    | _ => .fail
  | _ => .fail

/-- The places that an operation looks at. -/
def lendsAt (s : St) (l : Loc) : List Loc := match (s l).t with | .val w _ => w.lend.map (·.1) | _ => []
def seesT (s : St) (full : Bool) : Operand → List Loc
  | .tmp j => tm j :: (match (s (tm j)).t with
    | .val v org => idl (tm j) :: v.lend.map (·.1) ++ (match org with | some (l, _, _) => l :: idl l :: lendsAt s l | none => [])
    | .ref l p _ _ _ _ => idl l :: (if full || !p.flat then l :: lendsAt s l else [])
    | .tup b _ _ => [idl (tm b)]
    | _ => [])
  | _ => []
def fullOp : Op → Bool
  | .move _ | .assign _ | .nilCheck _ | .fieldAddr .. => false | _ => true
def sees (ops : List Oper) (o : Oper) (s : St) : List Loc :=
  o.op.operands.toList.flatMap (seesT s (fullOp o.op)) ++ (match o.dst with | some d => [tm d, bx d, idl (bx d)] | none => []) ++
  (match o.guard with | some (g, _) => (match (ops[g]?).bind (·.dst) with | some d => [tm d] | none => []) | none => []) ++
  (match o.op, o.dst with
    | .call _, some d => idl (tm d) :: (List.range 8).flatMap fun i => [cp d i, bxc d i, idl (bxc d i)]
    | .extract (.tmp j) i, _ => (match (s (tm j)).t with
      | .tup b _ _ => cp b i :: (match (s (cp b i)).t with | .val w _ => w.lend.map (·.1) | .ref l p _ _ _ _ => idl l :: (if p.flat then [] else [l]) | _ => [])
      | _ => [])
    | _, _ => [])
structure Log where
  i : Nat
  sees : List Loc
  sets : List Loc
def settleC (c : Cell) : Prog Cell := match c.t with
  | .prp pos p d => .br p d (.ret ⟨.val (.p .bool pos) none, c.v, c.hv⟩) (.ret ⟨.val (.p .bool (!pos)) none, c.v, c.hv⟩)
  | .val ⟨.bool, .z, b, [], _⟩ _ => .br (b = true) inferInstance (.ret ⟨.val (.p .bool true) none, c.v, c.hv⟩) (.ret ⟨.val (.p .bool false) none, c.v, c.hv⟩)
  | _ => .ret c
def settleU : Upds → Prog Upds
  | [] => .ret []
  | [(l, c)] => if Nat.beq (l % 4) 0 then (settleC c).bind fun c => .ret [(l, c)] else .ret [(l, c)]
  | e :: r => (settleU r).bind fun r => .ret (e :: r)
def isGuard (ops : List Oper) (i : Nat) : Bool := ops.any fun o => match o.guard with | some (g, _) => Nat.beq g i | none => false
def isPick (ops : List Oper) (d : Option Nat) : Bool := match d with
  | some d => ops.any fun o => match o.op with | .pick (.tmp c) _ _ => Nat.beq c d | _ => false
  | none => false
/-- An operation with its guard; a test that guards others is split. -/
noncomputable def evG (E : Env) (ops : List Oper) (i : Nat) (o : Oper) (s : St) : Prog Upds :=
  let go := if isGuard ops i || isPick ops o.dst then (evOp E o s).bind settleU else evOp E o s
  match o.guard with
  | none => go
  | some (g, b) => match (ops[g]?).bind (·.dst) with
    | some dg => match (s (tm dg)).t with
      | .val ⟨.bool, .z, x, [], _⟩ _ => .br (x = b) inferInstance go (.ret (match o.dst with | some d => [bump s (tm d) .und] | none => []))
      | .und => .ret (match o.dst with | some d => [bump s (tm d) .und] | none => [])
      | _ => .fail
    | none => .fail
/-! What is written is laid down plainly, so that it is worked out once. -/
/-! Names that stand higher than 'ite': the checker opens these first. -/
def tall1 (x : Unit) : Unit := x
def tall2 (x : Unit) : Unit := tall1 x
def tall3 (x : Unit) : Unit := tall2 x
def tif {α : Type} (b : Bool) (x y : α) : α := match b with | true => x | false => (fun _ => y) (tall3 ())
theorem tif_eq {α : Type} (b : Bool) (x y : α) : tif b x y = if b = true then x else y := by cases b <;> rfl
def forceM {α : Type} (n : Nat) (k : Nat → α) : α := match n with | 0 => (fun _ => k 0) (tall3 ()) | m + 1 => k (Nat.succ m)
def forceN {α : Type} : Nat → (Nat → α) → α
  | 0, k => (fun _ => k 0) (tall3 ())
  | m + 1, k => forceN m fun m => k (Nat.succ m)
def forceP {α : Type} : Path → (Path → α) → α
  | [], k => (fun _ => k []) (tall3 ())
  | .fst :: r, k => forceP r fun r => k (.fst :: r)
  | .snd :: r, k => forceP r fun r => k (.snd :: r)
  | .ix i :: r, k => forceP r fun r => k (.ix i :: r)
def forceO {α : Type} : Ow → (Ow → α) → α
  | .a, k => (fun _ => k .a) (tall3 ()) | .z, k => k .z | .dead, k => k .dead
  | .own o, k => forceO o fun o => k (.own o)
  | .two x y, k => forceO x fun x => forceO y fun y => k (.two x y)
def forceL {α : Type} : Lend → (Lend → α) → α
  | [], k => k []
  | (l, v) :: r, k => forceM l fun l => forceN v fun v => forceL r fun r => k ((l, v) :: r)
def forceG {α : Type} : Option (Loc × Path × Nat) → (Option (Loc × Path × Nat) → α) → α
  | none, k => k none
  | some (l, p, v), k => forceM l fun l => forceP p fun p => forceN v fun v => k (some (l, p, v))
def forceT {α : Type} : T → (T → α) → α
  | .val ⟨t, o, x, ln, tg⟩ org, k => forceO o fun o => forceL ln fun ln => forceN tg fun tg => forceG org fun org => k (.val ⟨t, o, x, ln, tg⟩ org)
  | .ref l p v hv iv t, k => forceM l fun l => forceP p fun p => forceN v fun v => forceN hv fun hv => forceN iv fun iv => k (.ref l p v hv iv t)
  | .tup b n iv, k => forceM b fun b => forceM n fun n => forceN iv fun iv => k (.tup b n iv)
  | .prp pos p d, k => k (.prp pos p d) | .undef, k => k .undef | .und, k => k .und
def forceU {α : Type} : Upds → (Upds → α) → α
  | [], k => k []
  | (l, ⟨t, v, hv⟩) :: r, k => forceM l fun l => forceT t fun t => forceN v fun v => forceN hv fun hv => forceU r fun r => k ((l, ⟨t, v, hv⟩) :: r)
theorem forceM_eq {α : Type} (n : Nat) (k : Nat → α) : forceM n k = k n := by cases n <;> rfl
theorem forceN_eq {α : Type} : ∀ (n : Nat) (k : Nat → α), forceN n k = k n
  | 0, _ => rfl
  | m + 1, k => forceN_eq m _
theorem forceP_eq {α : Type} : ∀ (p : Path) (k : Path → α), forceP p k = k p
  | [], _ => rfl
  | .fst :: r, k => forceP_eq r _
  | .snd :: r, k => forceP_eq r _
  | .ix _ :: r, k => forceP_eq r _
theorem forceO_eq {α : Type} : ∀ (o : Ow) (k : Ow → α), forceO o k = k o
  | .a, _ => rfl | .z, _ => rfl | .dead, _ => rfl
  | .own o, k => forceO_eq o _
  | .two x y, k => by rw [forceO, forceO_eq x, forceO_eq y]
theorem forceL_eq {α : Type} : ∀ (l : Lend) (k : Lend → α), forceL l k = k l
  | [], _ => rfl
  | (l, v) :: r, k => by rw [forceL, forceM_eq, forceN_eq, forceL_eq r]
theorem forceG_eq {α : Type} (g : Option (Loc × Path × Nat)) (k : Option (Loc × Path × Nat) → α) : forceG g k = k g := by
  cases g with
  | none => rfl
  | some q => obtain ⟨l, p, v⟩ := q; rw [forceG, forceM_eq, forceP_eq, forceN_eq]
theorem forceT_eq {α : Type} (t : T) (k : T → α) : forceT t k = k t := by
  cases t with
  | val V org => obtain ⟨t, o, x, ln, tg⟩ := V; rw [forceT, forceO_eq, forceL_eq, forceN_eq, forceG_eq]
  | ref l p v hv iv t => rw [forceT, forceM_eq, forceP_eq, forceN_eq, forceN_eq, forceN_eq]
  | tup b n iv => rw [forceT, forceM_eq, forceM_eq, forceN_eq]
  | _ => rfl
theorem forceU_eq {α : Type} : ∀ (u : Upds) (k : Upds → α), forceU u k = k u
  | [], _ => rfl
  | (l, ⟨t, v, hv⟩) :: r, k => by rw [forceU, forceM_eq, forceT_eq, forceN_eq, forceN_eq, forceU_eq r]
noncomputable def evOps {R : Type} (E : Env) (ops : List Oper) : List (Nat × Oper) → St → List Log → (St → List Log → Option R) → Option R
  | [], s, lg, k => k s lg
  | (i, o) :: r, s, lg, k => (evG E ops i o s).run fun u => forceU u fun u => evOps E ops r (upds s u) (⟨i, sees ops o s, u.map (·.1)⟩ :: lg) k
/-- What each operation waits for, by bits. -/
def waits : List Oper → List Nat → List Nat
  | [], acc => acc
  | o :: r, acc => waits r (acc ++ [o.after.toList.foldl (fun b e => if Region.binds .any e then Nat.lor (Nat.lor b (Nat.shiftLeft 1 e.on)) (acc.getD e.on 0) else b) 0])
def apart (a b : Log) : Bool := a.sets.all (fun l => !b.sees.any (Nat.beq l) && !b.sets.any (Nat.beq l)) && b.sets.all (fun l => !a.sees.any (Nat.beq l))
def indep (ws : List Nat) : List Log → Bool
  | [] => true
  | b :: r => r.all (fun a => Nat.testBit (ws.getD b.i 0) a.i || apart a b) && indep ws r
def enum {α : Type} : Nat → List α → List (Nat × α)
  | _, [] => []
  | i, x :: r => (i, x) :: enum (i + 1) r
/-- Every edge that binds points back. -/
def pastOk (ops : List Oper) : Bool := (enum 0 ops).all fun q => q.2.after.toList.all fun e => !Region.binds .any e || Nat.blt e.on q.1
/-! A region in which a row's header may be read ahead of a store to one of its elements, or behind it. -/
/-- What a load lends of a place. -/
def lendT (o : Oper) (s : St) : Option T :=
  match o.op with
  | .load t x => match peek s none x, tyOf E t with
    | some (.ref l p _ _ _ _), some t => match at_ s l p with
      | some (v, ⟨t', y⟩, o') => if t' = t then (if o'.live && o'.has && !(takesOf E o) && p.flat then some (.val ⟨t', .z, y, (l, (s l).v) :: v.lend, 0⟩ (some (l, p, (s l).v))) else none) else none
      | none => none
    | _, _ => none
  | _ => none
def lateIx (ops : List Oper) : Nat := ops.findIdx fun o => match o.dst with | some d => E.takes.any (Nat.beq (100000 + d)) | none => false
def lateM : Nat := match E.takes.find? (Nat.ble 200000) with | some t => t - 200000 | none => 0
def lateOk (ops : List Oper) (ro mo : Oper) (xr : Operand) (r m d : Nat) (sm : St) (lg : List Log) (lx : Loc) (X0 : Cell) (V0 : V) (l0 : Loc) (p0 : Path) (V1 : V) (l1 : Loc) (p1 : Path) : Bool :=
  let ws := waits ops []
  let s1 := upds sm [(lx, X0)]
  let b0 : Log := ⟨m, sees ops mo sm, [lx]⟩
  Nat.blt r m && ro.guard.isNone && mo.guard.isNone && (match mo.op with | .store .. => true | _ => false) && !isGuard ops m && mo.dst.isNone &&
  indep ws (b0 :: lg) && pastOk ops &&
  Nat.beq lx l0 && Nat.beq l1 l0 && decide (p1 = p0) && decide (V1.t = V0.t) && Nat.beq X0.hv (sm l0).hv &&
  !Nat.beq l0 (tm d) && V0.lend.all (fun e => !Nat.beq e.1 (tm d)) && V1.lend.all (fun e => !Nat.beq e.1 (tm d)) &&
  !(seesT sm true xr).any (Nat.beq (tm d)) && !(seesT s1 true xr).any (Nat.beq (tm d)) && (seesT sm true xr).any (Nat.beq l0) &&
  (b0 :: lg).all (fun b => !b.sees.any (Nat.beq (tm d)) && !b.sets.any (Nat.beq (tm d))) &&
  lg.all (fun b => Nat.testBit (ws.getD r 0) b.i || b.sets.all fun l => !(seesT sm true xr).any (Nat.beq l) && !(seesT s1 true xr).any (Nat.beq l)) &&
  (List.range ops.length).all fun i => Nat.ble i m || (List.range i).all fun j => Nat.testBit (ws.getD i 0) j
noncomputable def evLate {R : Type} (ops : List Oper) (s : St) (k : St → Option R) : Option R :=
  match ops[lateIx E ops]?, ops[lateM E]? with
  | some ro, some mo => match ro.op, ro.dst with
    | .load _ xr, some d =>
      evOps E ops (enum 0 (ops.take (lateIx E ops))) s [] fun s1 lg1 =>
      evOps E ops (enum (lateIx E ops + 1) ((ops.drop (lateIx E ops + 1)).take (lateM E - lateIx E ops - 1))) s1 lg1 fun sm lg =>
      match lendT E ro sm with
      | some (.val V0 (some (l0, p0, _))) => (evG E ops (lateM E) mo sm).run fun um => forceU um fun um =>
        match um with
        | [(lx, X0)] => match lendT E ro (upds sm [(lx, X0)]) with
          | some (.val V1 (some (l1, p1, v1))) =>
            tif (lateOk ops ro mo xr (lateIx E ops) (lateM E) d sm lg lx X0 V0 l0 p0 V1 l1 p1)
              (evOps E ops (enum (lateM E + 1) (ops.drop (lateM E + 1))) (upd (upds sm [(lx, X0)]) (tm d) ⟨.val V1 (some (l1, p1, v1)), (s (tm d)).v + 2, (s (tm d)).hv + 2⟩) [] fun s2 _ => k s2) none
          | _ => none
        | _ => none
      | _ => none
    | _, _ => none
  | _, _ => none
/-- Is there an operation that is told to be late? -/
def isLate (ops : List Oper) : Bool := ops.any fun o => match o.dst with | some d => E.takes.any (Nat.beq (100000 + d)) | none => false
noncomputable def evRegion {R : Type} (E : Env) (ops : Array Oper) (draw : Bool) (s : St) (k : St → Option R) : Option R :=
  tif (draw && isLate E ops.toList) (evLate E ops.toList s k)
    (evOps E ops.toList (enum 0 ops.toList) s [] fun s' lg => tif draw (tif (indep (waits ops.toList []) lg && pastOk ops.toList) (k s') none) (k s'))

/-- The first region's number: a name for a piece of code. -/
def hid : Code → Nat
  | .region i _ _ => i | .seq a _ => hid a | .block _ a => hid a | .loop a => hid a | .scope a => hid a | _ => 1000000
def joinAt (E : Env) (b : Code) : Bool := E.joins.any (Nat.beq (hid b))
noncomputable def evC {R : Type} (E : Env) (lh : Nat → St → Option R) : Code → St → (Exit → St → Option R) → Option R
  | .skip, s, k => k .normal s
  | .region _ ops draw, s, k => evRegion E ops draw s (k .normal)
  | .seq a b, s, k => evC E lh a s fun e s' => match e with
    | .normal => tif (joinAt E b) (lh (2 * hid b) s') (evC E lh b s' k)
    | e => k e s'
  | .cond c a b, s, k => match peek s none c with
    | some (.prp pos p d) => tif pos (@ite _ p d (evC E lh a s k) (evC E lh b s k)) (@ite _ p d (evC E lh b s k) (evC E lh a s k))
    | some (.val ⟨.bool, _, x, _, _⟩ _) => if x = true then evC E lh a s k else evC E lh b s k
    | _ => none
  | .block id body, s, k => evC E lh body s fun e s' => match e with
    | .exit j => tif (Nat.beq j id) (k .normal s') (k (.exit j) s')
    | e => k e s'
  | .loop body, s, _ => lh (2 * hid body + 1) s
  | .exit i, s, k => k (.exit i) s
  | .ret, s, k => k .ret s
  | _, _, _ => none
def hasPt (E : Env) (κ : Nat) : Code → Bool
  | .seq a b => (joinAt E b && Nat.beq κ (2 * hid b)) || hasPt E κ a || hasPt E κ b
  | .cond _ a b => hasPt E κ a || hasPt E κ b
  | .block _ a => hasPt E κ a
  | .loop a => Nat.beq κ (2 * hid a + 1) || hasPt E κ a
  | _ => false
/-- The code from a point on. -/
noncomputable def evAt {R : Type} (E : Env) (lh : Nat → St → Option R) (κ : Nat) : Code → St → (Exit → St → Option R) → Option R
  | .seq a b, s, k =>
    tif (joinAt E b && Nat.beq κ (2 * hid b)) (evC E lh b s k)
    (tif (hasPt E κ a) (evAt E lh κ a s fun e s' => match e with
      | .normal => tif (joinAt E b) (lh (2 * hid b) s') (evC E lh b s' k)
      | e => k e s')
    (evAt E lh κ b s k))
  | .cond _ a b, s, k => tif (hasPt E κ a) (evAt E lh κ a s k) (evAt E lh κ b s k)
  | .block id body, s, k => evAt E lh κ body s fun e s' => match e with
    | .exit j => tif (Nat.beq j id) (k .normal s') (k (.exit j) s')
    | e => k e s'
  | .loop body, s, k => tif (Nat.beq κ (2 * hid body + 1)) (evC E lh body s fun e s' => match e with
      | .normal => lh κ s'
      | e => k e s')
    (evAt E lh κ body s fun e s' => match e with
      | .normal => lh (2 * hid body + 1) s'
      | e => k e s')
  | _, _, _ => none

/-- What is known at a point: values, and addresses of boxes. -/
inductive Slot where
  | v (l : Loc) (t : Ty) (o : Ow) (lend : List Loc) (tag : Nat)
  | r (l l' : Loc) (p : Path) (t : Ty)
@[reducible] def denS : List Slot → Type
  | [] => Unit | .v _ t _ _ _ :: r => t.den × denS r | .r _ _ _ _ :: r => denS r
def slotLocs : List Slot → List Loc
  | [] => [] | .v l _ _ _ _ :: r => l :: slotLocs r | .r _ _ _ _ :: r => slotLocs r
def proj (all : List Loc) : (sl : List Slot) → St → Option (denS sl)
  | [], _ => some ()
  | .v l t o lend tag :: r, s => match T.val? (s l).t with
    | some w => if w.o.le o && validL s w.lend && w.lend.all (fun e => lend.any (Nat.beq e.1) || !all.any (Nat.beq e.1)) && (Nat.beq tag 0 || Nat.beq tag w.tag) then
        match (castT w.x : Option t.den), proj all r s with
        | some x, some y => some (x, y)
        | _, _ => none
      else none
    | none => none
  | .r l l' p t :: r, s => match (s l).t with
    | .ref m q v hv iv t' => if Nat.beq m l' && validR s m q v hv iv && decide (q = p) && decide (t' = t) then proj all r s else none
    | _ => none
def noCell : Cell := ⟨.undef, 0, 0⟩
def unproj : (sl : List Slot) → denS sl → St
  | [], _ => fun _ => noCell
  | .v l t o lend tag :: r, x => upd (unproj r x.2) l ⟨.val ⟨t, o, x.1, lend.map fun e => (e, 0), tag⟩ none, 0, 0⟩
  | .r l l' p t :: r, x => upd (unproj r x) l ⟨.ref l' p 0 0 0 t, 0, 0⟩

/-- A function's frame: its parameters, where its results lie, where a parameter that is written lies at the end. -/
structure Sig where
  pms : List PM
  rts : List RT
  homes : List Loc
def start : (pms : List PM) → Nat → denI pms → St
  | [], _, _ => fun _ => noCell
  | .fz t :: r, i, x => upd (start r (i + 1) x.2) (tm i) ⟨.val ⟨t, .z, x.1, [], 0⟩ none, 0, 0⟩
  | .own t o :: r, i, x => upd (start r (i + 1) x.2) (tm i) ⟨.val ⟨t, o, x.1, [], 0⟩ none, 0, 0⟩
  | .mut t o :: r, i, x => upd (start r (i + 1) x.2) (tm i) ⟨.val ⟨t, o, x.1, [], i + 1⟩ none, 0, 0⟩
  | .ptr t o _ :: r, i, x => upd (upd (start r (i + 1) x.2) (tm i) ⟨.ref (pb i) [] 0 0 0 t, 0, 0⟩) (pb i) ⟨.val ⟨t, o, x.1, [], 0⟩ none, 0, 0⟩
/-- A result at the end: where it lies. -/
def resLoc (s : St) (ptr : Bool) : ResultVar → Option Loc
  | .tmp t => if ptr then (match peek s none (.tmp t) with | some (.ref l [] _ _ _ _) => some l | _ => none) else some (tm t)
  | .cell t _ => if ptr then none else (match peek s none (.tmp t) with | some (.ref l [] _ _ _ _) => some l | _ => none)
def endV (s : St) (l : Loc) (t : Ty) (o : Ow) (tag : Nat) : Option (t.den × Lend) :=
  match T.val? (s l).t with
  | some w => if w.o.le o && validL s w.lend && (Nat.beq tag 0 || Nat.beq tag w.tag) then match (castT w.x : Option t.den) with | some x => some (x, w.lend) | none => none else none
  | none => none
/-- A result: as it lies there, or, where it was read from a place that owns it, from that place. -/
def endOrg (s : St) (l : Loc) (t : Ty) (o : Ow) : Option (t.den × Lend × Loc) :=
  match endV s l t o 0 with
  | some (x, ln) => some (x, ln, l)
  | none => match (s l).t with
    | .val w org => match validO s org with
      | some (l', p, _) => if validL s w.lend && !w.o.has && !Nat.beq l' l && p.flat && decide (w.t = t) then match at_ s l' p with
        | some (v, ⟨_, y⟩, o') => if o'.le o then match (castT y : Option t.den) with | some y => some (y, v.lend, l') | none => none else none
        | none => none
        else none
      | none => none
    | _ => none
def endRes (s : St) : (rts : List RT) → List ResultVar → Option (denR (rts.map RT.ty) × List Loc × Lend)
  | [], [] => some ((), [], [])
  | r :: rs, v :: vs => match resLoc s r.ptr v with
    | some l => match (if r.ptr then (endV s l r.ty r.o 0).map (fun q => (q.1, q.2, l)) else endOrg s l r.ty r.o), endRes s rs vs with
      | some (x, ln, l), some (y, ls, ln') => some (consR r.ty (rs.map RT.ty) x y, (if r.o.has || r.ptr then l :: ls else ls), (if r.o.has || r.ptr then ln else (l, 0) :: ln) ++ ln')
      | _, _ => none
    | none => none
  | _, _ => none
def endOuts (s : St) : (pms : List PM) → Nat → List Loc → Option (denR (pms.flatMap PM.outs) × List Loc × Lend)
  | [], _, [] => some ((), [], [])
  | .fz _ :: r, i, hs => endOuts s r (i + 1) hs
  | .own _ _ :: r, i, hs => endOuts s r (i + 1) hs
  | .mut t o :: r, i, h :: hs => match endV s h t o (i + 1), endOuts s r (i + 1) hs with
    | some (x, ln), some (y, ls, ln') => some (consR t (r.flatMap PM.outs) x y, h :: ls, ln ++ ln')
    | _, _ => none
  | .ptr t _ o :: r, i, hs => match endV s (pb i) t o 0, endOuts s r (i + 1) hs with
    | some (x, ln), some (y, ls, ln') => some (consR t (r.flatMap PM.outs) x y, pb i :: ls, ln ++ ln')
    | _, _ => none
  | _, _, _ => none
def fin (g : Sig) (rvs : List ResultVar) : Exit → St → Option (denR (outTys g.rts g.pms))
  | .ret, s | .normal, s => match endRes s g.rts rvs, endOuts s g.pms 0 g.homes with
    | some (x, ls, ln), some (y, ms, ln') =>
      if noDup (ls ++ ms) && (ln ++ ln').all (fun e => !(ls ++ ms).any (Nat.beq e.1)) then some (joinR (g.rts.map RT.ty) (g.pms.flatMap PM.outs) x y) else none
    | _, _ => none
  | _, _ => none
end
end Go.OM

namespace Go.OM
open Go

/-- These cells lie there. -/
def AtC (w : World) (b off : Nat) (cs : List Value) : Prop := ∀ i v, cs[i]? = some v → w.cell? ⟨b, off + i, none⟩ = some v
/-- A plain row of at least n cells, none of them shut to writing. -/
def Wr (w : World) (b n : Nat) : Prop := ∃ c e f, w.heap[b]? = some (.cells c e f) ∧ n ≤ c.size ∧ ∀ o, o ≤ c.size → ¬ (f.1 ≤ o ∧ o < f.2)
/-- A value of one cell. -/
def cell1 : Value → Bool
  | .agg _ | .tuple _ => false | _ => true
def mkV (t : Ty) (cs : List Value) : Value := if t.agg then .agg cs.toArray else cs.headD undef

/-- In w the cells cs are the value x of shape t; O: blocks of its own; S: blocks that are only read. -/
def Rp (w : World) (S : Nat → Prop) : (t : Ty) → Ow → t.den → List Value → (Nat → Prop) → Prop
  | _, .a, _, _, _ => False
  | t, .dead, _, cs, _ => cs.length = t.size ∧ ∀ v ∈ cs, cell1 v = true
  | .int k, _, x, cs, _ => cs = [.int k x]
  | .bool, _, x, cs, _ => cs = [.bool x]
  | .str, _, x, cs, _ => cs = [.string x]
  | .unit, _, _, cs, _ => cs = []
  | .pair a b, o, x, cs, O => ∃ oa ob c1 c2 O1 O2, o.fst = some oa ∧ o.snd = some ob ∧ cs = c1 ++ c2 ∧ Rp w S a oa x.1 c1 O1 ∧ Rp w S b ob x.2 c2 O2 ∧
      (∀ i, O1 i → O i) ∧ (∀ i, O2 i → O i) ∧ ∀ i, O1 i → ¬ O2 i
  | .sl t, o, xs, cs, O => ∃ a cap, cs = [.slice a (List.length xs) cap] ∧ List.length xs ≤ cap ∧
      match o, a with
      | .z, none => xs = []
      | .z, some ad => ∀ i x, xs[i]? = some x → ad.spot = none ∧ S ad.block ∧ ∃ ci, AtC w ad.block (ad.off + i * t.size) ci ∧ Rp w S t .z x ci (fun _ => False)
      | .own _, none => xs = [] ∧ cap = 0
      | .own o, some ad => ad.spot = none ∧ O ad.block ∧ Wr w ad.block (ad.off + cap * t.size) ∧ ∃ Os : Nat → Nat → Prop,
          (∀ i x, xs[i]? = some x → ∃ ci, AtC w ad.block (ad.off + i * t.size) ci ∧ Rp w S t o x ci (Os i)) ∧
          (∀ i b, Os i b → O b ∧ b ≠ ad.block) ∧ ∀ i j b, i ≠ j → Os i b → ¬ Os j b
      | _, _ => False
  | .fp t, _, x, cs, _ => ∃ b off c1, cs = [.pointer (some ⟨b, off, none⟩)] ∧ S b ∧ AtC w b off c1 ∧ Rp w S t .z x c1 (fun _ => False)
  | .fn g t, _, x, cs, _ => ∃ cap, cs = [.func (.func g) #[] cap.toArray] ∧ Rp w S t .z x cap (fun _ => False)

theorem AtC.frame {w w' : World} {b off : Nat} {cs : List Value} (h : AtC w b off cs) (e : w'.heap[b]? = w.heap[b]?) : AtC w' b off cs := by
  intro i v hv
  have := h i v hv
  simp only [World.cell?] at this ⊢
  rw [e]; exact this
theorem Wr.frame {w w' : World} {b n : Nat} (h : Wr w b n) (e : w'.heap[b]? = w.heap[b]?) : Wr w' b n := by
  obtain ⟨c, el, f, h1, h2, h3⟩ := h
  exact ⟨c, el, f, by rw [e]; exact h1, h2, h3⟩

theorem Rp.len {w : World} {S : Nat → Prop} : ∀ {t : Ty} {o : Ow} {x : t.den} {cs : List Value} {O : Nat → Prop}, Rp w S t o x cs O → cs.length = t.size := by
  intro t
  induction t with
  | pair a b iha ihb =>
    intro o x cs O h
    cases o with
    | a => exact h.elim
    | dead => exact h.1
    | z | own _ | two _ _ =>
      obtain ⟨oa, ob, c1, c2, O1, O2, _, _, rfl, h1, h2, _⟩ := h
      simp [Ty.size, iha h1, ihb h2]
  | int k | bool | str | unit =>
    intro o x cs O h
    cases o <;> first | exact h.elim | exact h.1 | (cases h; rfl)
  | sl t _ =>
    intro o x cs O h
    cases o <;> first | exact h.elim | (obtain ⟨a, cap, rfl, _⟩ := h; rfl) | exact h.1
  | fp t _ =>
    intro o x cs O h
    cases o <;> first | exact h.elim | (obtain ⟨b, off, c1, rfl, _⟩ := h; rfl) | exact h.1
  | fn g t _ =>
    intro o x cs O h
    cases o <;> first | exact h.elim | (obtain ⟨cap, rfl, _⟩ := h; rfl) | exact h.1

theorem Rp.one {w : World} {S : Nat → Prop} : ∀ {t : Ty} {o : Ow} {x : t.den} {cs : List Value} {O : Nat → Prop}, Rp w S t o x cs O → ∀ v ∈ cs, cell1 v = true := by
  intro t
  induction t with
  | pair a b iha ihb =>
    intro o x cs O h
    cases o with
    | a => exact h.elim
    | dead => exact h.2
    | z | own _ | two _ _ =>
      obtain ⟨oa, ob, c1, c2, O1, O2, _, _, rfl, h1, h2, _⟩ := h
      intro v hv
      rcases List.mem_append.1 hv with hv | hv
      · exact iha h1 v hv
      · exact ihb h2 v hv
  | int k | bool | str | unit =>
    intro o x cs O h
    cases o <;> first | exact h.elim | exact h.2 | (cases h; simp [cell1])
  | sl t _ =>
    intro o x cs O h
    cases o <;> first | exact h.elim | (obtain ⟨a, cap, rfl, _⟩ := h; simp [cell1]) | exact h.2
  | fp t _ =>
    intro o x cs O h
    cases o <;> first | exact h.elim | (obtain ⟨b, off, c1, rfl, _⟩ := h; simp [cell1]) | exact h.2
  | fn g t _ =>
    intro o x cs O h
    cases o <;> first | exact h.elim | (obtain ⟨cap, rfl, _⟩ := h; simp [cell1]) | exact h.2

/-- More may be read, more may be its own; where the blocks stay, it stays. -/
theorem Rp.frame {w w' : World} {S S' : Nat → Prop} (hS : ∀ b, S b → S' b) : ∀ {t : Ty} {o : Ow} {x : t.den} {cs : List Value} {O O' : Nat → Prop},
    Rp w S t o x cs O → (∀ b, O b → O' b) → (∀ b, S b ∨ O b → w'.heap[b]? = w.heap[b]?) → Rp w' S' t o x cs O' := by
  intro t
  induction t with
  | pair a b iha ihb =>
    intro o x cs O O' h hO he
    cases o with
    | a => exact h.elim
    | dead => exact h
    | z | own _ | two _ _ =>
      obtain ⟨oa, ob, c1, c2, O1, O2, e1, e2, rfl, h1, h2, s1, s2, d⟩ := h
      refine ⟨oa, ob, c1, c2, O1, O2, e1, e2, rfl, iha h1 (fun _ h => h) ?_, ihb h2 (fun _ h => h) ?_, fun i hi => hO _ (s1 i hi), fun i hi => hO _ (s2 i hi), d⟩
      · exact fun b hb => he b (hb.imp id (s1 b))
      · exact fun b hb => he b (hb.imp id (s2 b))
  | int k | bool | str | unit =>
    intro o x cs O O' h hO he
    cases o <;> first | exact h.elim | exact h
  | sl t ih =>
    intro o x cs O O' h hO he
    cases o with
    | a => exact h.elim
    | dead => exact h
    | two _ _ => obtain ⟨a, cap, _, _, h⟩ := h; cases a <;> exact h.elim
    | z =>
      obtain ⟨a, cap, rfl, hc, h⟩ := h
      refine ⟨a, cap, rfl, hc, ?_⟩
      cases a with
      | none => exact h
      | some ad =>
        intro i x hx
        obtain ⟨h1, h2, ci, k1, k2⟩ := h i x hx
        exact ⟨h1, hS _ h2, ci, k1.frame (he _ (.inl h2)), ih k2 (fun _ h => h) (fun b hb => he b (hb.imp id (fun h => h.elim)))⟩
    | own o =>
      obtain ⟨a, cap, rfl, hc, h⟩ := h
      refine ⟨a, cap, rfl, hc, ?_⟩
      cases a with
      | none => exact h
      | some ad =>
        obtain ⟨h1, h2, h3, Os, h4, h5, h6⟩ := h
        refine ⟨h1, hO _ h2, h3.frame (he _ (.inr h2)), Os, fun i x hx => ?_, fun i b hb => ⟨hO _ (h5 i b hb).1, (h5 i b hb).2⟩, h6⟩
        obtain ⟨ci, k1, k2⟩ := h4 i x hx
        exact ⟨ci, k1.frame (he _ (.inr h2)), ih k2 (fun _ h => h) (fun b hb => he b (hb.imp id (fun h => (h5 i b h).1)))⟩
  | fp t ih =>
    intro o x cs O O' h hO he
    cases o <;> first
      | exact h.elim
      | exact h
      | (obtain ⟨b, off, c1, rfl, h1, h2, h3⟩ := h
         exact ⟨b, off, c1, rfl, hS _ h1, h2.frame (he _ (.inl h1)), ih h3 (fun _ h => h) (fun b hb => he b (hb.imp id (fun h => h.elim)))⟩)
  | fn g t ih =>
    intro o x cs O O' h hO he
    cases o <;> first
      | exact h.elim
      | exact h
      | (obtain ⟨cap, rfl, h1⟩ := h
         exact ⟨cap, rfl, ih h1 (fun _ h => h) (fun b hb => he b (hb.imp id (fun h => h.elim)))⟩)

/-- Where nothing is owned, nothing is asked to be. -/
theorem Rp.noOwn {w : World} {S : Nat → Prop} : ∀ {t : Ty} {o : Ow} {x : t.den} {cs : List Value} {O : Nat → Prop}, Rp w S t o x cs O → o.has = false → Rp w S t o x cs (fun _ => False) := by
  intro t
  induction t with
  | pair a b iha ihb =>
    intro o x cs O h ho
    cases o with
    | a => exact h.elim
    | dead => exact h
    | own _ => simp [Ow.has] at ho
    | z =>
      obtain ⟨oa, ob, c1, c2, O1, O2, e1, e2, rfl, h1, h2, s1, s2, d⟩ := h
      simp [Ow.fst] at e1; simp [Ow.snd] at e2; subst e1 e2
      exact ⟨.z, .z, c1, c2, _, _, rfl, rfl, rfl, iha h1 rfl, ihb h2 rfl, fun _ h => h, fun _ h => h, fun _ h => h.elim⟩
    | two p q =>
      obtain ⟨oa, ob, c1, c2, O1, O2, e1, e2, rfl, h1, h2, s1, s2, d⟩ := h
      simp [Ow.fst] at e1; simp [Ow.snd] at e2; subst e1 e2
      simp [Ow.has] at ho
      exact ⟨p, q, c1, c2, _, _, rfl, rfl, rfl, iha h1 ho.1, ihb h2 ho.2, fun _ h => h, fun _ h => h, fun _ h => h.elim⟩
  | sl t ih =>
    intro o x cs O h ho
    cases o <;> first
      | exact h.elim
      | (simp [Ow.has] at ho; done)
      | exact h
      | (obtain ⟨a, cap, rfl, hc, h⟩ := h
         exact ⟨a, cap, rfl, hc, by cases a <;> exact h⟩)
  | _ =>
    intro o x cs O h ho
    cases o <;> first | exact h.elim | exact h

theorem Rp.mono {w : World} {S S' O O' : Nat → Prop} {t : Ty} {o : Ow} {x : t.den} {cs : List Value} (h : Rp w S t o x cs O) (hS : ∀ b, S b → S' b) (hO : ∀ b, O b → O' b) : Rp w S' t o x cs O' :=
  h.frame hS hO (fun _ _ => rfl)

/-- Given up: what it owned is only read from here on. -/
theorem Rp.freeze {w : World} {S : Nat → Prop} : ∀ {t : Ty} {o : Ow} {x : t.den} {cs : List Value} {O : Nat → Prop}, Rp w S t o x cs O → o.live = true → Rp w (fun b => S b ∨ O b) t .z x cs (fun _ => False) := by
  intro t
  induction t with
  | pair a b iha ihb =>
    intro o x cs O h hl
    have key : ∀ oa ob c1 c2 O1 O2, oa.live = true → ob.live = true → cs = c1 ++ c2 → Rp w S a oa x.1 c1 O1 → Rp w S b ob x.2 c2 O2 → (∀ i, O1 i → O i) → (∀ i, O2 i → O i) → Rp w (fun b => S b ∨ O b) (.pair a b) .z x cs (fun _ => False) := by
      intro oa ob c1 c2 O1 O2 la lb e h1 h2 s1 s2
      exact ⟨.z, .z, c1, c2, fun _ => False, fun _ => False, rfl, rfl, e, (iha h1 la).mono (fun b hb => hb.imp id (s1 b)) (fun _ h => h), (ihb h2 lb).mono (fun b hb => hb.imp id (s2 b)) (fun _ h => h), fun _ h => h.elim, fun _ h => h.elim, fun _ h => h.elim⟩
    cases o with
    | a => exact h.elim
    | dead => simp [Ow.live] at hl
    | own _ => obtain ⟨oa, ob, c1, c2, O1, O2, e1, _⟩ := h; simp [Ow.fst] at e1
    | z =>
      obtain ⟨oa, ob, c1, c2, O1, O2, e1, e2, e, h1, h2, s1, s2, d⟩ := h
      simp [Ow.fst] at e1; simp [Ow.snd] at e2; subst e1 e2
      exact key .z .z c1 c2 O1 O2 rfl rfl e h1 h2 s1 s2
    | two p q =>
      obtain ⟨oa, ob, c1, c2, O1, O2, e1, e2, e, h1, h2, s1, s2, d⟩ := h
      simp [Ow.fst] at e1; simp [Ow.snd] at e2; subst e1 e2
      simp [Ow.live] at hl
      exact key p q c1 c2 O1 O2 hl.1 hl.2 e h1 h2 s1 s2
  | int k | bool | str | unit =>
    intro o x cs O h hl
    cases o <;> first | exact h.elim | (simp [Ow.live] at hl; done) | exact h
  | sl t ih =>
    intro o x cs O h hl
    cases o with
    | a => exact h.elim
    | dead => simp [Ow.live] at hl
    | two _ _ => obtain ⟨a, cap, _, _, h⟩ := h; cases a <;> exact h.elim
    | z =>
      obtain ⟨a, cap, rfl, hc, h⟩ := h
      refine ⟨a, cap, rfl, hc, ?_⟩
      cases a with
      | none => exact h
      | some ad =>
        intro i x hx
        obtain ⟨h1, h2, ci, k1, k2⟩ := h i x hx
        exact ⟨h1, .inl h2, ci, k1, k2.mono (fun _ h => .inl h) (fun _ h => h)⟩
    | own o =>
      obtain ⟨a, cap, rfl, hc, h⟩ := h
      refine ⟨a, cap, rfl, hc, ?_⟩
      cases a with
      | none => exact h.1
      | some ad =>
        obtain ⟨h1, h2, h3, Os, h4, h5, h6⟩ := h
        intro i x hx
        obtain ⟨ci, k1, k2⟩ := h4 i x hx
        exact ⟨h1, .inr h2, ci, k1, (ih k2 (by simpa [Ow.live] using hl)).mono (fun b hb => hb.imp id (fun h => (h5 i b h).1)) (fun _ h => h)⟩
  | fp t ih =>
    intro o x cs O h hl
    cases o <;> first
      | exact h.elim
      | (simp [Ow.live] at hl; done)
      | (obtain ⟨b, off, c1, rfl, h1, h2, h3⟩ := h
         exact ⟨b, off, c1, rfl, .inl h1, h2, h3.mono (fun _ h => .inl h) (fun _ h => h)⟩)
  | fn g t ih =>
    intro o x cs O h hl
    cases o <;> first
      | exact h.elim
      | (simp [Ow.live] at hl; done)
      | (obtain ⟨cap, rfl, h1⟩ := h
         exact ⟨cap, rfl, h1.mono (fun _ h => .inl h) (fun _ h => h)⟩)

theorem Rp.le {w : World} {S : Nat → Prop} : ∀ {t : Ty} {o o' : Ow} {x : t.den} {cs : List Value} {O : Nat → Prop}, Rp w S t o x cs O → o.le o' = true →
    ∃ O' F : Nat → Prop, (∀ b, O' b → O b) ∧ (∀ b, F b → O b) ∧ (∀ b, O' b → ¬ F b) ∧ Rp w (fun b => S b ∨ F b) t o' x cs O' := by
  intro t
  have frz : ∀ {t : Ty} {o : Ow} {x : t.den} {cs : List Value} {O : Nat → Prop}, Rp w S t o x cs O → o.live = true → 
    ∃ O' F : Nat → Prop, (∀ b, O' b → O b) ∧ (∀ b, F b → O b) ∧ (∀ b, O' b → ¬ F b) ∧ Rp w (fun b => S b ∨ F b) t .z x cs O' :=
    fun h hl => ⟨fun _ => False, _, fun _ h => h.elim, fun _ h => h, fun _ h => h.elim, h.freeze hl⟩
  have same : ∀ {t : Ty} {o : Ow} {x : t.den} {cs : List Value} {O : Nat → Prop}, Rp w S t o x cs O → 
    ∃ O' F : Nat → Prop, (∀ b, O' b → O b) ∧ (∀ b, F b → O b) ∧ (∀ b, O' b → ¬ F b) ∧ Rp w (fun b => S b ∨ F b) t o x cs O' :=
    fun h => ⟨_, fun _ => False, fun _ h => h, fun _ h => h.elim, fun _ _ h => h, h.mono (fun _ h => .inl h) (fun _ h => h)⟩
  induction t with
  | pair a b iha ihb =>
    intro o o' x cs O h hl
    cases o with
    | a => exact h.elim
    | dead => cases o' <;> first | (simp [Ow.le] at hl; done) | exact same h
    | z => cases o' <;> first | (simp [Ow.le] at hl; done) | exact same h
    | own _ => obtain ⟨oa, ob, c1, c2, O1, O2, e1, _⟩ := h; simp [Ow.fst] at e1
    | two p q =>
      cases o' with
      | z => exact frz h (by simpa [Ow.le, Ow.live] using hl)
      | a | own _ | dead => simp [Ow.le] at hl
      | two p' q' =>
        obtain ⟨oa, ob, c1, c2, O1, O2, e1, e2, rfl, h1, h2, s1, s2, d⟩ := h
        simp [Ow.fst] at e1; simp [Ow.snd] at e2; subst e1 e2
        simp [Ow.le] at hl
        obtain ⟨P1, F1, a1, a2, a3, a4⟩ := iha h1 hl.1
        obtain ⟨P2, F2, b1, b2, b3, b4⟩ := ihb h2 hl.2
        refine ⟨fun b => P1 b ∨ P2 b, fun b => F1 b ∨ F2 b, fun b hb => hb.elim (fun h => s1 _ (a1 _ h)) (fun h => s2 _ (b1 _ h)), fun b hb => hb.elim (fun h => s1 _ (a2 _ h)) (fun h => s2 _ (b2 _ h)), ?_,
          ⟨p', q', c1, c2, P1, P2, rfl, rfl, rfl, a4.mono (fun _ h => h.imp id .inl) (fun _ h => h), b4.mono (fun _ h => h.imp id .inr) (fun _ h => h), fun _ h => .inl h, fun _ h => .inr h, fun b h k => d _ (a1 _ h) (b1 _ k)⟩⟩
        rintro b (hb | hb) (hf | hf)
        · exact a3 _ hb hf
        · exact d _ (a1 _ hb) (b2 _ hf)
        · exact d _ (a2 _ hf) (b1 _ hb)
        · exact b3 _ hb hf
  | int k | bool | str | unit =>
    intro o o' x cs O h hl
    cases o <;> cases o' <;> first | exact h.elim | (simp [Ow.le] at hl; done) | exact same h | exact ⟨O, fun _ => False, fun _ h => h, fun _ h => h.elim, fun _ _ h => h, h⟩
  | sl t ih =>
    intro o o' x cs O h hl
    cases o with
    | a => exact h.elim
    | dead => cases o' <;> first | (simp [Ow.le] at hl; done) | exact same h
    | two _ _ => obtain ⟨a, cap, _, _, h⟩ := h; cases a <;> exact h.elim
    | z => cases o' <;> first | (simp [Ow.le] at hl; done) | exact same h
    | own o =>
      cases o' with
      | z => exact frz h (by simpa [Ow.le, Ow.live] using hl)
      | a | two _ _ | dead => simp [Ow.le] at hl
      | own o' =>
        obtain ⟨a, cap, rfl, hc, h⟩ := h
        cases a with
        | none => exact ⟨fun _ => False, fun _ => False, fun _ h => h.elim, fun _ h => h.elim, fun _ h => h.elim, none, cap, rfl, hc, h⟩
        | some ad =>
          obtain ⟨h1, h2, h3, Os, h4, h5, h6⟩ := h
          have hl' : o.le o' = true := by simpa [Ow.le] using hl
          have key : ∀ i, ∃ PF : (Nat → Prop) × (Nat → Prop), (∀ b, PF.1 b → Os i b) ∧ (∀ b, PF.2 b → Os i b) ∧ (∀ b, PF.1 b → ¬ PF.2 b) ∧
              ∀ y, x[i]? = some y → ∃ ci, AtC w ad.block (ad.off + i * t.size) ci ∧ Rp w (fun b => S b ∨ PF.2 b) t o' y ci PF.1 := by
            intro i
            cases hx : x[i]? with
            | none => exact ⟨(fun _ => False, fun _ => False), fun _ h => h.elim, fun _ h => h.elim, fun _ h => h.elim, fun y hy => by simp at hy⟩
            | some y =>
              obtain ⟨ci, k1, k2⟩ := h4 i y hx
              obtain ⟨P, F, p1, p2, p3, p4⟩ := ih k2 hl'
              exact ⟨(P, F), p1, p2, p3, fun z hz => by obtain rfl := Option.some.inj hz; exact ⟨ci, k1, p4⟩⟩
          obtain ⟨f, hf⟩ := Classical.axiomOfChoice key
          refine ⟨fun b => b = ad.block ∨ ∃ i, (f i).1 b, fun b => ∃ i, (f i).2 b, ?_, ?_, ?_, some ad, cap, rfl, hc, h1, .inl rfl, h3, fun i => (f i).1, ?_, ?_, ?_⟩
          · rintro b (rfl | ⟨i, hi⟩)
            · exact h2
            · exact (h5 i b ((hf i).1 _ hi)).1
          · rintro b ⟨i, hi⟩; exact (h5 i b ((hf i).2.1 _ hi)).1
          · rintro b (rfl | ⟨i, hi⟩) ⟨j, hj⟩
            · exact (h5 j _ ((hf j).2.1 _ hj)).2 rfl
            · by_cases e : i = j
              · subst e; exact (hf i).2.2.1 _ hi hj
              · exact h6 i j b e ((hf i).1 _ hi) ((hf j).2.1 _ hj)
          · intro i y hy
            obtain ⟨ci, k1, k2⟩ := (hf i).2.2.2 y hy
            exact ⟨ci, k1, k2.mono (fun _ h => h.imp id (fun h => ⟨i, h⟩)) (fun _ h => h)⟩
          · exact fun i b hb => ⟨.inr ⟨i, hb⟩, (h5 i b ((hf i).1 _ hb)).2⟩
          · exact fun i j b e hi hj => h6 i j b e ((hf i).1 _ hi) ((hf j).1 _ hj)
  | fp t ih =>
    intro o o' x cs O h hl
    cases o <;> cases o' <;> first
      | exact h.elim
      | (simp [Ow.le] at hl; done)
      | exact same h
      | (obtain ⟨b, off, c1, rfl, h1, h2, h3⟩ := h
         exact ⟨O, fun _ => False, fun _ h => h, fun _ h => h.elim, fun _ _ h => h, b, off, c1, rfl, .inl h1, h2, h3.mono (fun _ h => .inl h) (fun _ h => h)⟩)
  | fn g t ih =>
    intro o o' x cs O h hl
    cases o <;> cases o' <;> first
      | exact h.elim
      | (simp [Ow.le] at hl; done)
      | exact same h
      | (obtain ⟨cap, rfl, h1⟩ := h
         exact ⟨O, fun _ => False, fun _ h => h, fun _ h => h.elim, fun _ _ h => h, cap, rfl, h1.mono (fun _ h => .inl h) (fun _ h => h)⟩)
end Go.OM

namespace Go.OM
open Go

theorem AtC.eq {w : World} {b off : Nat} {c d : List Value} (h : AtC w b off c) (k : AtC w b off d) (e : c.length = d.length) : c = d := by
  apply List.ext_getElem e
  intro i h1 h2
  have a := h i _ (List.getElem?_eq_getElem h1)
  have b := k i _ (List.getElem?_eq_getElem h2)
  rw [a] at b
  exact Option.some.inj b
theorem AtC.left {w : World} {b off : Nat} {c d : List Value} (h : AtC w b off (c ++ d)) : AtC w b off c := by
  intro i v hv
  have : i < c.length := (List.getElem?_eq_some_iff.1 hv).1
  exact h i v (by rw [List.getElem?_append_left this]; exact hv)
theorem AtC.right {w : World} {b off : Nat} {c d : List Value} (h : AtC w b off (c ++ d)) : AtC w b (off + c.length) d := by
  intro i v hv
  have := h (c.length + i) v (by rw [List.getElem?_append_right (by omega)]; simpa using hv)
  rw [Nat.add_assoc]; exact this
theorem AtC.app {w : World} {b off : Nat} {c d : List Value} (h : AtC w b off c) (k : AtC w b (off + c.length) d) : AtC w b off (c ++ d) := by
  intro i v hv
  by_cases hi : i < c.length
  · exact h i v (by rwa [List.getElem?_append_left hi] at hv)
  · rw [List.getElem?_append_right (by omega)] at hv
    have := k _ v hv
    rwa [Nat.add_assoc, Nat.add_sub_cancel' (by omega)] at this

/-- The cells at a place; the rows on the way are of Q. -/
def NavC (w : World) (Q : Nat → Prop) : Ty → List Value → Path → List Value → Prop
  | _, cs, [], d => d = cs
  | .pair a _, cs, .fst :: p, d => NavC w Q a (cs.take a.size) p d
  | .pair a b, cs, .snd :: p, d => NavC w Q b (cs.drop a.size) p d
  | .sl t, cs, .ix i :: p, d => ∃ ad len cap ci, cs = [.slice (some ad) len cap] ∧ i < len ∧ ad.spot = none ∧ ci.length = t.size ∧ AtC w ad.block (ad.off + i * t.size) ci ∧ Q ad.block ∧ NavC w Q t ci p d
  | _, _, _, _ => False
/-- Where it lies. -/
def NavA (w : World) (Q : Nat → Prop) : Ty → Option (Nat × Nat) → List Value → Path → Nat → Nat → Prop
  | _, base, _, [], b, o => base = some (b, o)
  | .pair a _, base, cs, .fst :: p, b, o => NavA w Q a base (cs.take a.size) p b o
  | .pair a c, base, cs, .snd :: p, b, o => NavA w Q c (base.map fun q => (q.1, q.2 + a.size)) (cs.drop a.size) p b o
  | .sl t, _, cs, .ix i :: p, b, o => ∃ ad len cap ci, cs = [.slice (some ad) len cap] ∧ i < len ∧ ad.spot = none ∧ ci.length = t.size ∧ AtC w ad.block (ad.off + i * t.size) ci ∧ Q ad.block ∧ NavA w Q t (some (ad.block, ad.off + i * t.size)) ci p b o
  | _, _, _, _, _, _ => False
def replC : Ty → List Value → Path → List Value → List Value
  | _, _, [], d => d
  | .pair a _, cs, .fst :: p, d => replC a (cs.take a.size) p d ++ cs.drop a.size
  | .pair a b, cs, .snd :: p, d => cs.take a.size ++ replC b (cs.drop a.size) p d
  | _, cs, _, _ => cs
def foff : Ty → Path → Nat
  | .pair a _, .fst :: p => foff a p
  | .pair a b, .snd :: p => a.size + foff b p
  | _, _ => 0
/-- Outside of n cells from off on the block is as it was. -/
def RowKeep (w w2 : World) (b off n : Nat) : Prop :=
  (∀ i, i < off ∨ off + n ≤ i → ∀ v, w.cell? ⟨b, i, none⟩ = some v → w2.cell? ⟨b, i, none⟩ = some v) ∧ ∀ k, Wr w b k → Wr w2 b k

theorem NavA.navC {w : World} {Q : Nat → Prop} : ∀ {p : Path} {t : Ty} {base : Option (Nat × Nat)} {cs : List Value} {b o : Nat}, NavA w Q t base cs p b o → ∃ d, NavC w Q t cs p d := by
  intro p
  induction p with
  | nil => intro t base cs b o h; exact ⟨cs, by cases t <;> rfl⟩
  | cons s p ih =>
    intro t base cs b o h
    cases s <;> cases t <;> try exact h.elim
    · exact ih h
    · exact ih h
    · obtain ⟨ad, len, cap, ci, h1, h2, h3, h4, h5, hQ, h6⟩ := h
      obtain ⟨d, hd⟩ := ih h6
      exact ⟨d, ad, len, cap, ci, h1, h2, h3, h4, h5, hQ, hd⟩
/-- The cells lie where the place lies. -/
theorem NavA.at {w : World} {Q : Nat → Prop} : ∀ {p : Path} {t : Ty} {base : Option (Nat × Nat)} {cs d : List Value} {b o : Nat}, NavA w Q t base cs p b o → NavC w Q t cs p d →
    (∀ q, base = some q → AtC w q.1 q.2 cs) → cs.length = t.size → AtC w b o d := by
  intro p
  induction p with
  | nil =>
    intro t base cs d b o h k hb hl
    have h' : base = some (b, o) := by cases t <;> exact h
    have k' : d = cs := by cases t <;> exact k
    subst k'
    exact hb _ h'
  | cons s p ih =>
    intro t base cs d b o h k hb hl
    cases s <;> cases t <;> try exact h.elim
    · rename_i a c
      simp only [Ty.size] at hl
      have e := List.take_append_drop a.size cs
      exact ih h k (fun q hq => by have := hb q hq; rw [← e] at this; exact this.left) (by simp; omega)
    · rename_i a c
      simp only [Ty.size] at hl
      refine ih h k (fun q hq => ?_) (by simp; omega)
      cases base with
      | none => simp at hq
      | some r =>
        simp at hq; subst hq
        have := hb r rfl
        rw [← List.take_append_drop a.size cs] at this
        have := this.right
        rw [List.length_take_of_le (by omega)] at this
        exact this
    · rename_i t
      obtain ⟨ad, len, cap, ci, h1, h2, h3, h4, h5, hQ, h6⟩ := h
      obtain ⟨ad', len', cap', ci', k1, k2, k3, k4, k5, _, k6⟩ := k
      rw [h1] at k1; simp at k1
      obtain ⟨rfl, rfl, rfl⟩ := k1
      obtain rfl := h5.eq k5 (by omega)
      exact ih h6 k6 (fun q hq => by simp at hq; subst hq; exact h5) h4
theorem NavA.flat {w : World} {Q : Nat → Prop} : ∀ {p : Path} {t : Ty} {b0 o0 : Nat} {cs : List Value} {b o : Nat}, p.flat = true → NavA w Q t (some (b0, o0)) cs p b o → b = b0 ∧ o = o0 + foff t p := by
  intro p
  induction p with
  | nil => intro t b0 o0 cs b o _ h; have h' : some (b0, o0) = some (b, o) := by cases t <;> exact h
           simp at h'; simp [foff, h']
  | cons s p ih =>
    intro t b0 o0 cs b o hf h
    cases s <;> cases t <;> try exact h.elim
    · exact ih (by simpa [Path.flat] using hf) h
    · have := ih (by simpa [Path.flat] using hf) h
      simp [foff]; omega
    · simp [Path.flat] at hf
theorem NavC.len {w : World} {Q : Nat → Prop} : ∀ {p : Path} {t : Ty} {cs d : List Value}, p.flat = true → NavC w Q t cs p d → cs.length = t.size → foff t p + d.length ≤ t.size := by
  intro p
  induction p with
  | nil => intro t cs d _ h hl; have h' : d = cs := by cases t <;> exact h
           subst h'; simp [foff, hl]
  | cons s p ih =>
    intro t cs d hf h hl
    cases s <;> cases t <;> try exact h.elim
    · rename_i a c; simp only [Ty.size] at hl ⊢
      have := ih (by simpa [Path.flat] using hf) h (by simp; omega)
      simp only [foff]; omega
    · rename_i a c; simp only [Ty.size] at hl ⊢
      have := ih (by simpa [Path.flat] using hf) h (by simp; omega)
      simp only [foff]; omega
    · simp [Path.flat] at hf
theorem replC.nonflat {t : Ty} : ∀ {p : Path} {cs d : List Value}, p.flat = false → replC t cs p d = cs := by
  induction t with
  | pair a b iha ihb =>
    intro p cs d hf
    cases p with
    | nil => simp [Path.flat] at hf
    | cons s p =>
      cases s with
      | fst => simp only [replC]; rw [iha (by simpa [Path.flat] using hf)]; exact List.take_append_drop ..
      | snd => simp only [replC]; rw [ihb (by simpa [Path.flat] using hf)]; exact List.take_append_drop ..
      | ix i => rfl
  | _ =>
    intro p cs d hf
    cases p with
    | nil => simp [Path.flat] at hf
    | cons s p => cases s <;> rfl
theorem replC.len {w : World} {Q : Nat → Prop} : ∀ {p : Path} {t : Ty} {cs c d : List Value}, NavC w Q t cs p c → c.length = d.length → (replC t cs p d).length = cs.length := by
  intro p
  induction p with
  | nil => intro t cs c d h e; have h' : c = cs := by cases t <;> exact h
           subst h'; cases t <;> simp [replC, e]
  | cons s p ih =>
    intro t cs c d h e
    cases s <;> cases t <;> try exact h.elim
    · simp only [replC]; rw [List.length_append, ih h e, ← List.length_append, List.take_append_drop]
    · simp only [replC]; rw [List.length_append, ih h e, ← List.length_append, List.take_append_drop]
    · rfl
theorem AtC.keep {w w2 : World} {b off n q : Nat} {cs : List Value} (h : AtC w b q cs) (k : RowKeep w w2 b off n) (d : q + cs.length ≤ off ∨ off + n ≤ q) : AtC w2 b q cs := by
  intro i v hv
  have hi := (List.getElem?_eq_some_iff.1 hv).1
  exact k.1 (q + i) (by omega) v (h i v hv)
theorem AtC.repl {w w2 : World} {Q : Nat → Prop} : ∀ {p : Path} {t : Ty} {cs c d : List Value} {b off : Nat}, p.flat = true → AtC w b off cs → NavC w Q t cs p c → cs.length = t.size → c.length = d.length →
    RowKeep w w2 b (off + foff t p) d.length → AtC w2 b (off + foff t p) d → AtC w2 b off (replC t cs p d) := by
  intro p
  induction p with
  | nil =>
    intro t cs c d b off _ h n hl e k ha
    cases t <;> simpa [replC, foff] using ha
  | cons s p ih =>
    intro t cs c d b off hf h n hl e k ha
    cases s <;> cases t <;> try exact n.elim
    · rename_i a g
      simp only [Ty.size] at hl
      have hf' : Path.flat p = true := by simpa [Path.flat] using hf
      have h' := h
      rw [← List.take_append_drop a.size cs] at h'
      have hlen : (cs.take a.size).length = a.size := by simp; omega
      have n' : NavC w Q a (cs.take a.size) p c := n
      have hr := replC.len (d := d) n' e
      have k' : RowKeep w w2 b (off + foff a p) d.length := k
      have hr2 := h'.right
      rw [hlen] at hr2
      have := NavC.len hf' n' hlen
      simp only [replC]
      refine AtC.app (ih hf' h'.left n' hlen e k' ha) ?_
      rw [hr, hlen]
      exact hr2.keep k' (by right; omega)
    · rename_i a g
      simp only [Ty.size] at hl
      have hf' : Path.flat p = true := by simpa [Path.flat] using hf
      have h' := h
      rw [← List.take_append_drop a.size cs] at h'
      have hlen : (cs.take a.size).length = a.size := by simp; omega
      have hlen2 : (cs.drop a.size).length = g.size := by simp; omega
      simp only [replC]
      refine AtC.app (h'.left.keep k ?_) ?_
      · simp only [foff]; left; omega
      · have hr := h'.right
        rw [hlen] at hr ⊢
        exact ih hf' hr n hlen2 e (by simpa [foff, Nat.add_assoc] using k) (by simpa [foff, Nat.add_assoc] using ha)
    · simp [Path.flat] at hf

theorem navA_flat {w : World} {Q : Nat → Prop} : ∀ {p : Path} {t : Ty} {b0 o0 : Nat} {cs d : List Value}, p.flat = true → NavC w Q t cs p d → ∃ q r, NavA w Q t (some (b0, o0)) cs p q r := by
  intro p
  induction p with
  | nil => intro t b0 o0 cs d _ _; exact ⟨b0, o0, by cases t <;> rfl⟩
  | cons s p ih =>
    intro t b0 o0 cs d hf h
    cases s <;> cases t <;> try exact h.elim
    · exact ih (by simpa [Path.flat] using hf) h
    · exact ih (by simpa [Path.flat] using hf) h
    · simp [Path.flat] at hf

theorem getD_get {α : Type} {xs : List α} {i : Nat} {d : α} (h : i < xs.length) : xs[i]? = some (xs.getD i d) := by
  rw [List.getElem?_eq_getElem h, List.getD_eq_getElem?_getD, List.getElem?_eq_getElem h]; rfl

/-- What a place holds. -/
theorem Rp.get {w : World} {Q S : Nat → Prop} : ∀ {p : Path} {t : Ty} {o o' : Ow} {x : t.den} {cs c : List Value} {O : Nat → Prop} {t' : Ty} {x' : t'.den},
    Rp w S t o x cs O → NavC w Q t cs p c → getP t x p = some ⟨t', x'⟩ → getO o p = some o' → ∃ O' : Nat → Prop, (∀ b, O' b → O b) ∧ Rp w S t' o' x' c O' := by
  intro p
  induction p with
  | nil =>
    intro t o o' x cs c O t' x' h n hg ho
    have n' : c = cs := by cases t <;> exact n
    have hg' : (⟨t, x⟩ : (t : Ty) × t.den) = ⟨t', x'⟩ := by cases t <;> exact Option.some.inj hg
    have ho' : o = o' := by cases o <;> exact Option.some.inj ho
    cases hg'; subst n' ho'
    exact ⟨O, fun _ h => h, h⟩
  | cons s p ih =>
    intro t o o' x cs c O t' x' h n hg ho
    cases s <;> cases t <;> try exact n.elim
    · rename_i a g
      have key : ∀ oa, o.fst = some oa → getO oa p = some o' → o ≠ .dead → o ≠ .a → ∃ O' : Nat → Prop, (∀ b, O' b → O b) ∧ Rp w S t' o' x' c O' := by
        intro oa e1 e2 e3 e4
        cases o <;> first | exact absurd rfl e3 | exact absurd rfl e4 | skip
        all_goals
          obtain ⟨oa', ob, c1, c2, O1, O2, f1, f2, rfl, h1, h2, s1, s2, d⟩ := h
          rw [e1] at f1; obtain rfl := Option.some.inj f1
          have n' : NavC w Q a ((c1 ++ c2).take a.size) p c := n
          rw [List.take_left' h1.len] at n'
          obtain ⟨O', q1, q2⟩ := ih h1 n' hg e2
          exact ⟨O', fun b hb => s1 _ (q1 _ hb), q2⟩
      cases o <;> simp only [getO] at ho <;> first | (simp at ho; done) | skip
      · obtain rfl := Option.some.inj ho
        exact key .z rfl (by cases p <;> rfl) (by simp) (by simp)
      · exact key _ rfl ho (by simp) (by simp)
    · rename_i a g
      have key : ∀ oa, o.snd = some oa → getO oa p = some o' → o ≠ .dead → o ≠ .a → ∃ O' : Nat → Prop, (∀ b, O' b → O b) ∧ Rp w S t' o' x' c O' := by
        intro oa e1 e2 e3 e4
        cases o <;> first | exact absurd rfl e3 | exact absurd rfl e4 | skip
        all_goals
          obtain ⟨oa', ob, c1, c2, O1, O2, f1, f2, rfl, h1, h2, s1, s2, d⟩ := h
          rw [e1] at f2; obtain rfl := Option.some.inj f2
          have n' : NavC w Q g ((c1 ++ c2).drop a.size) p c := n
          rw [List.drop_left' h1.len] at n'
          obtain ⟨O', q1, q2⟩ := ih h2 n' hg e2
          exact ⟨O', fun b hb => s2 _ (q1 _ hb), q2⟩
      cases o <;> simp only [getO] at ho <;> first | (simp at ho; done) | skip
      · obtain rfl := Option.some.inj ho
        exact key .z rfl (by cases p <;> rfl) (by simp) (by simp)
      · exact key _ rfl ho (by simp) (by simp)
    · rename_i i t
      obtain ⟨ad, len, cap, ci, h1, h2, h3, h4, h5, hQ, h6⟩ := n
      cases o <;> simp only [getO] at ho <;> first | (simp at ho; done) | skip
      · obtain rfl := Option.some.inj ho
        obtain ⟨a, cap', e, hc, h⟩ := h
        rw [h1] at e; simp at e
        obtain ⟨rfl, rfl, rfl⟩ := e
        obtain ⟨_, _, ci', k1, k2⟩ := h i _ (getD_get (d := zv t) h2)
        obtain rfl := h5.eq k1 (by rw [h4, k2.len])
        obtain ⟨O', q1, q2⟩ := ih k2 h6 hg (by cases p <;> rfl)
        exact ⟨O', fun b hb => (q1 _ hb).elim, q2⟩
      · obtain ⟨a, cap', e, hc, h⟩ := h
        rw [h1] at e; simp at e
        obtain ⟨rfl, rfl, rfl⟩ := e
        obtain ⟨g1, g2, g3, Os, g4, g5, g6⟩ := h
        obtain ⟨ci', k1, k2⟩ := g4 i _ (getD_get (d := zv t) h2)
        obtain rfl := h5.eq k1 (by rw [h4, k2.len])
        obtain ⟨O', q1, q2⟩ := ih k2 h6 hg ho
        exact ⟨O', fun b hb => (g5 _ _ (q1 _ hb)).1, q2⟩
end Go.OM

namespace Go.OM
open Go

theorem setO_getO : ∀ {p : Path} {o o2 on : Ow}, setO o p o2 = some on → ∃ o', getO o p = some o' := by
  intro p
  induction p with
  | nil => intro o o2 on _; exact ⟨o, by cases o <;> rfl⟩
  | cons s p ih =>
    intro o o2 on h
    cases s <;> cases o <;> simp only [setO] at h <;> first | (simp at h; done) | skip
    all_goals first
      | exact ⟨.z, rfl⟩
      | (simp only [getO]
         first
           | (obtain ⟨e, he, _⟩ := Option.map_eq_some_iff.1 h; exact ih he)
           | (obtain ⟨e, he, _⟩ := Option.bind_eq_some_iff.1 h; exact ih he))

theorem Rp.pair_parts {w : World} {S : Nat → Prop} {a g : Ty} {o : Ow} {x : (Ty.pair a g).den} {cs : List Value} {O : Nat → Prop} {oa ob : Ow} (h : Rp w S (.pair a g) o x cs O) (e1 : o.fst = some oa) (e2 : o.snd = some ob) :
    ∃ c1 c2 O1 O2, cs = c1 ++ c2 ∧ Rp w S a oa x.1 c1 O1 ∧ Rp w S g ob x.2 c2 O2 ∧ (∀ i, O1 i → O i) ∧ (∀ i, O2 i → O i) ∧ ∀ i, O1 i → ¬ O2 i := by
  cases o <;> simp [Ow.fst, Ow.snd] at e1 e2
  all_goals
    obtain ⟨oa', ob', c1, c2, O1, O2, f1, f2, rest⟩ := h
    simp [Ow.fst, Ow.snd] at f1 f2
    subst e1 e2 f1 f2
    exact ⟨c1, c2, O1, O2, rest⟩
theorem Rp.pair_mk {w : World} {S : Nat → Prop} {a g : Ty} {o : Ow} {x : (Ty.pair a g).den} {c1 c2 : List Value} {O1 O2 : Nat → Prop} {oa ob : Ow} (e : o = Ow.mk2 oa ob)
    (h1 : Rp w S a oa x.1 c1 O1) (h2 : Rp w S g ob x.2 c2 O2) (d : ∀ i, O1 i → ¬ O2 i) : Rp w S (.pair a g) o x (c1 ++ c2) (fun b => O1 b ∨ O2 b) := by
  subst e
  have : ∀ oa ob, (Ow.mk2 oa ob).fst = some oa ∧ (Ow.mk2 oa ob).snd = some ob ∧ Ow.mk2 oa ob ≠ .dead ∧ Ow.mk2 oa ob ≠ .a := by
    intro oa ob; cases oa <;> cases ob <;> simp [Ow.mk2, Ow.fst, Ow.snd]
  obtain ⟨e1, e2, e3, e4⟩ := this oa ob
  generalize Ow.mk2 oa ob = o at *
  cases o <;> first | exact absurd rfl e3 | exact absurd rfl e4 | exact ⟨oa, ob, c1, c2, O1, O2, e1, e2, rfl, h1, h2, fun _ h => .inl h, fun _ h => .inr h, d⟩

/-- What is asked of the world behind a write at a place: all blocks but the place's own part and its row are as they were; the row is, but for the place. -/
structure Wrote (w w2 : World) (Q S O O' : Nat → Prop) (t : Ty) (base : Option (Nat × Nat)) (cs : List Value) (p : Path) (n : Nat) (d : List Value) : Prop where
  keep : ∀ b, S b ∨ O b → ¬ O' b → (p.flat = false → ∀ q r, NavA w Q t base cs p q r → b ≠ q) → w2.heap[b]? = w.heap[b]?
  row : p.flat = false → ∀ q r, NavA w Q t base cs p q r → RowKeep w w2 q r n ∧ AtC w2 q r d

theorem Rp.part {w : World} {Q S : Nat → Prop} : ∀ {p : Path} {t : Ty} {o o' : Ow} {x : t.den} {cs c : List Value} {O : Nat → Prop} {t' : Ty} {x' : t'.den},
    Rp w S t o x cs O → (∀ b, S b → ¬ O b) → NavC w Q t cs p c → getP t x p = some ⟨t', x'⟩ → getO o p = some o' →
    ∃ O' : Nat → Prop, (∀ b, O' b → O b) ∧ Rp w S t' o' x' c O' ∧
      (p.flat = false → (∃ o2 on, setO o p o2 = some on) → ∀ base q r, NavA w Q t base cs p q r → O q ∧ ¬ O' q) ∧
      ∀ (w2 : World) (S2 : Nat → Prop) (o2 on : Ow) (xn : t.den) (d : List Value) (y : t'.den), (∀ b, S b → S2 b) → setP t x p t' y = some xn → setO o p o2 = some on → ∀ base O2, Wrote w w2 Q S O O' t base cs p c.length d → Rp w2 S2 t' o2 y d O2 → c.length = d.length → (∀ b, O2 b → O b → O' b) →
        Rp w2 S2 t on xn (replC t cs p d) (fun b => (O b ∧ ¬ O' b) ∨ O2 b) := by
  intro p
  induction p with
  | nil =>
    intro t o o' x cs c O t' x' h hd n hg hgo
    have n' : c = cs := by cases t <;> exact n
    subst n'
    have hg' : (⟨t, x⟩ : (t : Ty) × t.den) = ⟨t', x'⟩ := by cases t <;> exact Option.some.inj hg
    have ho' : o = o' := by cases o <;> exact Option.some.inj hgo
    cases hg'; subst ho'
    refine ⟨O, fun _ h => h, h, fun hf => by simp [Path.flat] at hf, fun w2 S2 o2 on xn d y hS hs ho base O2 _ h2 _ _ => ?_⟩
    have hs' : (if e : t = t then some (e ▸ y) else none) = some xn := by cases t <;> exact hs
    have ho2 : o2 = on := by cases o <;> exact Option.some.inj ho
    subst ho2
    rw [dif_pos rfl] at hs'
    obtain rfl := Option.some.inj hs'
    have : replC t c [] d = d := by cases t <;> rfl
    rw [this]
    exact h2.mono (fun _ h => h) (fun _ h => .inr h)
  | cons s p ih =>
    intro t o o' x cs c O t' x' h hd n hg hgo
    cases s <;> cases t <;> try exact n.elim
    · rename_i a g
      have key : ∀ oa ob, o.fst = some oa → o.snd = some ob → getO oa p = some o' → (∀ o2 on, setO o (.fst :: p) o2 = some on → ∃ e, setO oa p o2 = some e ∧ on = Ow.mk2 e ob) →
          ∃ O' : Nat → Prop, (∀ b, O' b → O b) ∧ Rp w S t' o' x' c O' ∧
          (Path.flat (.fst :: p) = false → (∃ o2 on, setO o (.fst :: p) o2 = some on) → ∀ base q r, NavA w Q (.pair a g) base cs (.fst :: p) q r → O q ∧ ¬ O' q) ∧
          ∀ (w2 : World) (S2 : Nat → Prop) (o2 on : Ow) (xn : (Ty.pair a g).den) (d : List Value) (y : t'.den), (∀ b, S b → S2 b) → setP (.pair a g) x (.fst :: p) t' y = some xn → setO o (.fst :: p) o2 = some on → ∀ base O2, Wrote w w2 Q S O O' (.pair a g) base cs (.fst :: p) c.length d → Rp w2 S2 t' o2 y d O2 → c.length = d.length → (∀ b, O2 b → O b → O' b) →
            Rp w2 S2 (.pair a g) on xn (replC (.pair a g) cs (.fst :: p) d) (fun b => (O b ∧ ¬ O' b) ∨ O2 b) := by
        intro oa ob e1 e2 hget hset
        obtain ⟨c1, c2, O1, Ob, rfl, h1, h2, s1, s2, dj⟩ := h.pair_parts e1 e2
        have n' : NavC w Q a ((c1 ++ c2).take a.size) p c := n
        have tk : (c1 ++ c2).take a.size = c1 := List.take_left' h1.len
        have dr : (c1 ++ c2).drop a.size = c2 := List.drop_left' h1.len
        rw [tk] at n'
        obtain ⟨O', q1, q2, q3, q4⟩ := ih h1 (fun b hb hb' => hd b hb (s1 _ hb')) n' hg hget
        have q3' : ∀ base q r, Path.flat p = false → (∃ o2 on, setO oa p o2 = some on) → NavA w Q (.pair a g) base (c1 ++ c2) (.fst :: p) q r → O1 q ∧ ¬ O' q := by
          intro base q r hf hex hq
          have hq' : NavA w Q a base ((c1 ++ c2).take a.size) p q r := hq
          rw [tk] at hq'
          exact q3 hf hex base q r hq'
        refine ⟨O', fun b hb => s1 _ (q1 _ hb), q2, ?_, ?_⟩
        · rintro hf ⟨o2, on, ho⟩ base q r hq
          obtain ⟨e, he, _⟩ := hset _ _ ho
          have := q3' base q r hf ⟨_, _, he⟩ hq
          exact ⟨s1 _ this.1, this.2⟩
        · intro w2 S2 o2 on xn d y hS hs ho base O2 wr hr hl hO
          obtain ⟨e, he, hon⟩ := hset _ _ ho
          obtain ⟨xe, hxe, hxn⟩ := Option.map_eq_some_iff.1 (show (setP a x.1 p t' y).map (fun e => (e, x.2)) = some xn from hs)
          have w1 : Wrote w w2 Q S O1 O' a base c1 p c.length d := by
            refine ⟨fun b hb hn hk => wr.keep b (hb.imp id (s1 b)) hn (fun hf q r hq => ?_), fun hf q r hq => wr.row hf q r ?_⟩
            · have hq' : NavA w Q a base ((c1 ++ c2).take a.size) p q r := hq
              rw [tk] at hq'; exact hk hf q r hq'
            · show NavA w Q a base ((c1 ++ c2).take a.size) p q r
              rw [tk]; exact hq
          have r1 := q4 w2 S2 o2 e xe d y hS hxe he base O2 w1 hr hl (fun b hb hb' => hO b hb (s1 _ hb'))
          have r2 : Rp w2 S2 g ob x.2 c2 Ob := h2.frame hS (fun _ h => h) (fun b hb => wr.keep b (hb.imp id (s2 b)) (fun hk => ?_) (fun hf q r hq e' => ?_))
          · subst hxn
            have : replC (.pair a g) (c1 ++ c2) (.fst :: p) d = replC a c1 p d ++ c2 := by simp only [replC]; rw [tk, dr]
            rw [this]
            refine (Rp.pair_mk (x := ((xe, x.2) : (Ty.pair a g).den)) hon r1 r2 ?_).mono (fun _ h => h) ?_
            · rintro i (⟨hi, hn⟩ | hi) hk
              · exact dj _ hi hk
              · exact dj _ (q1 _ (hO i hi (s2 _ hk))) hk
            · rintro b ((⟨hi, hn⟩ | hi) | hk)
              · exact .inl ⟨s1 _ hi, hn⟩
              · exact .inr hi
              · exact .inl ⟨s2 _ hk, fun hn => dj _ (q1 _ hn) hk⟩
          · rcases hb with hb | hb
            · exact hd b hb (s1 _ (q1 _ hk))
            · exact dj _ (q1 _ hk) hb
          · have := q3' base q r hf ⟨_, _, he⟩ hq
            subst e'
            rcases hb with hb | hb
            · exact hd b hb (s1 _ this.1)
            · exact dj _ this.1 hb
      cases o <;> simp only [getO] at hgo <;> first | (cases hgo; done) | skip
      · obtain rfl := Option.some.inj hgo
        exact key .z .z rfl rfl (by cases p <;> rfl) (fun o2 on ho => by
          simp only [setO] at ho
          obtain ⟨e, he, rfl⟩ := Option.map_eq_some_iff.1 ho
          exact ⟨e, he, rfl⟩)
      · exact key _ _ rfl rfl hgo (fun o2 on ho => by
          simp only [setO] at ho
          obtain ⟨e, he, rfl⟩ := Option.map_eq_some_iff.1 ho
          exact ⟨e, he, rfl⟩)
    · rename_i a g
      have key : ∀ oa ob, o.fst = some oa → o.snd = some ob → getO ob p = some o' → (∀ o2 on, setO o (.snd :: p) o2 = some on → ∃ e, setO ob p o2 = some e ∧ on = Ow.mk2 oa e) →
          ∃ O' : Nat → Prop, (∀ b, O' b → O b) ∧ Rp w S t' o' x' c O' ∧
          (Path.flat (.snd :: p) = false → (∃ o2 on, setO o (.snd :: p) o2 = some on) → ∀ base q r, NavA w Q (.pair a g) base cs (.snd :: p) q r → O q ∧ ¬ O' q) ∧
          ∀ (w2 : World) (S2 : Nat → Prop) (o2 on : Ow) (xn : (Ty.pair a g).den) (d : List Value) (y : t'.den), (∀ b, S b → S2 b) → setP (.pair a g) x (.snd :: p) t' y = some xn → setO o (.snd :: p) o2 = some on → ∀ base O2, Wrote w w2 Q S O O' (.pair a g) base cs (.snd :: p) c.length d → Rp w2 S2 t' o2 y d O2 → c.length = d.length → (∀ b, O2 b → O b → O' b) →
            Rp w2 S2 (.pair a g) on xn (replC (.pair a g) cs (.snd :: p) d) (fun b => (O b ∧ ¬ O' b) ∨ O2 b) := by
        intro oa ob e1 e2 hget hset
        obtain ⟨c1, c2, O1, Ob, rfl, h1, h2, s1, s2, dj⟩ := h.pair_parts e1 e2
        have n' : NavC w Q g ((c1 ++ c2).drop a.size) p c := n
        have tk : (c1 ++ c2).take a.size = c1 := List.take_left' h1.len
        have dr : (c1 ++ c2).drop a.size = c2 := List.drop_left' h1.len
        rw [dr] at n'
        obtain ⟨O', q1, q2, q3, q4⟩ := ih h2 (fun b hb hb' => hd b hb (s2 _ hb')) n' hg hget
        have q3' : ∀ base q r, Path.flat p = false → (∃ o2 on, setO ob p o2 = some on) → NavA w Q (.pair a g) base (c1 ++ c2) (.snd :: p) q r → Ob q ∧ ¬ O' q := by
          intro base q r hf hex hq
          have hq' : NavA w Q g (base.map fun q => (q.1, q.2 + a.size)) ((c1 ++ c2).drop a.size) p q r := hq
          rw [dr] at hq'
          exact q3 hf hex _ q r hq'
        refine ⟨O', fun b hb => s2 _ (q1 _ hb), q2, ?_, ?_⟩
        · rintro hf ⟨o2, on, ho⟩ base q r hq
          obtain ⟨e, he, _⟩ := hset _ _ ho
          have := q3' base q r hf ⟨_, _, he⟩ hq
          exact ⟨s2 _ this.1, this.2⟩
        · intro w2 S2 o2 on xn d y hS hs ho base O2 wr hr hl hO
          obtain ⟨e, he, hon⟩ := hset _ _ ho
          obtain ⟨xe, hxe, hxn⟩ := Option.map_eq_some_iff.1 (show (setP g x.2 p t' y).map (fun e => (x.1, e)) = some xn from hs)
          have w1 : Wrote w w2 Q S Ob O' g (base.map fun q => (q.1, q.2 + a.size)) c2 p c.length d := by
            refine ⟨fun b hb hn hk => wr.keep b (hb.imp id (s2 b)) hn (fun hf q r hq => ?_), fun hf q r hq => wr.row hf q r ?_⟩
            · have hq' : NavA w Q g (base.map fun q => (q.1, q.2 + a.size)) ((c1 ++ c2).drop a.size) p q r := hq
              rw [dr] at hq'; exact hk hf q r hq'
            · show NavA w Q g (base.map fun q => (q.1, q.2 + a.size)) ((c1 ++ c2).drop a.size) p q r
              rw [dr]; exact hq
          have r1 := q4 w2 S2 o2 e xe d y hS hxe he _ O2 w1 hr hl (fun b hb hb' => hO b hb (s2 _ hb'))
          have r2 : Rp w2 S2 a oa x.1 c1 O1 := h1.frame hS (fun _ h => h) (fun b hb => wr.keep b (hb.imp id (s1 b)) (fun hk => ?_) (fun hf q r hq e' => ?_))
          · subst hxn
            have : replC (.pair a g) (c1 ++ c2) (.snd :: p) d = c1 ++ replC g c2 p d := by simp only [replC]; rw [tk, dr]
            rw [this]
            refine (Rp.pair_mk (x := ((x.1, xe) : (Ty.pair a g).den)) hon r2 r1 ?_).mono (fun _ h => h) ?_
            · rintro i hk (⟨hi, hn⟩ | hi)
              · exact dj _ hk hi
              · exact dj _ hk (q1 _ (hO i hi (s1 _ hk)))
            · rintro b (hk | (⟨hi, hn⟩ | hi))
              · exact .inl ⟨s1 _ hk, fun hn => dj _ hk (q1 _ hn)⟩
              · exact .inl ⟨s2 _ hi, hn⟩
              · exact .inr hi
          · rcases hb with hb | hb
            · exact hd b hb (s2 _ (q1 _ hk))
            · exact dj _ hb (q1 _ hk)
          · have := q3' base q r hf ⟨_, _, he⟩ hq
            subst e'
            rcases hb with hb | hb
            · exact hd b hb (s2 _ this.1)
            · exact dj _ hb this.1
      cases o <;> simp only [getO] at hgo <;> first | (cases hgo; done) | skip
      · obtain rfl := Option.some.inj hgo
        exact key .z .z rfl rfl (by cases p <;> rfl) (fun o2 on ho => by
          simp only [setO] at ho
          obtain ⟨e, he, rfl⟩ := Option.map_eq_some_iff.1 ho
          exact ⟨e, he, rfl⟩)
      · exact key _ _ rfl rfl hgo (fun o2 on ho => by
          simp only [setO] at ho
          obtain ⟨e, he, rfl⟩ := Option.map_eq_some_iff.1 ho
          exact ⟨e, he, rfl⟩)
    · rename_i i t
      cases o <;> simp only [getO] at hgo <;> first | (cases hgo; done) | skip
      · -- what it leads to is only read
        obtain ⟨O', k1, k2⟩ := h.get n hg (show getO .z (.ix i :: p) = some o' from hgo)
        obtain rfl := Option.some.inj hgo
        exact ⟨O', k1, k2, fun _ ⟨_, _, h⟩ => by simp [setO] at h, fun _ _ _ _ _ _ _ _ _ h => by simp [setO] at h⟩
      rename_i oe
      obtain ⟨ad, len, cap, ci, h1, h2, h3, h4, h5, hQ, h6⟩ := n
      obtain ⟨a, cap', ecs, hc, h⟩ := h
      rw [h1] at ecs; simp at ecs
      obtain ⟨rfl, rfl, rfl⟩ := ecs
      obtain ⟨g1, g2, g3, Os, g4, g5, g6⟩ := h
      have hxi : x[i]? = some (List.getD x i (zv t)) := getD_get (d := zv t) h2
      obtain ⟨ci', k1, k2⟩ := g4 i _ hxi
      obtain rfl := h5.eq k1 (by rw [h4, k2.len])
      obtain ⟨O', q1, q2, q3, q4⟩ := ih k2 (fun b hb hb' => hd b hb (g5 _ _ hb').1) h6 hg hgo
      have nav : ∀ {base q r}, NavA w Q (.sl t) base cs (.ix i :: p) q r ↔ NavA w Q t (some (ad.block, ad.off + i * t.size)) ci p q r := by
        intro base q r
        constructor
        · rintro ⟨ad', len', cap', ci2, m1, m2, m3, m4, m5, _, m6⟩
          rw [h1] at m1; simp at m1
          obtain ⟨rfl, rfl, rfl⟩ := m1
          obtain rfl := h5.eq m5 (by omega)
          exact m6
        · exact fun m => ⟨ad, List.length x, cap, ci, h1, h2, h3, h4, h5, hQ, m⟩
      -- where the place lies: in this row, or in the element's own blocks
      have where0 : (∃ o2 on, setO oe p o2 = some on) → ∀ q r, NavA w Q t (some (ad.block, ad.off + i * t.size)) ci p q r → (Path.flat p = true ∧ q = ad.block ∧ r = ad.off + i * t.size + foff t p) ∨ (Path.flat p = false ∧ Os i q ∧ ¬ O' q) := by
        intro hex q r hq
        cases hf : Path.flat p with
        | true => exact .inl ⟨rfl, NavA.flat hf hq⟩
        | false => exact .inr ⟨rfl, q3 hf hex _ q r hq⟩
      refine ⟨O', fun b hb => (g5 _ _ (q1 _ hb)).1, q2, ?_, ?_⟩
      · rintro _ ⟨o2, on, ho⟩ base q r hq
        simp only [setO] at ho
        obtain ⟨e, he, _⟩ := Option.bind_eq_some_iff.1 ho
        have where_ := where0 ⟨_, _, he⟩
        rcases where_ q r (nav.1 hq) with ⟨_, rfl, _⟩ | ⟨_, hq1, hq2⟩
        · exact ⟨g2, fun hk => (g5 _ _ (q1 _ hk)).2 rfl⟩
        · exact ⟨(g5 _ _ hq1).1, hq2⟩
      · intro w2 S2 o2 on xn d y hS hs ho base O2 wr hr hl hO
        simp only [setO] at ho
        obtain ⟨e, he, hon⟩ := Option.bind_eq_some_iff.1 ho
        split at hon
        case isFalse => cases hon
        rename_i hee
        subst hee
        obtain rfl := Option.some.inj hon
        obtain ⟨xe, hxe, hxn⟩ := Option.map_eq_some_iff.1 (show (setP t (List.getD x i (zv t)) p t' y).map (fun e => List.set x i e) = some xn from hs)
        have where_ := where0 ⟨_, _, he⟩
        have ff : Path.flat (.ix i :: p) = false := rfl
        have w1 : Wrote w w2 Q S (Os i) O' t (some (ad.block, ad.off + i * t.size)) ci p c.length d := by
          refine ⟨fun b hb hn hk => wr.keep b (hb.imp id (fun h => (g5 _ _ h).1)) hn (fun _ q r hq => ?_), fun hf q r hq => wr.row ff q r (nav.2 hq)⟩
          rcases where_ q r (nav.1 hq) with ⟨_, rfl, _⟩ | ⟨hf, _, _⟩
          · rcases hb with hb | hb
            · intro e; subst e; exact hd _ hb g2
            · exact (g5 _ _ hb).2
          · exact hk hf q r (nav.1 hq)
        have r1 := q4 w2 S2 o2 e xe d y hS hxe he _ O2 w1 hr hl (fun b hb hb' => hO b hb (g5 _ _ hb').1)
        -- the row itself
        have rowW : ∀ k, Wr w ad.block k → Wr w2 ad.block k := by
          intro k hk
          cases hf : Path.flat p with
          | true =>
            obtain ⟨cc, hcc⟩ : ∃ q r, NavA w Q t (some (ad.block, ad.off + i * t.size)) ci p q r := navA_flat (Q := Q) hf h6
            obtain ⟨r, hq⟩ := hcc
            rcases where_ _ _ hq with ⟨_, rfl, rfl⟩ | ⟨hf', _⟩
            · exact (wr.row ff _ _ (nav.2 hq)).1.2 k hk
            · rw [hf] at hf'; cases hf'
          | false =>
            refine hk.frame (wr.keep _ (.inr g2) (fun hk => (g5 _ _ (q1 _ hk)).2 rfl) (fun _ q r hq => ?_))
            rcases where_ q r (nav.1 hq) with ⟨hf', _⟩ | ⟨_, hq1, _⟩
            · rw [hf] at hf'; cases hf'
            · exact fun e => (g5 _ _ hq1).2 e.symm
        have rowA : ∀ j cj, cj.length = t.size → AtC w ad.block (ad.off + j * t.size) cj → j ≠ i → AtC w2 ad.block (ad.off + j * t.size) cj := by
          intro j cj hlj hj hne
          cases hf : Path.flat p with
          | true =>
            obtain ⟨q, r, hq⟩ := navA_flat (b0 := ad.block) (o0 := ad.off + i * t.size) hf h6
            rcases where_ _ _ hq with ⟨_, rfl, rfl⟩ | ⟨hf', _⟩
            · refine hj.keep (wr.row ff _ _ (nav.2 hq)).1 ?_
              have := NavC.len hf h6 h4
              rcases Nat.lt_or_gt_of_ne hne with hlt | hlt
              · have := Nat.mul_le_mul_right t.size (show j + 1 ≤ i by omega)
                rw [Nat.add_mul] at this
                left; omega
              · have := Nat.mul_le_mul_right t.size (show i + 1 ≤ j by omega)
                rw [Nat.add_mul] at this
                right; omega
            · rw [hf] at hf'; cases hf'
          | false =>
            refine hj.frame (wr.keep _ (.inr g2) (fun hk => (g5 _ _ (q1 _ hk)).2 rfl) (fun _ q r hq => ?_))
            rcases where_ q r (nav.1 hq) with ⟨hf', _⟩ | ⟨_, hq1, _⟩
            · rw [hf] at hf'; cases hf'
            · exact fun e => (g5 _ _ hq1).2 e.symm
        have rowI : AtC w2 ad.block (ad.off + i * t.size) (replC t ci p d) := by
          cases hf : Path.flat p with
          | true =>
            obtain ⟨q, r, hq⟩ := navA_flat (b0 := ad.block) (o0 := ad.off + i * t.size) hf h6
            rcases where_ _ _ hq with ⟨_, rfl, rfl⟩ | ⟨hf', _⟩
            · have := wr.row ff _ _ (nav.2 hq)
              exact AtC.repl hf h5 h6 h4 hl (hl ▸ this.1) this.2
            · rw [hf] at hf'; cases hf'
          | false =>
            rw [replC.nonflat hf]
            refine h5.frame (wr.keep _ (.inr g2) (fun hk => (g5 _ _ (q1 _ hk)).2 rfl) (fun _ q r hq => ?_))
            rcases where_ q r (nav.1 hq) with ⟨hf', _⟩ | ⟨_, hq1, _⟩
            · rw [hf] at hf'; cases hf'
            · exact fun e => (g5 _ _ hq1).2 e.symm
        subst hxn
        have hrc : replC (.sl t) cs (.ix i :: p) d = cs := rfl
        rw [hrc]
        refine ⟨some ad, cap, by rw [h1]; simp, by simpa using hc, g1, .inl ⟨g2, fun hk => (g5 _ _ (q1 _ hk)).2 rfl⟩, rowW _ g3, fun k b => if k = i then (Os i b ∧ ¬ O' b) ∨ O2 b else Os k b, ?_, ?_, ?_⟩
        · intro j z hz
          by_cases hj : j = i
          · subst hj
            rw [List.getElem?_set_self h2] at hz
            obtain rfl := Option.some.inj hz
            exact ⟨_, rowI, r1.mono (fun _ h => h) (fun b hb => by simp only [if_true]; exact hb)⟩
          · rw [List.getElem?_set_ne (Ne.symm hj)] at hz
            obtain ⟨cj, m1, m2⟩ := g4 j z hz
            refine ⟨cj, rowA j cj m2.len m1 hj, m2.frame hS (fun b hb => by simp only [if_neg hj]; exact hb) (fun b hb => wr.keep b (hb.imp id (fun h => (g5 _ _ h).1)) (fun hk => ?_) (fun _ q r hq e => ?_))⟩
            · rcases hb with hb | hb
              · exact hd b hb (g5 _ _ (q1 _ hk)).1
              · exact g6 j i b hj hb (q1 _ hk)
            · subst e
              rcases where_ _ _ (nav.1 hq) with ⟨_, rfl, _⟩ | ⟨_, hq1, _⟩
              · rcases hb with hb | hb
                · exact hd _ hb g2
                · exact (g5 _ _ hb).2 rfl
              · rcases hb with hb | hb
                · exact hd b hb (g5 _ _ hq1).1
                · exact g6 j i b hj hb hq1
        · intro k b hb

          by_cases hk : k = i
          · rw [if_pos hk] at hb
            rcases hb with ⟨hb, hn⟩ | hb
            · exact ⟨.inl ⟨(g5 _ _ hb).1, hn⟩, (g5 _ _ hb).2⟩
            · refine ⟨.inr hb, fun e => ?_⟩
              subst e
              exact (g5 _ _ (q1 _ (hO _ hb g2))).2 rfl
          · rw [if_neg hk] at hb
            exact ⟨.inl ⟨(g5 _ _ hb).1, fun hn => g6 k i b hk hb (q1 _ hn)⟩, (g5 _ _ hb).2⟩
        · intro k j b hne hb hb'

          by_cases hk : k = i
          · subst hk
            rw [if_pos rfl] at hb
            rw [if_neg (Ne.symm hne)] at hb'
            rcases hb with ⟨hb, hn⟩ | hb
            · exact g6 k j b hne hb hb'
            · exact g6 k j b hne (q1 _ (hO b hb (g5 _ _ hb').1)) hb'
          · rw [if_neg hk] at hb
            by_cases hj : j = i
            · subst hj
              rw [if_pos rfl] at hb'
              rcases hb' with ⟨hb', hn⟩ | hb'
              · exact g6 k j b hne hb hb'
              · exact g6 k j b hne hb (q1 _ (hO b hb' (g5 _ _ hb).1))
            · rw [if_neg hj] at hb'
              exact g6 k j b hne hb hb'
theorem setP_getP : ∀ {p : Path} {t t' : Ty} {x xn : t.den} {y : t'.den}, setP t x p t' y = some xn → ∃ x', getP t x p = some ⟨t', x'⟩ := by
  intro p
  induction p with
  | nil =>
    intro t t' x xn y h
    have h : (if e : t' = t then some (e ▸ y) else none) = some xn := by cases t <;> exact h
    split at h
    · rename_i e; subst e; exact ⟨x, by cases t' <;> rfl⟩
    · cases h
  | cons s p ih =>
    intro t t' x xn y h
    cases s <;> cases t <;> simp only [setP] at h <;> first | (cases h; done) | skip
    · obtain ⟨e, he, _⟩ := Option.map_eq_some_iff.1 h; exact ih he
    · obtain ⟨e, he, _⟩ := Option.map_eq_some_iff.1 h; exact ih he
    · rename_i i t
      obtain ⟨e, he, _⟩ := Option.map_eq_some_iff.1 (show (setP t _ p t' y).map (fun e => List.set x _ e) = some xn from h); exact ih he
theorem Rp.set {w w2 : World} {Q S S2 : Nat → Prop} (hS : ∀ b, S b → S2 b) {p : Path} {t : Ty} {o o2 on : Ow} {x xn : t.den} {cs c d : List Value} {O : Nat → Prop} {t' : Ty} {y : t'.den}
    (h : Rp w S t o x cs O) (hd : ∀ b, S b → ¬ O b) (n : NavC w Q t cs p c) (hs : setP t x p t' y = some xn) (ho : setO o p o2 = some on) :
    ∃ O' : Nat → Prop, (∀ b, O' b → O b) ∧ (∀ x' o', getP t x p = some ⟨t', x'⟩ → getO o p = some o' → Rp w S t' o' x' c O') ∧
      (p.flat = false → ∀ base q r, NavA w Q t base cs p q r → O q ∧ ¬ O' q) ∧
      ∀ base O2, Wrote w w2 Q S O O' t base cs p c.length d → Rp w2 S2 t' o2 y d O2 → c.length = d.length → (∀ b, O2 b → O b → O' b) → 
        Rp w2 S2 t on xn (replC t cs p d) (fun b => (O b ∧ ¬ O' b) ∨ O2 b) := by
  obtain ⟨x', hx'⟩ := setP_getP hs
  obtain ⟨o', ho'⟩ := setO_getO ho
  obtain ⟨O', h1, h2, h3, h4⟩ := h.part hd n hx' ho'
  refine ⟨O', h1, fun x2 o3 hx2 ho3 => ?_, fun hf => h3 hf ⟨_, _, ho⟩, fun base O2 wr hr hl hO => h4 w2 S2 o2 on xn d y hS hs ho base O2 wr hr hl hO⟩
  rw [hx'] at hx2
  rw [ho'] at ho3
  cases hx2; cases ho3
  exact h2
end Go.OM

namespace Go.OM
open Go

/-- What a call of a function is about: the world at its begin, the blocks that it may write. -/
structure Ctx where
  base : Nat
  M : Nat → Prop
  w0 : World
  tags : Nat → List Value
  N : Nat
  S : Nat → Prop
  bk : Loc → Option Nat
  bkN : ∀ d, d < N ∨ 10000 ≤ d → bk (bx d) = none
/-- Blocks that are only read from here on; each place's own blocks; a box's block; a component's value. -/
structure Ghost where
  G : Nat → Prop
  O : Loc → Nat → Prop
  Bk : Loc → Nat
  CV : Loc → Value

def Sof (g : Ghost) (l : Lend) (b : Nat) : Prop := g.G b ∨ ∃ e ∈ l, g.O e.1 b
def valAt (g : Ghost) (a : Act) (l : Loc) : Option Value := if l % 4 = 0 then a.tmps[l / 4]? else if l % 4 = 2 then some (g.CV l) else none
def Cells (g : Ghost) (a : Act) (w : World) (l : Loc) (cs : List Value) : Prop :=
  if l % 4 = 1 then ∃ c e f, w.heap[g.Bk l]? = some (.cells c e f) ∧ c.toList = cs else ∃ v, valAt g a l = some v ∧ v.cells.toList = cs
def baseOf (g : Ghost) (l : Loc) : Option (Nat × Nat) := if l % 4 = 1 then some (g.Bk l, 0) else none
def Box (w : World) (b n : Nat) : Prop := ∃ c e f, w.heap[b]? = some (.cells c e f) ∧ c.size = n ∧ ∀ o, o ≤ c.size → ¬ (f.1 ≤ o ∧ o < f.2)
/-- The world has grown: rows keep their sizes. -/
structure Grow (w w' : World) : Prop where
  os : w'.os = w.os
  tape : w'.tape = w.tape
  output : w'.output = w.output
  size : w.heap.size ≤ w'.heap.size
  shape : ∀ (b : Nat) (c : Array Value) (e : TypeId) (f : Nat × Nat), w.heap[b]? = some (Obj.cells c e f) → ∃ (c' : Array Value) (f' : Nat × Nat), w'.heap[b]? = some (Obj.cells c' e f') ∧ c'.size = c.size
theorem Grow.refl (w : World) : Grow w w := ⟨rfl, rfl, rfl, Nat.le_refl _, fun _ c _ f h => ⟨c, f, h, rfl⟩⟩
theorem Grow.trans {a b c : World} (h : Grow a b) (k : Grow b c) : Grow a c :=
  ⟨k.os.trans h.os, k.tape.trans h.tape, k.output.trans h.output, Nat.le_trans h.size k.size, fun n x e f hx => by
    obtain ⟨x', f', h1, h2⟩ := h.shape n x e f hx
    obtain ⟨x'', f'', h3, h4⟩ := k.shape n x' e f' h1
    exact ⟨x'', f'', h3, h4.trans h2⟩⟩
structure Fr (base : Nat) (M : Nat → Prop) (w0 w : World) : Prop where
  grow : Grow w0 w
  le : base ≤ w0.heap.size
  old : ∀ b, b < base → ¬ M b → w.heap[b]? = w0.heap[b]?

def OrgOk (g : Ghost) (s : St) (a : Act) (w : World) (cs : List Value) : Option (Loc × Path × Nat) → Prop
  | none => True
  | some (l', p, ver) => (s l').v = ver → ∃ cs' V' org', (s l').t = .val V' org' ∧ Cells g a w l' cs' ∧ cs'.length = V'.t.size ∧ NavC w (g.O l') V'.t cs' p cs
/-- A value v that is V, the blocks Oc its own. -/
def Held (c : Ctx) (g : Ghost) (s : St) (a : Act) (w : World) (V : V) (org : Option (Loc × Path × Nat)) (cs : List Value) (Oc : Nat → Prop) : Prop :=
  Rp w (Sof g V.lend) V.t V.o V.x cs Oc ∧ (V.tag ≠ 0 → cs = c.tags V.tag) ∧ OrgOk g s a w cs org

def TOk (c : Ctx) (g : Ghost) (s : St) (a : Act) (w : World) (l : Loc) : T → Prop
  | .undef => True
  | .und => valAt g a l = some undef
  | .val V org => validL s V.lend = true → ∃ cs Oc, Cells g a w l cs ∧ (l % 4 ≠ 1 → valAt g a l = some (mkV V.t cs)) ∧ Held c g s a w V org cs Oc ∧ ∀ b, Oc b → g.O l b ∧ (l % 4 = 1 → b ≠ g.Bk l)
  | .prp pos p d => valAt g a l = some (.bool (boolOf pos p d))
  | .ref l' p v hv iv tr => validR s l' p v hv iv = true → ∃ b off cs V' org', ((s l').t = .val V' org' ∧ getT V'.t p = some tr) ∧ Cells g a w l' cs ∧ cs.length = V'.t.size ∧ NavA w (g.O l') V'.t (baseOf g l') cs p b off ∧ valAt g a l = some (.pointer (some ⟨b, off, none⟩))
  | .tup b n iv => (s (idl (tm b))).v = iv → ∃ vs, valAt g a l = some (.tuple vs) ∧ vs.size = n ∧ ∀ i, i < n → i < 8 ∧ vs[i]? = some (g.CV (cp b i))
def Fut (s : St) : T → Prop
  | .val V org => (∀ e ∈ V.lend, e.2 ≤ (s e.1).v) ∧ match org with | some (l, _, v) => v ≤ (s l).v | none => True
  | .ref l _ v hv iv _ => v ≤ (s l).v ∧ hv ≤ (s l).hv ∧ iv ≤ (s (idl l)).v
  | .tup b _ iv => iv ≤ (s (idl (tm b))).v
  | _ => True

/-- Nothing is lent from the place itself. -/
def Self (s : St) (l : Loc) : T → Prop
  | .val V _ => ∀ e ∈ V.lend, e.1 = l → e.2 < (s l).v
  | _ => True
structure RelG (c : Ctx) (g : Ghost) (s : St) (a : Act) (w : World) : Prop where
  disj : ∀ l l' b, g.O l b → g.O l' b → l = l'
  ownG : ∀ l b, g.O l b → ¬ g.G b
  own : ∀ l b, g.O l b → b < w.heap.size ∧ (c.base ≤ b ∨ c.M b)
  gsz : ∀ b, g.G b → b < w.heap.size
  boxes : ∀ l V org, l % 4 = 1 → (s l).t = .val V org → g.O l (g.Bk l) ∧ Box w (g.Bk l) V.t.size
  fr : Fr c.base c.M c.w0 w
  defs : a.defers = []
  size : a.tmps.size = c.N
  fut : ∀ l, Fut s (s l).t
  self : ∀ l, Self s l (s l).t
  toks : ∀ l, TOk c g s a w l (s l).t
  gin : ∀ b, g.G b → c.base ≤ b ∨ c.M b ∨ c.S b
  bks : ∀ l b, c.bk l = some b → g.Bk l = b
def Rel (c : Ctx) (s : St) (a : Act) (w : World) : Prop := ∃ g, RelG c g s a w

/-- A step: the places of L were written, all else stands. -/
structure Evo (L : Loc → Prop) (g : Ghost) (s : St) (a : Act) (w : World) (g' : Ghost) (s' : St) (a' : Act) (w' : World) : Prop where
  st : ∀ l, ¬ L l → s' l = s l
  up : ∀ l, L l → (s l).v < (s' l).v ∧ (s l).hv ≤ (s' l).hv
  O : ∀ l, ¬ L l → g'.O l = g.O l
  Bk : ∀ l, ¬ L l → g'.Bk l = g.Bk l
  val : ∀ l, ¬ L l → valAt g' a' l = valAt g a l
  CV : ∀ b i, i < 8 → ¬ L (idl (tm b)) → (∃ l n, (s l).t = .tup b n (s (idl (tm b))).v) → g'.CV (cp b i) = g.CV (cp b i)
  G : ∀ b, g.G b → g'.G b
  heap : ∀ b, (g.G b ∨ ∃ l, ¬ L l ∧ g.O l b) → w'.heap[b]? = w.heap[b]?
  refs : ∀ l, L l → ¬ L (idl l) → ∀ V org cs p b off v hv iv, (s l).t = .val V org → Cells g a w l cs → cs.length = V.t.size → NavA w (g.O l) V.t (baseOf g l) cs p b off → validR s' l p v hv iv = true → v ≤ (s l).v → hv ≤ (s l).hv →
    ∃ V' org' cs', ((s' l).t = .val V' org' ∧ V'.t = V.t) ∧ Cells g' a' w' l cs' ∧ cs'.length = V'.t.size ∧ NavA w' (g'.O l) V'.t (baseOf g' l) cs' p b off

theorem idl_ne (l : Nat) : idl l % 4 = 3 := Nat.mul_add_mod 4 l 3
theorem beq_eq {a b : Nat} : Nat.beq a b = true ↔ a = b := ⟨Nat.eq_of_beq_eq_true, fun h => by subst h; exact Nat.beq_refl a⟩

theorem NavC.frame {w w' : World} {Q Q' : Nat → Prop} (hQ : ∀ b, Q b → Q' b) (h : ∀ b, Q b → w'.heap[b]? = w.heap[b]?) : ∀ {p : Path} {t : Ty} {cs d : List Value}, NavC w Q t cs p d → NavC w' Q' t cs p d := by
  intro p
  induction p with
  | nil => intro t cs d n; cases t <;> exact n
  | cons s p ih =>
    intro t cs d n
    cases s <;> cases t <;> try exact n.elim
    · exact ih n
    · exact ih n
    · obtain ⟨ad, len, cap, ci, h1, h2, h3, h4, h5, hq, h6⟩ := n
      exact ⟨ad, len, cap, ci, h1, h2, h3, h4, h5.frame (h _ hq), hQ _ hq, ih h6⟩
theorem NavA.frame {w w' : World} {Q Q' : Nat → Prop} (hQ : ∀ b, Q b → Q' b) (h : ∀ b, Q b → w'.heap[b]? = w.heap[b]?) : ∀ {p : Path} {t : Ty} {base : Option (Nat × Nat)} {cs : List Value} {b o : Nat}, NavA w Q t base cs p b o → NavA w' Q' t base cs p b o := by
  intro p
  induction p with
  | nil => intro t base cs b o n; cases t <;> exact n
  | cons s p ih =>
    intro t base cs b o n
    cases s <;> cases t <;> try exact n.elim
    · exact ih n
    · exact ih n
    · obtain ⟨ad, len, cap, ci, h1, h2, h3, h4, h5, hq, h6⟩ := n
      exact ⟨ad, len, cap, ci, h1, h2, h3, h4, h5.frame (h _ hq), hQ _ hq, ih h6⟩

section
variable {c : Ctx} {L : Loc → Prop} {g g' : Ghost} {s s' : St} {a a' : Act} {w w' : World}

/-- What is lent from places that stand is lent from them still. -/
theorem Evo.valid (e : Evo L g s a w g' s' a' w') {lend : Lend} (hf : ∀ e ∈ lend, e.2 ≤ (s e.1).v) (h : validL s' lend = true) : validL s lend = true ∧ ∀ e ∈ lend, ¬ L e.1 := by
  simp only [validL, List.all_eq_true] at h ⊢
  have key : ∀ x ∈ lend, ¬ L x.1 := by
    intro x hx hl
    have h1 := beq_eq.1 (h x hx)
    have h2 := hf x hx
    have h3 := (e.up _ hl).1
    omega
  refine ⟨fun x hx => ?_, key⟩
  have := h x hx
  rwa [e.st _ (key x hx)] at this
theorem Evo.cells (e : Evo L g s a w g' s' a' w') {l : Loc} (hl : ¬ L l) (hb : l % 4 = 1 → g.O l (g.Bk l)) {cs : List Value} (h : Cells g a w l cs) : Cells g' a' w' l cs := by
  unfold Cells at h ⊢
  split
  · rename_i h4
    rw [if_pos h4] at h
    rw [e.Bk l hl, e.heap _ (.inr ⟨l, hl, hb h4⟩)]
    exact h
  · rename_i h4
    rw [if_neg h4] at h
    rw [e.val l hl]; exact h
theorem Evo.sof (e : Evo L g s a w g' s' a' w') {lend : Lend} (h : ∀ x ∈ lend, ¬ L x.1) : (∀ b, Sof g lend b → Sof g' lend b) ∧ ∀ b, Sof g lend b → w'.heap[b]? = w.heap[b]? := by
  refine ⟨fun b hb => hb.imp (e.G b) (fun ⟨x, hx, hb⟩ => ⟨x, hx, by rw [e.O _ (h x hx)]; exact hb⟩), fun b hb => e.heap b (hb.imp id (fun ⟨x, hx, hb⟩ => ⟨x.1, h x hx, hb⟩))⟩

/-- What is held stays what it is. -/
theorem Evo.held (e : Evo L g s a w g' s' a' w') (r : RelG c g s a w) {V : V} {org : Option (Loc × Path × Nat)} {cs : List Value} {Oc : Nat → Prop} (hf : Fut s (.val V org)) (hv : validL s' V.lend = true)
    (hO : ∀ b, Oc b → w'.heap[b]? = w.heap[b]?) (h : Held c g s a w V org cs Oc) : Held c g' s' a' w' V org cs Oc := by
  obtain ⟨h1, h2, h3⟩ := h
  obtain ⟨v1, v2⟩ := e.valid hf.1 hv
  obtain ⟨k1, k2⟩ := e.sof v2
  refine ⟨h1.frame k1 (fun _ h => h) (fun b hb => hb.elim (k2 b) (hO b)), h2, ?_⟩
  cases org with
  | none => trivial
  | some q =>
    obtain ⟨l', p, ver⟩ := q
    intro hver
    have hl' : ¬ L l' := by
      intro hl
      have := (e.up _ hl).1
      have := hf.2
      simp only at this
      omega
    rw [e.st _ hl'] at hver ⊢
    obtain ⟨cs', V', org', m1, m2, m3, m4⟩ := h3 hver
    refine ⟨cs', V', org', m1, e.cells hl' (fun h4 => (r.boxes _ _ _ h4 m1).1) m2, m3, ?_⟩
    rw [e.O _ hl']
    exact m4.frame (fun _ h => h) (fun b hb => e.heap b (.inr ⟨l', hl', hb⟩))

theorem Evo.toks (e : Evo L g s a w g' s' a' w') (r : RelG c g s a w) {l : Loc} (hl : ¬ L l) : TOk c g' s' a' w' l (s' l).t := by
  have t := r.toks l
  have f := r.fut l
  rw [e.st l hl]
  cases ht : (s l).t with
  | undef => trivial
  | und => rw [ht] at t; simp only [TOk] at t ⊢; rw [e.val l hl]; exact t
  | prp pos p d => rw [ht] at t; simp only [TOk] at t ⊢; rw [e.val l hl]; exact t
  | val V org =>
    rw [ht] at t f
    intro hv
    obtain ⟨v1, v2⟩ := e.valid f.1 hv
    obtain ⟨cs, Oc, h1, h2, h3, h4⟩ := t v1
    refine ⟨cs, Oc, e.cells hl (fun h => (r.boxes _ _ _ h ht).1) h1, fun h => by rw [e.val l hl]; exact h2 h, e.held r f hv (fun b hb => e.heap b (.inr ⟨l, hl, (h4 b hb).1⟩)) h3, fun b hb => ?_⟩
    rw [e.O l hl, e.Bk l hl]
    exact h4 b hb
  | tup b n iv =>
    rw [ht] at t f
    intro hv
    have hi : ¬ L (idl (tm b)) := by
      intro h
      have := (e.up _ h).1
      simp only [Fut] at f
      omega
    rw [e.st _ hi] at hv
    obtain ⟨vs, h1, h2, h3⟩ := t hv
    exact ⟨vs, by rw [e.val l hl]; exact h1, h2, fun i hi' => ⟨(h3 i hi').1, by rw [e.CV b i (h3 i hi').1 hi ⟨l, n, by rw [ht, hv]⟩]; exact (h3 i hi').2⟩⟩
  | ref l' p v hv iv tr =>
    rw [ht] at t f
    intro hval
    have hval' := hval
    simp only [validR, Bool.and_eq_true, Bool.or_eq_true, beq_eq] at hval
    have hi : ¬ L (idl l') := by
      intro h
      have := (e.up _ h).1
      have := f.2.2
      omega
    rw [e.st _ hi] at hval
    by_cases hl' : L l'
    · have hold : validR s l' p v hv iv = true := by
        simp only [validR, Bool.and_eq_true, Bool.or_eq_true, beq_eq]
        refine ⟨hval.1, hval.2.imp id (fun h => ?_)⟩
        have := e.up _ hl'
        have := f.1
        have := f.2.1
        exact ⟨by omega, h.2.imp id (fun h => by omega)⟩
      obtain ⟨b, off, cs, V', org', ⟨m1, m6⟩, m2, m3, m4, m5⟩ := t hold
      obtain ⟨V2, org2, cs2, ⟨n1, n5⟩, n2, n3, n4⟩ := e.refs l' hl' hi V' org' cs p b off v hv iv m1 m2 m3 m4 hval' f.1 f.2.1
      exact ⟨b, off, cs2, V2, org2, ⟨n1, by rw [n5]; exact m6⟩, n2, n3, n4, by rw [e.val l hl]; exact m5⟩
    · rw [e.st _ hl'] at hval ⊢
      have hold : validR s l' p v hv iv = true := by
        simp only [validR, Bool.and_eq_true, Bool.or_eq_true, beq_eq]
        exact hval
      obtain ⟨b, off, cs, V', org', ⟨m1, m6⟩, m2, m3, m4, m5⟩ := t hold
      refine ⟨b, off, cs, V', org', ⟨m1, m6⟩, e.cells hl' (fun h => (r.boxes _ _ _ h m1).1) m2, m3, ?_, by rw [e.val l hl]; exact m5⟩
      have : baseOf g' l' = baseOf g l' := by unfold baseOf; rw [e.Bk _ hl']
      rw [e.O _ hl', this]
      exact m4.frame (fun _ h => h) (fun b hb => e.heap b (.inr ⟨l', hl', hb⟩))

/-- The relation behind a step: what is written has to be shown, all else stands. -/
theorem Evo.rel (e : Evo L g s a w g' s' a' w') (r : RelG c g s a w) (hgrow : Grow w w') (gin : ∀ b, g'.G b → c.base ≤ b ∨ c.M b ∨ c.S b) (hbk : ∀ l, L l → g'.Bk l = g.Bk l ∨ c.bk l = none)
    (disj : ∀ l l' b, g'.O l b → g'.O l' b → l = l') (ownG : ∀ l b, g'.O l b → ¬ g'.G b)
    (own : ∀ l b, L l → g'.O l b → b < w'.heap.size ∧ (c.base ≤ b ∨ c.M b)) (gsz : ∀ b, g'.G b → b < w'.heap.size)
    (boxes : ∀ l V org, L l → l % 4 = 1 → (s' l).t = .val V org → g'.O l (g'.Bk l) ∧ Box w' (g'.Bk l) V.t.size)
    (fr : Fr c.base c.M c.w0 w') (defs : a'.defers = []) (size : a'.tmps.size = c.N)
    (fut : ∀ l, L l → Fut s' (s' l).t) (self : ∀ l, L l → Self s' l (s' l).t) (toks : ∀ l, L l → TOk c g' s' a' w' l (s' l).t) : RelG c g' s' a' w' where
  disj := disj
  ownG := ownG
  own := fun l b h => by
    by_cases hl : L l
    · exact own l b hl h
    · rw [e.O l hl] at h
      obtain ⟨h1, h2⟩ := r.own l b h
      exact ⟨Nat.lt_of_lt_of_le h1 hgrow.size, h2⟩
  gsz := gsz
  gin := gin
  bks := fun l b h => by
    by_cases hl : L l
    · rcases hbk l hl with h2 | h2
      · rw [h2]; exact r.bks l b h
      · rw [h2] at h; cases h
    · rw [e.Bk l hl]; exact r.bks l b h
  boxes := fun l V org h4 ht => by
    by_cases hl : L l
    · exact boxes l V org hl h4 ht
    · rw [e.st l hl] at ht
      obtain ⟨h1, h2⟩ := r.boxes l V org h4 ht
      rw [e.O l hl, e.Bk l hl]
      refine ⟨h1, ?_⟩
      obtain ⟨cc, ee, ff, k1, k2, k3⟩ := h2
      exact ⟨cc, ee, ff, by rw [e.heap _ (.inr ⟨l, hl, h1⟩)]; exact k1, k2, k3⟩
  fr := fr
  defs := defs
  size := size
  fut := fun l => by
    by_cases hl : L l
    · exact fut l hl
    · have f := r.fut l
      have up : ∀ m, (s m).v ≤ (s' m).v ∧ (s m).hv ≤ (s' m).hv := fun m => by
        by_cases hm : L m
        · have := e.up m hm; omega
        · rw [e.st m hm]; omega
      rw [e.st l hl]
      cases ht : (s l).t with
      | val V org =>
        rw [ht] at f
        refine ⟨fun x hx => Nat.le_trans (f.1 x hx) (up _).1, ?_⟩
        cases org with
        | none => trivial
        | some q => exact Nat.le_trans f.2 (up _).1
      | ref l' p v hv iv tr =>
        rw [ht] at f
        exact ⟨Nat.le_trans f.1 (up _).1, Nat.le_trans f.2.1 (up _).2, Nat.le_trans f.2.2 (up _).1⟩
      | tup b n iv => rw [ht] at f; exact Nat.le_trans f (up _).1
      | _ => trivial
  self := fun l => by
    by_cases hl : L l
    · exact self l hl
    · have f := r.self l
      rw [e.st l hl]
      cases ht : (s l).t with
      | val V org =>
        rw [ht] at f
        intro x hx hxl
        rw [e.st l hl]
        exact f x hx hxl
      | _ => trivial
  toks := fun l => by
    by_cases hl : L l
    · exact toks l hl
    · exact e.toks r hl
end
end Go.OM

namespace Go.OM
open Go

theorem mkV_cells {t : Ty} {cs : List Value} (h : cs.length = t.size) (h1 : ∀ v ∈ cs, cell1 v = true) : (mkV t cs).cells.toList = cs := by
  unfold mkV
  cases ha : t.agg with
  | true => simp [Value.cells]
  | false =>
    have : t.size = 1 := by cases t <;> simp_all [Ty.agg, Ty.size]
    rw [this] at h
    match cs, h with
    | [v], _ =>
      have := h1 v (by simp)
      cases v <;> simp_all [Value.cells, cell1]
theorem Rp.cells {w : World} {S : Nat → Prop} {t : Ty} {o : Ow} {x : t.den} {cs : List Value} {O : Nat → Prop} (h : Rp w S t o x cs O) : (mkV t cs).cells.toList = cs := mkV_cells h.len h.one

/-- What a value v is, told by T. -/
def New (c : Ctx) (g : Ghost) (s : St) (a : Act) (w : World) (v : Value) (Oc : Nat → Prop) : T → Prop
  | .undef => True
  | .und => v = undef
  | .val V org => Fut s (.val V org) ∧ (validL s V.lend = true → ∃ cs, v = mkV V.t cs ∧ Held c g s a w V org cs Oc)
  | .prp pos p d => v = .bool (boolOf pos p d)
  | .ref l' p v' hv iv tr => Fut s (.ref l' p v' hv iv tr) ∧ (validR s l' p v' hv iv = true → ∃ b off cs V' org', ((s l').t = .val V' org' ∧ getT V'.t p = some tr) ∧ Cells g a w l' cs ∧ cs.length = V'.t.size ∧ NavA w (g.O l') V'.t (baseOf g l') cs p b off ∧ v = .pointer (some ⟨b, off, none⟩))
  | .tup b n iv => Fut s (.tup b n iv) ∧ ((s (idl (tm b))).v = iv → ∃ vs, v = .tuple vs ∧ vs.size = n ∧ ∀ i, i < n → i < 8 ∧ vs[i]? = some (g.CV (cp b i)))
/-- Blocks that nobody has, but perhaps the place l. -/
def Free (c : Ctx) (g : Ghost) (w : World) (l : Loc) (Oc : Nat → Prop) : Prop := ∀ b, Oc b → ¬ g.G b ∧ (∀ l', l' ≠ l → ¬ g.O l' b) ∧ b < w.heap.size ∧ (c.base ≤ b ∨ c.M b)
structure Same (w w' : World) : Prop where
  heap : w'.heap = w.heap
  os : w'.os = w.os
  tape : w'.tape = w.tape
  output : w'.output = w.output
theorem Same.refl (w : World) : Same w w := ⟨rfl, rfl, rfl, rfl⟩
theorem Same.grow {w w' : World} (h : Same w w') : Grow w w' := ⟨h.os, h.tape, h.output, by rw [h.heap]; exact Nat.le_refl _, fun b c e f hx => ⟨c, f, by rw [h.heap]; exact hx, rfl⟩⟩
theorem Fr.same {base : Nat} {M : Nat → Prop} {w0 w w' : World} (h : Fr base M w0 w) (k : Same w w') : Fr base M w0 w' :=
  ⟨h.grow.trans k.grow, h.le, fun b hb hm => by rw [k.heap]; exact h.old b hb hm⟩

theorem tm_mod (j : Nat) : tm j % 4 = 0 := Nat.mul_mod_right 4 j
theorem tm_div (j : Nat) : tm j / 4 = j := Nat.mul_div_cancel_left j (by decide)
theorem tm_ne (j : Nat) : tm j % 4 ≠ 1 := by rw [tm_mod]; decide
theorem valAt_tm {g : Ghost} {a : Act} (j : Nat) : valAt g a (tm j) = a.tmps[j]? := by unfold valAt; rw [if_pos (tm_mod j), tm_div]
theorem upd_self {s : St} {l : Loc} {x : Cell} : upd s l x l = x := by simp [upd, Nat.beq_refl]
theorem upd_ne {s : St} {l m : Loc} {x : Cell} (h : m ≠ l) : upd s l x m = s m := by
  have : Nat.beq m l = false := by cases e : Nat.beq m l; rfl; exact absurd (beq_eq.1 e) h
  simp [upd, this]
theorem eval_tmp {a : Act} {j : Nat} {v : Value} (h : a.tmps[j]? = some v) : a.eval (.tmp j) = v := by simp [Act.eval, Array.getD_eq_getD_getElem?, h]

section
variable {c : Ctx} {g : Ghost} {s : St} {a : Act} {w : World}

/-- A temporary's value is what its T tells. -/
theorem TOk.new (r : RelG c g s a w) {j : Nat} (h : (s (tm j)).t ≠ .undef) : New c g s a w (a.eval (.tmp j)) (g.O (tm j)) (s (tm j)).t := by
  have t := r.toks (tm j)
  have f := r.fut (tm j)
  have hm : tm j % 4 ≠ 1 := tm_ne j
  cases ht : (s (tm j)).t with
  | undef => trivial
  | und => rw [ht] at t; simp only [TOk, valAt_tm] at t; exact eval_tmp t
  | prp pos p d => rw [ht] at t; simp only [TOk, valAt_tm] at t; exact eval_tmp t
  | val V org =>
    rw [ht] at t f
    refine ⟨f, fun hv => ?_⟩
    obtain ⟨cs, Oc, h1, h2, h3, h4⟩ := t hv
    have h2 := h2 hm
    rw [valAt_tm] at h2
    exact ⟨cs, eval_tmp h2, h3.1.mono (fun _ h => h) (fun b hb => (h4 b hb).1), h3.2⟩
  | ref l' p v hv iv tr =>
    rw [ht] at t f
    refine ⟨f, fun hv => ?_⟩
    obtain ⟨b, off, cs, V', org', h1, h2, h3, h4, h5⟩ := t hv
    rw [valAt_tm] at h5
    exact ⟨b, off, cs, V', org', h1, h2, h3, h4, eval_tmp h5⟩
  | tup b n iv =>
    rw [ht] at t f
    refine ⟨f, fun hv => ?_⟩
    obtain ⟨vs, h1, h2, h3⟩ := t hv
    rw [valAt_tm] at h1
    exact ⟨vs, eval_tmp h1, h2, h3⟩

theorem OrgOk.none {cs : List Value} : OrgOk g s a w cs none := trivial
theorem validO_some {s : St} {org : Option (Loc × Path × Nat)} {q : Loc × Path × Nat} (h : validO s org = some q) : org = some q ∧ (s q.1).v = q.2.2 := by
  cases org with
  | none => simp [validO] at h
  | some x =>
    obtain ⟨l, p, v⟩ := x
    simp only [validO] at h
    split at h
    · rename_i hv
      obtain rfl := Option.some.inj h
      exact ⟨rfl, beq_eq.1 hv⟩
    · cases h

theorem constT_new {ty : Option Ty} {v : Value} {V : V} (h : constT ty v = some V) : V.lend = [] ∧ V.tag = 0 ∧ V.o.live = true ∧ v = mkV V.t [v] ∧ Rp w (Sof g []) V.t V.o V.x [v] (fun _ => False) := by
  unfold constT at h
  split at h <;> first | (obtain rfl := Option.some.inj h; exact ⟨rfl, rfl, rfl, rfl, rfl⟩) | skip
  · split at h
    · obtain rfl := Option.some.inj h
      exact ⟨rfl, rfl, rfl, rfl, none, 0, rfl, Nat.le_refl _, rfl, rfl⟩
    · cases h
  · cases h

/-- What an operand is, looked at. -/
theorem peek_new (r : RelG c g s a w) {ty : Option Ty} {x : Operand} {T : T} (h : peek s ty x = some T) :
    New c g s a w (a.eval x) (fun _ => False) T ∧ T ≠ .undef ∧ T ≠ .und ∧ (∀ V org, T = .val V org → validL s V.lend = true ∧ V.o.live = true ∧ V.tag = 0 ∧ (∀ q, org = some q → (s q.1).v = q.2.2)) ∧
      (∀ l p v hv iv tr, T = .ref l p v hv iv tr → validR s l p v hv iv = true) ∧ (∀ b n iv, T = .tup b n iv → (s (idl (tm b))).v = iv) := by
  cases x with
  | tmp j =>
    simp only [peek] at h
    have tn := TOk.new r (j := j)
    split at h
    · rename_i t o x lend tag org ht
      split at h
      · rename_i hv
        simp only [Bool.and_eq_true] at hv
        have tn := tn (by rw [ht]; simp)
        rw [ht] at tn
        obtain ⟨f, k⟩ := tn
        obtain ⟨cs, h1, h2, h3, h4⟩ := k hv.1
        split at h
        · rename_i hh
          obtain rfl := Option.some.inj h
          have hle : validL s ((tm j, (s (tm j)).v) :: lend) = true := by
            show (Nat.beq _ _ && validL s lend) = true
            rw [hv.1]; simp [Nat.beq_refl]
          refine ⟨⟨⟨?_, Nat.le_refl _⟩, fun _ => ⟨cs, h1, ?_, by simp, ?_⟩⟩, by simp, by simp, fun V org e => (by cases e; exact ⟨hle, rfl, rfl, fun q hq => by cases hq; rfl⟩), fun _ _ _ _ _ _ e => (by cases e), fun _ _ _ e => by cases e⟩
          · intro e he
            rcases List.mem_cons.1 he with rfl | he
            · exact Nat.le_refl _
            · exact f.1 e he
          · refine (h2.freeze hv.2).mono (fun b hb => ?_) (fun _ h => h)
            rcases hb with (hb | ⟨e, he, hb⟩) | hb
            · exact .inl hb
            · exact .inr ⟨e, List.mem_cons_of_mem _ he, hb⟩
            · exact .inr ⟨_, List.mem_cons_self, hb⟩
          · intro _
            refine ⟨cs, _, _, ht, ?_, h2.len, by cases t <;> rfl⟩
            unfold Cells
            rw [if_neg (tm_ne _)]
            refine ⟨mkV t cs, ?_, h2.cells⟩
            rw [valAt_tm]
            have t2 := r.toks (tm j)
            rw [ht] at t2
            obtain ⟨cs2, Oc2, m1, m2, m3, m4⟩ := t2 hv.1
            have m2 := m2 (tm_ne _)
            rw [valAt_tm] at m2
            rw [m2]
            have := eval_tmp m2
            rw [h1] at this
            rw [this]
        · rename_i hh
          obtain rfl := Option.some.inj h
          refine ⟨⟨⟨f.1, ?_⟩, fun _ => ⟨cs, h1, ?_, by simp, ?_⟩⟩, by simp, by simp, fun V org e => (by cases e; exact ⟨hv.1, hv.2, rfl, fun q hq => (validO_some hq).2⟩), fun _ _ _ _ _ _ e => (by cases e), fun _ _ _ e => by cases e⟩
          · cases hq : validO s org with
            | none => trivial
            | some q => exact Nat.le_of_eq (validO_some hq).2.symm
          · exact Rp.noOwn h2 (by simpa using hh)
          · cases hq : validO s org with
            | none => trivial
            | some q => obtain ⟨rfl, e⟩ := validO_some hq; exact h4
      · cases h
    · rename_i pos p d ht
      obtain rfl := Option.some.inj h
      have := tn (by rw [ht]; simp)
      rw [ht] at this
      exact ⟨this, by simp, by simp, fun _ _ e => (by cases e), fun _ _ _ _ _ _ e => (by cases e), fun _ _ _ e => by cases e⟩
    · rename_i l p v hv iv tr ht
      split at h
      · rename_i hval
        obtain rfl := Option.some.inj h
        have := tn (by rw [ht]; simp)
        rw [ht] at this
        exact ⟨this, by simp, by simp, fun _ _ e => (by cases e), fun _ _ _ _ _ _ e => (by cases e; exact hval), fun _ _ _ e => by cases e⟩
      · cases h
    · rename_i b n iv ht
      split at h
      · rename_i hval
        obtain rfl := Option.some.inj h
        have := tn (by rw [ht]; simp)
        rw [ht] at this
        exact ⟨this, by simp, by simp, fun _ _ e => (by cases e), fun _ _ _ _ _ _ e => (by cases e), fun _ _ _ e => by cases e; exact beq_eq.1 hval⟩
      · cases h
    · cases h
  | const v =>
    simp only [peek] at h
    obtain ⟨V, hV, rfl⟩ := Option.map_eq_some_iff.1 h
    obtain ⟨h1, h2, h3, h4, h5⟩ := constT_new (g := g) (w := w) hV
    refine ⟨⟨⟨by rw [h1]; simp, trivial⟩, fun _ => ⟨[v], h4, by rw [h1]; exact h5, by rw [h2]; simp, trivial⟩⟩, by simp, by simp, fun _ _ e => (by cases e; exact ⟨by rw [h1]; rfl, h3, h2, fun _ h => by cases h⟩), fun _ _ _ _ _ _ e => (by cases e), fun _ _ _ e => by cases e⟩
  | func f =>
    simp only [peek] at h
    obtain rfl := Option.some.inj h
    refine ⟨⟨⟨by simp [V.p], trivial⟩, fun _ => ⟨[.func (.func f) #[] #[]], rfl, ⟨[], rfl, rfl⟩, by simp [V.p], trivial⟩⟩, by simp, by simp, fun _ _ e => (by cases e; exact ⟨rfl, rfl, rfl, fun _ h => by cases h⟩), fun _ _ _ _ _ _ e => (by cases e), fun _ _ _ e => by cases e⟩
  | global n => simp [peek] at h
end
end Go.OM

namespace Go.OM
open Go

theorem upds_append (s : St) (u v : Upds) : upds s (u ++ v) = upds (upds s u) v := by
  induction u generalizing s with
  | nil => rfl
  | cons e u ih => obtain ⟨l, c⟩ := e; exact ih _
theorem NavA.flat_none {w : World} {Q : Nat → Prop} : ∀ {p : Path} {t : Ty} {cs : List Value} {b o : Nat}, p.flat = true → ¬ NavA w Q t none cs p b o := by
  intro p
  induction p with
  | nil => intro t cs b o _ h; have : (none : Option (Nat × Nat)) = some (b, o) := by cases t <;> exact h
           cases this
  | cons s p ih =>
    intro t cs b o hf h
    cases s <;> cases t <;> try exact h.elim
    · exact ih (by simpa [Path.flat] using hf) h
    · exact ih (by simpa [Path.flat] using hf) h
    · simp [Path.flat] at hf
theorem noRef {s s' : St} {g : Ghost} {w : World} {Q : Nat → Prop} {l : Loc} {t : Ty} {cs : List Value} {p : Path} {b off v hv iv : Nat} (h4 : l % 4 ≠ 1) (hu : (s l).hv < (s' l).hv)
    (hn : NavA w Q t (baseOf g l) cs p b off) (hval : validR s' l p v hv iv = true) (hle : hv ≤ (s l).hv) : False := by
  unfold baseOf at hn
  rw [if_neg h4] at hn
  simp only [validR, Bool.and_eq_true, Bool.or_eq_true, beq_eq] at hval
  rcases hval.2 with hf | ⟨he, _⟩
  · exact NavA.flat_none hf hn
  · omega
theorem fresh_get {a : Array Value} {d : Nat} {v : Value} (h : d < a.size) : (a.setIfInBounds d v)[d]? = some v := by simp [h]

section
variable {c : Ctx} {g : Ghost} {s : St} {a : Act} {w : World}
theorem valAt_put {d : Nat} {v : Value} {l : Loc} (h : l ≠ tm d) : valAt g (a.put (some d) v) l = valAt g a l := by
  unfold valAt
  split
  · rename_i h0
    have : d ≠ l / 4 := fun e => h (by subst e; show l = 4 * (l / 4); have := Nat.div_add_mod l 4; rw [h0] at this; exact this.symm)
    simp [Act.put, Array.getElem?_setIfInBounds_ne this]
  · rfl

/-- A temporary gets a value. -/
theorem RelG.put (r : RelG c g s a w) {w' : World} (hw : Same w w') {d : Nat} (hd : d < c.N) {v : Value} {T : T} {Oc : Nat → Prop} (hn : New c g s a w v Oc T) (hf : Free c g w (tm d) Oc) :
    RelG c { g with O := fun l => if l = tm d then Oc else g.O l } (upds s [bump s (tm d) T]) (a.put (some d) v) w' := by
  have hs : upds s [bump s (tm d) T] = upd s (tm d) ⟨T, (s (tm d)).v + 1, (s (tm d)).hv + 1⟩ := rfl
  rw [hs]
  have hm : (tm d) % 4 ≠ 1 := tm_ne d
  have e : Evo (· = tm d) g s a w { g with O := fun l => if l = tm d then Oc else g.O l } (upd s (tm d) ⟨T, (s (tm d)).v + 1, (s (tm d)).hv + 1⟩) (a.put (some d) v) w' :=
    { st := fun l hl => upd_ne hl
      up := fun l hl => by subst hl; rw [upd_self]; exact ⟨Nat.lt_succ_self _, Nat.le_succ _⟩
      O := fun l hl => if_neg hl
      Bk := fun _ _ => rfl
      val := fun l hl => valAt_put hl
      CV := fun _ _ _ _ _ => rfl
      G := fun _ h => h
      heap := fun b _ => by rw [hw.heap]
      refs := fun l hl _ V org cs p b off v' hv iv h1 h2 h3 h4 h5 h6 h7 => by
        subst hl
        exact (noRef (s := s) hm (by rw [upd_self]; exact Nat.lt_succ_self _) h4 h5 h7).elim }
  have size : (a.put (some d) v).tmps.size = c.N := by simp [Act.put, r.size]
  have hval : valAt { g with O := fun l => if l = tm d then Oc else g.O l } (a.put (some d) v) (tm d) = some v := by
    rw [valAt_tm]; exact fresh_get (by rw [r.size]; exact hd)
  have lt := Nat.lt_succ_self (s (tm d)).v
  refine e.rel r hw.grow r.gin (fun _ _ => .inl rfl) ?_ ?_ ?_ ?_ ?_ (r.fr.same hw) r.defs size ?_ ?_ ?_
  · intro l l' b h h'
    by_cases h1 : l = tm d
    · by_cases h2 : l' = tm d
      · rw [h1, h2]
      · simp only [if_pos h1] at h; simp only [if_neg h2] at h'
        exact ((hf b h).2.1 l' h2 h').elim
    · by_cases h2 : l' = tm d
      · simp only [if_neg h1] at h; simp only [if_pos h2] at h'
        exact ((hf b h').2.1 l h1 h).elim
      · simp only [if_neg h1] at h; simp only [if_neg h2] at h'
        exact r.disj l l' b h h'
  · intro l b h
    by_cases h1 : l = tm d
    · simp only [if_pos h1] at h; exact (hf b h).1
    · simp only [if_neg h1] at h; exact r.ownG l b h
  · intro l b hl h
    simp only [if_pos hl] at h
    rw [hw.heap]; exact (hf b h).2.2
  · intro b h; rw [hw.heap]; exact r.gsz b h
  · intro l V org hl h4; subst hl; exact absurd h4 hm
  · intro l hl; subst hl; rw [upd_self]
    have up : ∀ m, (s m).v ≤ (upd s (tm d) ⟨T, (s (tm d)).v + 1, (s (tm d)).hv + 1⟩ m).v ∧ (s m).hv ≤ (upd s (tm d) ⟨T, (s (tm d)).v + 1, (s (tm d)).hv + 1⟩ m).hv := fun m => by
      by_cases hm : m = tm d
      · subst hm; rw [upd_self]; exact ⟨Nat.le_succ _, Nat.le_succ _⟩
      · rw [upd_ne hm]; exact ⟨Nat.le_refl _, Nat.le_refl _⟩
    cases T with
    | val V org =>
      refine ⟨fun x hx => Nat.le_trans (hn.1.1 x hx) (up _).1, ?_⟩
      cases org with
      | none => trivial
      | some q => exact Nat.le_trans hn.1.2 (up _).1
    | ref l' p v hv iv => exact ⟨Nat.le_trans hn.1.1 (up _).1, Nat.le_trans hn.1.2.1 (up _).2, Nat.le_trans hn.1.2.2 (up _).1⟩
    | tup b n iv => exact Nat.le_trans hn.1 (up _).1
    | _ => trivial
  · intro l hl; subst hl; rw [upd_self]
    cases T with
    | val V org =>
      intro x hx hxl
      rw [upd_self]
      have := hn.1.1 x hx
      rw [hxl] at this
      exact Nat.lt_succ_of_le this
    | _ => trivial
  · intro l hl; subst hl; rw [upd_self]
    cases T with
    | undef => trivial
    | und => simp only [TOk, New] at hn ⊢; rw [hval, hn]
    | prp pos p dd => simp only [TOk, New] at hn ⊢; rw [hval, hn]
    | val V org =>
      intro hv
      obtain ⟨v1, v2⟩ := e.valid hn.1.1 hv
      obtain ⟨cs, k1, k2⟩ := hn.2 v1
      refine ⟨cs, Oc, ?_, fun _ => by rw [hval, k1], e.held r hn.1 hv (fun b _ => by rw [hw.heap]) k2, fun b hb => ⟨by simp only [if_true]; exact hb, fun h4 => absurd h4 hm⟩⟩
      unfold Cells
      rw [if_neg hm]
      exact ⟨v, hval, by rw [k1]; exact k2.1.cells⟩
    | ref l' p v' hv iv =>
      intro hv'
      have f := hn.1
      simp only [validR, Bool.and_eq_true, Bool.or_eq_true, beq_eq] at hv'
      have hi : idl l' ≠ tm d := fun h => by have := idl_ne l'; rw [h, tm_mod] at this; cases this
      rw [upd_ne hi] at hv'
      have old : l' ≠ tm d := by
        intro hl
        subst hl
        rw [upd_self] at hv'
        have := f.2.1
        rcases hv'.2 with hfl | ⟨he, _⟩
        · obtain ⟨b, off, cs, V', org', m1, m2, m3, m4, m5⟩ := hn.2 (by simp only [validR, Bool.and_eq_true, Bool.or_eq_true, beq_eq]; exact ⟨hv'.1, .inl hfl⟩)
          unfold baseOf at m4
          rw [if_neg hm] at m4
          exact NavA.flat_none hfl m4
        · simp only at he; omega
      rw [upd_ne old] at hv' ⊢
      obtain ⟨b, off, cs, V', org', m1, m2, m3, m4, m5⟩ := hn.2 (by simp only [validR, Bool.and_eq_true, Bool.or_eq_true, beq_eq]; exact hv')
      refine ⟨b, off, cs, V', org', m1, e.cells old (fun h => (r.boxes _ _ _ h m1.1).1) m2, m3, ?_, by rw [hval, m5]⟩
      simp only [if_neg old]
      exact m4.frame (fun _ h => h) (fun b _ => by rw [hw.heap])
    | tup b n iv =>
      intro hv'
      have hi : idl (tm b) ≠ tm d := fun h => by have := idl_ne (tm b); rw [h, tm_mod] at this; cases this
      rw [upd_ne hi] at hv'
      obtain ⟨vs, m1, m2, m3⟩ := hn.2 hv'
      exact ⟨vs, by rw [hval, m1], m2, m3⟩

/-- A place (no box) gives up what it has. -/
theorem RelG.drop (r : RelG c g s a w) {l0 : Loc} (h4 : l0 % 4 ≠ 1) :
    RelG c { g with O := fun l => if l = l0 then (fun _ => False) else g.O l } (upds s [bump s l0 .undef]) a w ∧
    Evo (· = l0) g s a w { g with O := fun l => if l = l0 then (fun _ => False) else g.O l } (upds s [bump s l0 .undef]) a w := by
  have hs : upds s [bump s l0 .undef] = upd s l0 ⟨.undef, (s l0).v + 1, (s l0).hv + 1⟩ := rfl
  rw [hs]
  have e : Evo (· = l0) g s a w { g with O := fun l => if l = l0 then (fun _ => False) else g.O l } (upd s l0 ⟨.undef, (s l0).v + 1, (s l0).hv + 1⟩) a w :=
    { st := fun l hl => upd_ne hl
      up := fun l hl => by subst hl; rw [upd_self]; exact ⟨Nat.lt_succ_self _, Nat.le_succ _⟩
      O := fun l hl => if_neg hl
      Bk := fun _ _ => rfl
      val := fun l hl => rfl
      CV := fun _ _ _ _ _ => rfl
      G := fun _ h => h
      heap := fun b _ => rfl
      refs := fun l hl _ V org cs p b off v' hv iv h1 h2 h3 hn h5 h6 h7 => by
        subst hl
        exact (noRef (s := s) h4 (by rw [upd_self]; exact Nat.lt_succ_self _) hn h5 h7).elim }
  refine ⟨e.rel r (Grow.refl w) r.gin (fun _ _ => .inl rfl) ?_ ?_ ?_ r.gsz ?_ r.fr r.defs r.size ?_ ?_ ?_, e⟩
  · intro l l' b h h'
    by_cases h1 : l = l0
    · simp only [if_pos h1] at h
    · by_cases h2 : l' = l0
      · simp only [if_pos h2] at h'
      · simp only [if_neg h1] at h; simp only [if_neg h2] at h'
        exact r.disj l l' b h h'
  · intro l b h
    by_cases h1 : l = l0
    · simp only [if_pos h1] at h
    · simp only [if_neg h1] at h; exact r.ownG l b h
  · intro l b hl h
    simp only [if_pos hl] at h
  · intro l V org hl h5; subst hl; exact absurd h5 h4
  · intro l hl; subst hl; rw [upd_self]; trivial
  · intro l hl; subst hl; rw [upd_self]; trivial
  · intro l hl; subst hl; rw [upd_self]; trivial

/-- A value with blocks of its own that no place has. -/
def Loose (c : Ctx) (g : Ghost) (w : World) (Oc : Nat → Prop) : Prop := ∀ b, Oc b → ¬ g.G b ∧ (∀ l, ¬ g.O l b) ∧ b < w.heap.size ∧ (c.base ≤ b ∨ c.M b)
theorem Loose.free {Oc : Nat → Prop} (h : Loose c g w Oc) (l : Loc) : Free c g w l Oc := fun b hb => ⟨(h b hb).1, fun l' _ => (h b hb).2.1 l', (h b hb).2.2⟩
theorem Loose.none : Loose c g w (fun _ => False) := fun _ h => h.elim

/-- An operand is taken. -/
theorem take_new (r : RelG c g s a w) {ty : Option Ty} {x : Operand} {V : V} {u : Upds} (h : take s ty x = some (V, u)) :
    ∃ g1 Oc L, RelG c g1 (upds s u) a w ∧ Evo L g s a w g1 (upds s u) a w ∧ g1.G = g.G ∧ g1.Bk = g.Bk ∧ g1.CV = g.CV ∧ ((∀ l b, g1.O l b → g.O l b) ∧ ∀ b, Oc b → ∃ l, g.O l b) ∧ New c g1 (upds s u) a w (a.eval x) Oc (.val V none) ∧ Loose c g1 w Oc ∧
      (∀ l, L l ↔ ∃ e ∈ u, e.1 = l) ∧ (∀ l, L l → l % 4 = 0) ∧ V.o.live = true ∧ validL (upds s u) V.lend = true := by
  have triv : ∀ {W : OM.V}, New c g s a w (a.eval x) (fun _ => False) (.val W none) → W.o.live = true → validL s W.lend = true → u = [] → ∃ g1 Oc L, RelG c g1 (upds s u) a w ∧ Evo L g s a w g1 (upds s u) a w ∧ g1.G = g.G ∧ g1.Bk = g.Bk ∧ g1.CV = g.CV ∧ ((∀ l b, g1.O l b → g.O l b) ∧ ∀ b, Oc b → ∃ l, g.O l b) ∧ New c g1 (upds s u) a w (a.eval x) Oc (.val W none) ∧ Loose c g1 w Oc ∧
      (∀ l, L l ↔ ∃ e ∈ u, e.1 = l) ∧ (∀ l, L l → l % 4 = 0) ∧ W.o.live = true ∧ validL (upds s u) W.lend = true := by
    intro W hn hl hv hu
    subst hu
    exact ⟨g, _, fun _ => False, r, ⟨fun _ _ => rfl, fun _ h => h.elim, fun _ _ => rfl, fun _ _ => rfl, fun _ _ => rfl, fun _ _ _ _ _ => rfl, fun _ h => h, fun _ _ => rfl, fun _ h => h.elim⟩, rfl, rfl, rfl, ⟨fun _ _ h => h, fun _ h => h.elim⟩, hn, Loose.none, fun l => by simp, fun _ h => h.elim, hl, hv⟩
  cases x with
  | tmp j =>
    simp only [take] at h
    split at h
    · rename_i t o x lend tag org ht
      have tn := TOk.new r (j := j) (by rw [ht]; simp)
      rw [ht] at tn
      split at h
      · rename_i hv
        simp only [Bool.and_eq_true] at hv
        obtain ⟨f, k⟩ := tn
        obtain ⟨cs, h1, h2, h3, h4⟩ := k hv.1
        split at h
        · cases h
          obtain ⟨r1, e⟩ := r.drop (l0 := tm j) (tm_ne j)
          refine ⟨_, g.O (tm j), (· = tm j), r1, e, rfl, rfl, rfl, ⟨?_, fun b hb => ⟨_, hb⟩⟩, ⟨?_, fun hv' => ⟨cs, h1, ?_⟩⟩, ?_, fun l => by simp [bump, eq_comm], fun l hl => by subst hl; exact tm_mod j, hv.2, ?_⟩
          · intro l b hb
            by_cases hl : l = tm j
            · simp only [if_pos hl] at hb
            · simpa only [if_neg hl] using hb
          · refine ⟨fun x hx => Nat.le_trans (f.1 x hx) ?_, trivial⟩
            by_cases hm : x.1 = tm j
            · rw [hm]; show _ ≤ (upd s (tm j) _ (tm j)).v; rw [upd_self]; exact Nat.le_succ _
            · show _ ≤ (upd s (tm j) _ x.1).v; rw [upd_ne hm]; exact Nat.le_refl _
          · exact e.held r (V := ⟨t, o, x, lend, tag⟩) (org := none) ⟨f.1, trivial⟩ hv' (fun _ _ => rfl) ⟨h2, h3, trivial⟩
          · intro b hb
            refine ⟨r.ownG _ b hb, fun l hl => ?_, r.own _ b hb⟩
            by_cases hm : l = tm j
            · simp only [if_pos hm] at hl
            · simp only [if_neg hm] at hl; exact hm (r.disj _ _ b hl hb)
          · have sf := r.self (tm j)
            rw [ht] at sf
            have hv1 := hv.1
            simp only [validL, List.all_eq_true] at hv1 ⊢
            intro x hx
            have h1 := hv1 x hx
            have hne : x.1 ≠ tm j := fun he => by
              have h2 := sf x hx he
              have h3 := beq_eq.1 h1
              rw [he] at h3; omega
            rw [e.st _ hne]; exact h1
        · rename_i hh
          cases h
          exact triv (W := ⟨t, o, x, lend, 0⟩) ⟨⟨f.1, trivial⟩, fun _ => ⟨cs, h1, Rp.noOwn h2 (by simpa using hh), by simp, trivial⟩⟩ hv.2 hv.1 rfl
      · cases h
    · rename_i pos p d ht
      have tn := TOk.new r (j := j) (by rw [ht]; simp)
      rw [ht] at tn
      cases h
      exact triv (W := .p .bool (boolOf pos p d)) ⟨⟨by simp [V.p], trivial⟩, fun _ => ⟨[.bool (boolOf pos p d)], tn, rfl, by simp [V.p], trivial⟩⟩ rfl rfl rfl
    · cases h
  | const v =>
    have h' : (peekV s ty (.const v)).map (fun v => (v, [])) = some (V, u) := h
    obtain ⟨V', hV, e⟩ := Option.map_eq_some_iff.1 h'
    cases e
    obtain ⟨T, hT, hV⟩ := Option.bind_eq_some_iff.1 hV
    obtain ⟨n1, n2, n3, n4, _⟩ := peek_new r hT
    cases T <;> simp [T.val?] at hV
    · subst hV
      obtain ⟨k1, k2, k3, k4⟩ := n4 _ _ rfl
      exact triv ⟨⟨n1.1.1, trivial⟩, fun hv => by obtain ⟨cs, m1, m2⟩ := n1.2 hv; exact ⟨cs, m1, m2.1, m2.2.1, trivial⟩⟩ k2 k1 rfl
    · subst hV
      exact triv ⟨⟨by simp [V.p], trivial⟩, fun _ => ⟨[.bool _], n1, rfl, by simp [V.p], trivial⟩⟩ rfl rfl rfl
  | func f =>
    have h' : (peekV s ty (.func f)).map (fun v => (v, [])) = some (V, u) := h
    obtain ⟨V', hV, e⟩ := Option.map_eq_some_iff.1 h'
    cases e
    obtain ⟨T, hT, hV⟩ := Option.bind_eq_some_iff.1 hV
    obtain ⟨n1, n2, n3, n4, _⟩ := peek_new r hT
    cases T <;> simp [T.val?] at hV
    · subst hV
      obtain ⟨k1, k2, k3, k4⟩ := n4 _ _ rfl
      exact triv ⟨⟨n1.1.1, trivial⟩, fun hv => by obtain ⟨cs, m1, m2⟩ := n1.2 hv; exact ⟨cs, m1, m2.1, m2.2.1, trivial⟩⟩ k2 k1 rfl
    · subst hV
      exact triv ⟨⟨by simp [V.p], trivial⟩, fun _ => ⟨[.bool _], n1, rfl, by simp [V.p], trivial⟩⟩ rfl rfl rfl
  | global n => simp [take, peekV, peek] at h
end
end Go.OM

namespace Go.OM
open Go

/-- A shape's zero cells. -/
def zc : Ty → List Value
  | .int k => [.int k 0] | .bool => [.bool false] | .str => [.string ⟨#[]⟩] | .sl _ => [.slice none 0 0] | .unit => [] | .pair a b => zc a ++ zc b | .fp _ => [.pointer none] | .fn _ _ => [.nilFunc]
/-- No addresses. -/
def Ty.plain : Ty → Bool
  | .pair a b => a.plain && b.plain | .fp _ => false | .fn _ _ => false | .sl t => t.plain | _ => true
/-- The zero cells are these. -/
def isZ : Ty → List Value → Option (List Value)
  | .int k, .int k' n :: r => if k = k' ∧ n = 0 then some r else none
  | .bool, .bool false :: r => some r
  | .str, .string s :: r => if s.size = 0 then some r else none
  | .sl _, .slice none 0 0 :: r => some r
  | .unit, r => some r
  | .pair a b, r => (isZ a r).bind (isZ b)
  | _, _ => none
theorem isZ_eq : ∀ {t : Ty} {cs r : List Value}, isZ t cs = some r → cs = zc t ++ r := by
  intro t
  induction t with
  | pair a b iha ihb =>
    intro cs r h
    obtain ⟨q, h1, h2⟩ := Option.bind_eq_some_iff.1 (show (isZ a cs).bind (isZ b) = some r from h)
    rw [iha h1, ihb h2]; simp [zc]
  | unit => intro cs r h; obtain rfl := Option.some.inj (show some cs = some r from h); rfl
  | int k =>
    intro cs r h
    match cs, h with
    | .int k' n :: _, h =>
      simp only [isZ] at h
      split at h
      · rename_i e
        obtain ⟨rfl, rfl⟩ := e
        obtain rfl := Option.some.inj h; rfl
      · cases h
  | bool => 
    intro cs r h
    match cs, h with
    | .bool false :: _, h => obtain rfl := Option.some.inj h; rfl
  | str =>
    intro cs r h
    match cs, h with
    | .string s :: _, h =>
      simp only [isZ] at h
      split at h
      · rename_i e
        obtain rfl := Option.some.inj h
        obtain ⟨⟨l⟩⟩ := s
        have : l = [] := by simpa [ByteArray.size] using e
        subst this; rfl
      · cases h
  | sl t _ =>
    intro cs r h
    match cs, h with
    | .slice none 0 0 :: _, h => obtain rfl := Option.some.inj h; rfl
  | fp t _ => intro cs r h; simp [isZ] at h
  | fn g t _ => intro cs r h; simp [isZ] at h

def fieldsOk (tys : List (Option Ty)) : List Field → Ty → Nat → Bool
  | [], .unit, _ => true
  | f :: r, .pair a b, off => decide (tys[f.type]? = some (some a)) && Nat.beq f.offset off && !Nat.beq a.size 0 && fieldsOk tys r b (off + a.size)
  | _, _, _ => false
def okTy (P : Program) (tys : List (Option Ty)) (i : Nat) (t : Ty) : Bool :=
  match P.info? i with
  | some n => Nat.beq n.size t.size && Nat.ble n.bytes 65536 && Nat.ble 1 n.bytes && t.plain && (match n.zero with
      | some z => (match t.agg, z with
        | true, .agg cs => (match isZ t cs.toList with | some [] => true | _ => false)
        | false, z => (match isZ t [z] with | some [] => true | _ => false)
        | _, _ => false)
      | none => false)
    && (match P.underlying i, t with
      | some (.int k), .int k' => decide (k = k')
      | some .bool, .bool => true
      | some .string, .str => true
      | some (.slice e), .sl te => decide (tys[e]? = some (some te)) && Nat.ble 1 te.size
      | some (.struct fs), .pair a b => fieldsOk tys fs.toList (.pair a b) 0
      | some (.struct fs), .unit => fieldsOk tys fs.toList .unit 0
      | _, _ => false)
  | none => false
def okTys (P : Program) (tys : List (Option Ty)) : Nat → List (Option Ty) → Bool
  | _, [] => true
  | i, some t :: r => okTy P tys i t && okTys P tys (i + 1) r
  | i, none :: r => okTys P tys (i + 1) r
theorem okTys_get {P : Program} {tys : List (Option Ty)} : ∀ {l : List (Option Ty)} {i j : Nat} {t : Ty}, okTys P tys i l = true → l[j]? = some (some t) → okTy P tys (i + j) t = true := by
  intro l
  induction l with
  | nil => intro i j t _ h; simp at h
  | cons x r ih =>
    intro i j t h hj
    cases j with
    | zero =>
      simp at hj; subst hj
      simp only [okTys, Bool.and_eq_true] at h
      exact h.1
    | succ j =>
      simp at hj
      have : okTys P tys (i + 1) r = true := by
        cases x with
        | none => exact h
        | some t => simp only [okTys, Bool.and_eq_true] at h; exact h.2
      have := ih this hj
      rwa [Nat.add_assoc, Nat.add_comm 1 j] at this

/-- What is known of a type of the program. -/
structure TyFact (P : Program) (tys : List (Option Ty)) (i : Nat) (t : Ty) : Prop where
  plain : t.plain = true
  info : ∃ n, P.info? i = some n ∧ n.size = t.size ∧ n.bytes ≤ 65536 ∧ 1 ≤ n.bytes ∧ n.zero = some (mkV t (zc t))
  und : match t with
    | .int k => P.underlying i = some (.int k)
    | .bool => P.underlying i = some .bool
    | .str => P.underlying i = some .string
    | .sl te => ∃ e, P.underlying i = some (.slice e) ∧ tys[e]? = some (some te) ∧ 1 ≤ te.size
    | .pair a b => ∃ fs, P.underlying i = some (.struct fs) ∧ fieldsOk tys fs.toList (.pair a b) 0 = true
    | .unit => ∃ fs, P.underlying i = some (.struct fs) ∧ fieldsOk tys fs.toList .unit 0 = true
    | _ => False
theorem okTy_fact {P : Program} {tys : List (Option Ty)} {i : Nat} {t : Ty} (h : okTy P tys i t = true) : TyFact P tys i t := by
  unfold okTy at h
  split at h
  · rename_i n hn
    simp only [Bool.and_eq_true, beq_eq] at h
    obtain ⟨⟨⟨⟨⟨h1, h2⟩, h2'⟩, h3⟩, h4⟩, h5⟩ := h
    refine ⟨h3, ⟨n, hn, h1, Nat.le_of_ble_eq_true h2, Nat.le_of_ble_eq_true h2', ?_⟩, ?_⟩
    · split at h4
      · rename_i z hz
        rw [hz]
        split at h4
        · rename_i cs ha
          split at h4
          · rename_i he
            have := isZ_eq he
            rw [List.append_nil] at this
            unfold mkV; rw [ha]; simp [← this]
          · cases h4
        · rename_i ha
          split at h4
          · rename_i he
            have := isZ_eq he
            rw [List.append_nil] at this
            unfold mkV; rw [ha]; simp [← this]
          · cases h4
        · cases h4
      · cases h4
    · split at h5
      · rename_i hu; simp only [decide_eq_true_eq] at h5; subst h5; exact hu
      · rename_i hu; exact hu
      · rename_i hu; exact hu
      · rename_i e te hu
        simp only [Bool.and_eq_true, decide_eq_true_eq] at h5
        exact ⟨e, hu, h5.1, Nat.le_of_ble_eq_true h5.2⟩
      · rename_i fs a b hu; exact ⟨fs, hu, h5⟩
      · rename_i fs hu; exact ⟨fs, hu, h5⟩
      · cases h5
  · cases h

/-- A type whose values may be held against each other: a bool, or a struct of whole numbers, bools and strings. -/
def eqOk (P : Program) (tys : List (Option Ty)) (i : Nat) : Bool :=
  match tys[i]?, P.underlying i with
  | some (some .bool), _ => true
  | some (some _), some (.struct fs) => !P.stoodInHeld i && !P.eqGuardType P.depth i && fs.toList.all fun f => !decide (f.name = "_") && (match tys[f.type]? with
      | some (some (.int _)) => true | some (some .bool) => true | some (some .str) => true | _ => false)
  | _, _ => false
structure EnvOk (P : Program) (E : Env) : Prop where
  tys : okTys P E.tys 0 E.tys = true
  eqs : E.eqs.all (eqOk P E.tys) = true
theorem EnvOk.fact {P : Program} {E : Env} (h : EnvOk P E) {i : Nat} {t : Ty} (ht : tyOf E i = some t) : TyFact P E.tys i t := by
  unfold tyOf at ht
  cases hq : E.tys[i]? with
  | none => rw [hq] at ht; simp at ht
  | some x =>
    rw [hq] at ht
    simp at ht
    subst ht
    have := okTys_get h.tys hq
    rw [Nat.zero_add] at this
    exact okTy_fact this
theorem tyOf_eq {E : Env} {i : Nat} {t : Ty} : tyOf E i = some t ↔ E.tys[i]? = some (some t) := by
  unfold tyOf
  cases E.tys[i]? with
  | none => simp
  | some x => simp

section
variable {P : Program} {tys : List (Option Ty)} {i : Nat} {t : Ty} (w : World)
theorem TyFact.run_size (h : TyFact P tys i t) : (sizeOf i).run P w = .ok t.size w := by
  obtain ⟨n, h1, h2, _⟩ := h.info
  simp [sizeOf, typeInfo, h1, h2]
theorem TyFact.run_agg (h : TyFact P tys i t) : (isAgg i).run P w = .ok t.agg w := by
  have hu := h.und
  cases t <;> simp only [Ty.agg] <;> first
    | (simp [isAgg, run_underlying hu]; done)
    | (obtain ⟨e, he, _⟩ := hu; simp [isAgg, run_underlying he]; done)
    | exact hu.elim
theorem TyFact.run_zero (h : TyFact P tys i t) : (zeroValue i).run P w = .ok (mkV t (zc t)) w := by
  obtain ⟨n, h1, _, _, _, h2⟩ := h.info
  simp [zeroValue, typeInfo, h1, h2]
end
theorem zc_len : ∀ {t : Ty}, (zc t).length = t.size := by
  intro t; induction t <;> simp_all [zc, Ty.size]
theorem zc_one : ∀ {t : Ty}, ∀ v ∈ zc t, cell1 v = true := by
  intro t
  induction t with
  | pair a b iha ihb => intro v hv; rcases List.mem_append.1 hv with hv | hv; exact iha v hv; exact ihb v hv
  | _ => intro v hv; simp [zc] at hv; try (subst hv; rfl)
theorem Rp.zero {w : World} {S : Nat → Prop} : ∀ {t : Ty}, t.plain = true → Rp w S t (zo t) (zv t) (zc t) (fun _ => False) := by
  intro t
  induction t with
  | pair a b iha ihb =>
    intro h
    simp only [Ty.plain, Bool.and_eq_true] at h
    exact (Rp.pair_mk (x := (zv (.pair a b))) rfl (iha h.1) (ihb h.2) (fun _ h => h.elim)).mono (fun _ h => h) (fun _ h => h.elim id id)
  | sl t _ => intro _; exact ⟨none, 0, rfl, Nat.le_refl _, rfl, rfl⟩
  | fp t _ => intro h; simp [Ty.plain] at h
  | fn g t _ => intro h; simp [Ty.plain] at h
  | _ => intro _; rfl
theorem Rp.zeroF {w : World} {S : Nat → Prop} : ∀ {t : Ty}, t.plain = true → Rp w S t (fo t) (zv t) (zc t) (fun _ => False) := by
  intro t
  induction t with
  | pair a b iha ihb =>
    intro h
    simp only [Ty.plain, Bool.and_eq_true] at h
    exact (Rp.pair_mk (x := (zv (.pair a b))) rfl (iha h.1) (ihb h.2) (fun _ h => h.elim)).mono (fun _ h => h) (fun _ h => h.elim id id)
  | sl t _ => intro _; exact ⟨none, 0, rfl, Nat.le_refl _, rfl, rfl⟩
  | fp t _ => intro h; simp [Ty.plain] at h
  | fn g t _ => intro h; simp [Ty.plain] at h
  | _ => intro _; rfl
end Go.OM

namespace Go.OM
open Go

theorem Prog.run_some {α R : Type} {q : Prog α} {k : α → Option R} {r : R} (h : q.run k = some r) : ∃ x, q.run some = some x ∧ k x = some r := by
  induction q with
  | ret x => exact ⟨x, rfl, h⟩
  | fail => cases h
  | need p d q ih =>
    simp only [Prog.run] at h ⊢
    split at h
    · rename_i hp; rw [if_pos hp]; exact ih h
    · cases h
  | br p d x y ihx ihy =>
    simp only [Prog.run] at h ⊢
    split at h
    · rename_i hp; rw [if_pos hp]; exact ihx h
    · rename_i hp; rw [if_neg hp]; exact ihy h
  | call m q ih =>
    simp only [Prog.run] at h ⊢
    cases m with
    | none => cases h
    | some b => exact ih b h
theorem Prog.run_bind {α β R : Type} {q : Prog α} {f : α → Prog β} {k : β → Option R} : (q.bind f).run k = q.run fun x => (f x).run k := by
  induction q with
  | ret x => rfl
  | fail => rfl
  | need p d q ih => simp only [Prog.bind, Prog.run, ih]
  | br p d x y ihx ihy => simp only [Prog.bind, Prog.run, ihx, ihy]
  | call m q ih =>
    simp only [Prog.bind, Prog.run]
    cases m with
    | none => rfl
    | some b => exact ih b

/-- An operation is told truly. -/
def OpOk (c : Ctx) (P : Program) (E : Env) (o : Oper) : Prop :=
  ∀ g s a w U Q, RelG c g s a w → (∀ d, o.dst = some d → d < c.N) → (evOp E o s).run some = some U → o.wp P a w (fun a' w' => Rel c (upds s U) a' w') Q

section
variable {c : Ctx} {g : Ghost} {s : St} {a : Act} {w : World} {P : Program} {E : Env}

theorem wp_value {o : Oper} {K : Act → World → Prop} {Q : Exit → Act → World → Prop} {v : Value} {w' : World} (h : (execOp a.eval o).run P w = .ok (.value v) w') (hk : K (a.put o.dst v) w') : o.wp P a w K Q := by
  unfold Oper.wp; rw [h]; exact hk
theorem putT_run {o : Oper} {T : T} {U : Upds} (h : (putT o s T).run some = some U) : ∃ d, o.dst = some d ∧ U = [bump s (tm d) T] := by
  unfold putT at h
  cases hd : o.dst with
  | none => rw [hd] at h; cases h
  | some d => rw [hd] at h; exact ⟨d, rfl, (Option.some.inj h).symm⟩
theorem put_rel (r : RelG c g s a w) {w' : World} (hw : Same w w') {o : Oper} {d : Nat} (hd : o.dst = some d) (hN : d < c.N) {v : Value} {T : T} {Oc : Nat → Prop} (hn : New c g s a w v Oc T) (hf : Loose c g w Oc) :
    Rel c (upds s [bump s (tm d) T]) (a.put o.dst v) w' := by
  rw [hd]; exact ⟨_, r.put hw hN hn (hf.free _)⟩
/-- What is looked at as a value. -/
theorem peekV_new (r : RelG c g s a w) {ty : Option Ty} {x : Operand} {V : V} (h : peekV s ty x = some V) :
    validL s V.lend = true ∧ V.o.live = true ∧ (∀ e ∈ V.lend, e.2 ≤ (s e.1).v) ∧ V.tag = 0 ∧ ∃ cs, a.eval x = mkV V.t cs ∧ Rp w (Sof g V.lend) V.t V.o V.x cs (fun _ => False) := by
  obtain ⟨T, hT, hV⟩ := Option.bind_eq_some_iff.1 h
  obtain ⟨n1, n2, n3, n4, _⟩ := peek_new r hT
  cases T <;> simp [T.val?] at hV
  · subst hV
    obtain ⟨k1, k2, k3, k4⟩ := n4 _ _ rfl
    obtain ⟨cs, m1, m2⟩ := n1.2 k1
    exact ⟨k1, k2, n1.1.1, k3, cs, m1, m2.1⟩
  · subst hV
    exact ⟨rfl, rfl, by simp [V.p], rfl, [.bool _], n1, rfl⟩
theorem Rp.int {k : IntKind} {o : Ow} {x : Int} {cs : List Value} {S O : Nat → Prop} (h : Rp w S (.int k) o x cs O) (hl : o.live = true) : mkV (.int k) cs = .int k x := by
  cases o <;> first | exact h.elim | (simp [Ow.live] at hl; done) | (cases h; rfl)
theorem Rp.bool {o : Ow} {x : Bool} {cs : List Value} {S O : Nat → Prop} (h : Rp w S .bool o x cs O) (hl : o.live = true) : mkV .bool cs = .bool x := by
  cases o <;> first | exact h.elim | (simp [Ow.live] at hl; done) | (cases h; rfl)
theorem Rp.str {o : Ow} {x : ByteArray} {cs : List Value} {S O : Nat → Prop} (h : Rp w S .str o x cs O) (hl : o.live = true) : mkV .str cs = .string x := by
  cases o <;> first | exact h.elim | (simp [Ow.live] at hl; done) | (cases h; rfl)
theorem peekV_int (r : RelG c g s a w) {ty : Option Ty} {x : Operand} {k : IntKind} {o : Ow} {n : Int} {ln : Lend} {tg : Nat} (h : peekV s ty x = some ⟨.int k, o, n, ln, tg⟩) : a.eval x = .int k n := by
  obtain ⟨_, h2, _, _, cs, h4, h5⟩ := peekV_new r h
  rw [h4]; exact h5.int h2
theorem peekV_bool (r : RelG c g s a w) {ty : Option Ty} {x : Operand} {o : Ow} {b : Bool} {ln : Lend} {tg : Nat} (h : peekV s ty x = some ⟨.bool, o, b, ln, tg⟩) : a.eval x = .bool b := by
  obtain ⟨_, h2, _, _, cs, h4, h5⟩ := peekV_new r h
  rw [h4]; exact h5.bool h2
theorem peekV_str (r : RelG c g s a w) {ty : Option Ty} {x : Operand} {o : Ow} {b : ByteArray} {ln : Lend} {tg : Nat} (h : peekV s ty x = some ⟨.str, o, b, ln, tg⟩) : a.eval x = .string b := by
  obtain ⟨_, h2, _, _, cs, h4, h5⟩ := peekV_new r h
  rw [h4]; exact h5.str h2

theorem New.int {k : IntKind} {n : Int} : New c g s a w (.int k n) (fun _ => False) (T.i k n) :=
  ⟨⟨by simp [V.p], trivial⟩, fun _ => ⟨[.int k n], rfl, rfl, by simp [V.p], trivial⟩⟩
theorem New.bool {b : Bool} : New c g s a w (.bool b) (fun _ => False) (.val (.p .bool b) none) :=
  ⟨⟨by simp [V.p], trivial⟩, fun _ => ⟨[.bool b], rfl, rfl, by simp [V.p], trivial⟩⟩
theorem New.str {b : ByteArray} : New c g s a w (.string b) (fun _ => False) (.val (.p .str b) none) :=
  ⟨⟨by simp [V.p], trivial⟩, fun _ => ⟨[.string b], rfl, rfl, by simp [V.p], trivial⟩⟩

/-- What binops come to. -/
theorem evBin_run {op : BinOp} {k : IntKind} {x y : Int} {T : T} (h : (evBin op k x y).run some = some T) (h1 : op ≠ .shl) (h2 : op ≠ .shr) (t : TypeId) (w : World) :
    ∃ v, (binOp op t (.int k x) (.int k y)).run P w = .ok v w ∧ ∀ g s a, New c g s a w v (fun _ => False) T := by
  have hw : ∀ k x, wrapK k x = k.wrap x := by intro k x; cases k <;> rfl
  cases op <;> simp only [evBin, Prog.run] at h <;> first | (cases h; done) | skip
  all_goals try (obtain rfl := Option.some.inj h)
  case add => exact ⟨.int k (k.wrap (x + y)), by simp [binOp, Op.intArith], fun g s a => by rw [hw]; exact New.int⟩
  case sub => exact ⟨.int k (k.wrap (x - y)), by simp [binOp, Op.intArith], fun g s a => by rw [hw]; exact New.int⟩
  case mul => exact ⟨.int k (k.wrap (x * y)), by simp [binOp, Op.intArith], fun g s a => by rw [hw]; exact New.int⟩
  case quo =>
    split at h
    · cases h
    · rename_i hy
      obtain rfl := Option.some.inj h
      exact ⟨.int k (k.wrap (x.tdiv y)), by simp [binOp, Op.intDiv, hy], fun g s a => by rw [hw]; exact New.int⟩
  case rem =>
    split at h
    · cases h
    · rename_i hy
      obtain rfl := Option.some.inj h
      exact ⟨.int k (x.tmod y), by simp [binOp, Op.intDiv, hy], fun g s a => New.int⟩
  case and => exact ⟨_, by simp [binOp, Op.intBits]; rfl, fun g s a => New.int⟩
  case or => exact ⟨_, by simp [binOp, Op.intBits]; rfl, fun g s a => New.int⟩
  case xor => exact ⟨_, by simp [binOp, Op.intBits]; rfl, fun g s a => New.int⟩
  case eql => exact ⟨_, by simp [binOp, Op.intCmp]; rfl, fun g s a => rfl⟩
  case neq => exact ⟨_, by simp [binOp, Op.intCmp]; rfl, fun g s a => rfl⟩
  case lss => exact ⟨_, by simp [binOp, Op.intCmp]; rfl, fun g s a => rfl⟩
  case leq => exact ⟨_, by simp [binOp, Op.intCmp]; rfl, fun g s a => rfl⟩
  case gtr => exact ⟨_, by simp [binOp, Op.intCmp]; rfl, fun g s a => rfl⟩
  case geq => exact ⟨_, by simp [binOp, Op.intCmp]; rfl, fun g s a => rfl⟩
end
end Go.OM

namespace Go.OM
open Go
section
variable {c : Ctx} {g : Ghost} {s : St} {a : Act} {w : World} {P : Program} {E : Env}

theorem toList_beq (x y : ByteArray) : (x.toList == y.toList) = @decide (x = y) (eqD .str x y) := by
  rw [Bool.eq_iff_iff]
  simp only [beq_iff_eq, decide_eq_true_eq, ByteArray.toList_eq]
  constructor
  · intro h
    obtain ⟨⟨l⟩⟩ := x
    obtain ⟨⟨m⟩⟩ := y
    simp at h; subst h; rfl
  · rintro rfl; rfl
theorem evBinT_run (r : RelG c g s a w) {op : BinOp} {x y : Operand} {A B : V} (ha : peekV s none x = some A) (hb : peekV s none y = some B) {T : T} (h : (evBinT op A B).run some = some T) (t : TypeId) :
    ∃ v, ((do eqGuard op t x y (a.eval x) (a.eval y); binOp op t (a.eval x) (a.eval y)) : Sem Value).run P w = .ok v w ∧ New c g s a w v (fun _ => False) T := by
  unfold evBinT at h
  split at h
  · rw [peekV_int r ha, peekV_int r hb]
    simp only [Prog.run] at h
    split at h
    · rename_i hy
      obtain rfl := Option.some.inj h
      refine ⟨.int _ (shlK _ _ _), ?_, New.int⟩
      have hw : ∀ k x, wrapK k x = k.wrap x := by intro k x; cases k <;> rfl
      have hn : ¬ (_ : Int) < 0 := Int.not_lt.mpr hy
      simp [go_sem, binOp, Op.shift, hn, shlK, hw]
    · cases h
  · rw [peekV_int r ha, peekV_int r hb]
    simp only [Prog.run] at h
    split at h
    · rename_i hy
      obtain rfl := Option.some.inj h
      refine ⟨.int _ (shrK _ _ _), ?_, New.int⟩
      have hn : ¬ (_ : Int) < 0 := Int.not_lt.mpr hy
      simp [go_sem, binOp, Op.shift, hn, shrK]
    · cases h
  · rename_i h1 h2
    rw [peekV_int r ha, peekV_int r hb]
    split at h
    · rename_i hk
      subst hk
      obtain ⟨v, hv, hn⟩ := evBin_run (c := c) (P := P) h (by rintro rfl; first | exact h1 _ _ _ _ _ _ _ rfl rfl rfl | exact h1 _ _ _ _ _ _ rfl rfl rfl | exact h1 _ _ _ _ _ rfl rfl rfl | exact h1 rfl) (by rintro rfl; first | exact h2 _ _ _ _ _ _ _ rfl rfl rfl | exact h2 _ _ _ _ _ _ rfl rfl rfl | exact h2 _ _ _ _ _ rfl rfl rfl | exact h2 rfl) t w
      exact ⟨v, by simp only [eqGuard_at_int, Sem.run_bind, Sem.run_pure, Result.andThen_ok, hv], hn g s a⟩
    · cases h
  · rw [peekV_str r ha, peekV_str r hb]
    simp only [Prog.run] at h
    split at h
    · rename_i hs
      obtain rfl := Option.some.inj h
      refine ⟨_, ?_, New.str⟩
      simp only [eqGuard_at_string, Sem.run_bind, Sem.run_pure, Result.andThen_ok, binOp_string_add]
      exact run_string_add_sum _ _ _ (by omega)
    · cases h
  · rename_i o1 x1 l1 t1 o2 y1 l2 t2
    rw [peekV_str r ha, peekV_str r hb]
    simp only [Prog.run] at h
    obtain rfl := Option.some.inj h
    refine ⟨.bool (ByteArray.toList x1 == ByteArray.toList y1), by simp only [eqGuard_at_string, Sem.run_bind, Sem.run_pure, Result.andThen_ok, binOp_string_eql], ?_⟩
    simp only [New, boolOf, cond_true, Value.bool.injEq]
    exact toList_beq _ _
  · rename_i o1 x1 l1 t1 o2 y1 l2 t2
    rw [peekV_str r ha, peekV_str r hb]
    simp only [Prog.run] at h
    obtain rfl := Option.some.inj h
    refine ⟨.bool (!(ByteArray.toList x1 == ByteArray.toList y1)), by simp only [eqGuard_at_string, Sem.run_bind, Sem.run_pure, Result.andThen_ok, binOp_string_neq], ?_⟩
    simp only [New, boolOf, cond_false, Value.bool.injEq]
    exact congrArg (! ·) (toList_beq _ _)
  · cases h
theorem ok_unOp {o : Oper} {op : UnOp} {t : TypeId} {x : Operand} (ho : o.op = .unOp op t x) : OpOk c P E o := by
  intro g s a w U Q r hN h
  simp only [evOp, ho] at h
  split at h
  · rename_i T0 hp
    rw [Prog.run_bind] at h
    obtain ⟨T, hT, h⟩ := Prog.run_some h
    obtain ⟨d, hd, rfl⟩ := putT_run h
    obtain ⟨n1, n2, n3, n4, n5⟩ := peek_new r hp
    have key : ∀ v, (Op.unary op (a.eval x)).run P w = .ok v w → New c g s a w v (fun _ => False) T → o.wp P a w (fun a' w' => Rel c (upds s [bump s (tm d) T]) a' w') Q := by
      intro v hv hn
      exact wp_value (by simp [execOp, ho, hv]) (put_rel r (Same.refl w) hd (hN d hd) hn Loose.none)
    unfold evUn at hT
    split at hT
    · rename_i pos p dd
      obtain rfl := Option.some.inj hT
      have e1 : a.eval x = .bool (boolOf pos p dd) := n1
      refine key (.bool (!boolOf pos p dd)) (by rw [e1]; simp [Op.unary]) ?_
      simp only [New]
      congr 1
      cases pos <;> simp [boolOf]
    · obtain rfl := Option.some.inj hT
      have hx := peekV_bool r (show peekV s none x = some _ by simp only [peekV, hp]; rfl)
      refine key (.bool (!_)) (by rw [hx]; simp [Op.unary]; rfl) ?_
      simp [New, boolOf]
    · obtain rfl := Option.some.inj hT
      have hx := peekV_int r (show peekV s none x = some _ by simp only [peekV, hp]; rfl)
      have hw : ∀ k x, wrapK k x = k.wrap x := by intro k x; cases k <;> rfl
      exact key _ (by rw [hx]; simp only [Op.unary, Op.intArith]; rfl) (by rw [hw]; exact New.int)
    · cases hT
  · cases h
theorem ok_nilCheck {o : Oper} {x : Operand} (ho : o.op = .nilCheck x) : OpOk c P E o := by
  intro g s a w U Q r hN h
  simp only [evOp, ho] at h
  split at h
  · rename_i l p v hv iv tr hp
    obtain ⟨d, hd, rfl⟩ := putT_run h
    obtain ⟨n1, n2, n3, n4, n5, _⟩ := peek_new r hp
    obtain ⟨b, off, cs, V', org', m1, m2, m3, m4, m5⟩ := n1.2 (n5 _ _ _ _ _ _ rfl)
    exact wp_value (v := a.eval x) (by rw [execOp]; simp [ho, m5]) (put_rel r (Same.refl w) hd (hN d hd) n1 Loose.none)
  · rename_i t w1 y ln tg org hp
    obtain ⟨d, hd, rfl⟩ := putT_run h
    obtain ⟨n1, n2, n3, n4, n5, _⟩ := peek_new r hp
    obtain ⟨k1, k2, k3, k4⟩ := n4 _ _ rfl
    obtain ⟨cs, m1, m2, m3⟩ := n1.2 k1
    have hne : w1 ≠ .a ∧ w1 ≠ .dead := ⟨fun e => by subst e; exact m2.elim, fun e => by subst e; simp [Ow.live] at k2⟩
    have : ∃ b off, a.eval x = .pointer (some ⟨b, off, none⟩) := by
      rw [m1]
      cases w1 <;> first | exact absurd rfl hne.1 | exact absurd rfl hne.2 | (obtain ⟨b, off, c1, rfl, _⟩ := m2; exact ⟨b, off, rfl⟩)
    obtain ⟨b, off, hb⟩ := this
    exact wp_value (v := a.eval x) (by rw [execOp]; simp [ho, hb]) (put_rel (Oc := fun _ => False) r (Same.refl w) hd (hN d hd) ⟨⟨n1.1.1, trivial⟩, fun _ => ⟨cs, m1, m2, by simp, trivial⟩⟩ Loose.none)
  · cases h
theorem castT_some' {t t' : Ty} {x : t.den} {y : t'.den} (h : (castT x : Option t'.den) = some y) : ∃ e : t = t', y = e ▸ x := by
  unfold castT at h
  split at h
  · rename_i e; exact ⟨e, (Option.some.inj h).symm⟩
  · cases h
theorem run_part1 {tys : List (Option Ty)} {i : Nat} {t : Ty} (h : TyFact P tys i t) (ha : t.agg = false) {cs : Array Value} {off : Nat} {v : Value} (hv : cs[off]? = some v) : (part i cs off).run P w = .ok v w := by
  simp only [part, Sem.run_bind, h.run_agg, Result.andThen_ok, ha, Bool.false_eq_true, if_false, hv, Sem.run_pure]
theorem eqFields_run {tys : List (Option Ty)} (hT : ∀ i t, tys[i]? = some (some t) → TyFact P tys i t) {S O1 O2 : Nat → Prop} {cs cs' : List Value} {d : Nat} : ∀ {fs : List Field} {t : Ty} {off : Nat} {a b : t.den} {oa ob : Ow}, fieldsOk tys fs t off = true →
    (fs.all fun f => !decide (f.name = "_") && (match tys[f.type]? with | some (some (.int _)) => true | some (some .bool) => true | some (some .str) => true | _ => false)) = true → oa.live = true → ob.live = true →
    Rp w S t oa a (cs.drop off) O1 → Rp w S t ob b (cs'.drop off) O2 → ∃ r : Bool, (Op.eqFields (d + 1) cs.toArray cs'.toArray fs).run P w = .ok r w ∧ (r = true ↔ a = b) := by
  intro fs
  induction fs generalizing S O1 O2 with
  | nil =>
    intro t off a b oa ob hf _ _ _ _ _
    cases t <;> first | (cases hf; done) | skip
    exact ⟨true, rfl, by simp⟩
  | cons f fs ih =>
    intro t off a b oa ob hf hs la lb ra rb
    cases t <;> first | (cases hf; done) | skip
    rename_i t1 t2
    simp only [fieldsOk, Bool.and_eq_true, decide_eq_true_eq, beq_eq] at hf
    obtain ⟨⟨⟨h1, h2⟩, _⟩, h4⟩ := hf
    subst h2
    simp only [List.all_cons, Bool.and_eq_true] at hs
    obtain ⟨⟨hn, hk⟩, hs⟩ := hs
    have hn : f.name ≠ "_" := by simpa using hn
    have hfa := hT _ _ h1
    rw [h1] at hk
    have ra' := ra.freeze la
    have rb' := rb.freeze lb
    obtain ⟨oa1, oa2, ca1, ca2, A1, A2, e1, e2, e3, q1, q2, _⟩ := ra'
    obtain ⟨ob1, ob2, cb1, cb2, B1, B2, g1, g2, g3, p1, p2, _⟩ := rb'
    cases e1; cases e2; cases g1; cases g2
    have la1 := q1.len; have lb1 := p1.len
    have q2 : Rp w (fun b => S b ∨ O1 b) t2 .z a.2 (cs.drop (f.offset + t1.size)) A2 := by
      rw [← List.drop_drop, e3, ← la1, List.drop_left]; exact q2
    have p2 : Rp w (fun b => S b ∨ O2 b) t2 .z b.2 (cs'.drop (f.offset + t1.size)) B2 := by
      rw [← List.drop_drop, g3, ← lb1, List.drop_left]; exact p2
    obtain ⟨r2, k1, k2⟩ := ih (S := fun _ => True) h4 hs (oa := .z) (ob := .z) rfl rfl (q2.mono (fun _ _ => trivial) (fun _ h => h)) (p2.mono (fun _ _ => trivial) (fun _ h => h))
    have get : ∀ {l l2 : List Value} {v : Value} {off : Nat}, l.drop off = [v] ++ l2 → l.toArray[off]? = some v := fun {l l2 v off} h => by
      have := congrArg (fun x => x[0]?) h
      simp only [List.getElem?_drop, Nat.add_zero, List.singleton_append, List.getElem?_cons_zero] at this
      simpa using this
    have main : ∀ {va vb : Value} {r1 : Bool}, ca1 = [va] → cb1 = [vb] → t1.agg = false → (Op.equalIn (d + 1) f.type va vb).run P w = .ok r1 w → (r1 = true ↔ a.1 = b.1) → ∃ r : Bool, (Op.eqFields (d + 1) cs.toArray cs'.toArray (f :: fs)).run P w = .ok r w ∧ (r = true ↔ a = b) := by
      intro va vb r1 h1 h2 hg hr hi
      subst h1 h2
      have e : (a = b) ↔ (a.1 = b.1 ∧ a.2 = b.2) := ⟨fun h => by rw [h]; exact ⟨rfl, rfl⟩, fun h => Prod.ext h.1 h.2⟩
      simp only [Op.eqFields, if_pos hn, Sem.run_bind, run_part1 hfa hg (get e3), run_part1 hfa hg (get g3), Result.andThen_ok, hr, ne_eq, hn, not_false_eq_true, if_true]
      cases r1 with
      | false =>
        refine ⟨false, by simp, ?_⟩
        rw [e, ← hi]; simp
      | true =>
        refine ⟨r2, by simpa using k1, ?_⟩
        rw [e, ← hi, k2]; simp
    cases t1 with
    | int k =>
      exact main (va := .int k a.1) (vb := .int k b.1) (r1 := a.1 == b.1) q1 p1 rfl (run_equalIn_int w d f.type k k a.1 b.1 hfa.und) (by simp)
    | bool => exact main (va := .bool a.1) (vb := .bool b.1) (r1 := a.1 == b.1) q1 p1 rfl (run_equalIn_bool' w d f.type a.1 b.1 hfa.und) (by simp)
    | str => exact main (va := .string a.1) (vb := .string b.1) (r1 := ByteArray.toList a.1 == ByteArray.toList b.1) q1 p1 rfl (run_equalIn_string w d f.type a.1 b.1 hfa.und) (by rw [toList_beq]; simp)
    | _ => cases hk
theorem evEqS_run (he : EnvOk P E) (r : RelG c g s a w) {op : BinOp} {t : TypeId} {x y : Operand} {A B : V} (ha : peekV s none x = some A) (hb : peekV s none y = some B) (hmem : E.eqs.any (Nat.beq t) = true) {T : T} (h : (evEqS (tyOf E t) op A B).run some = some T) :
    ∃ v, ((do eqGuard op t x y (a.eval x) (a.eval y); binOp op t (a.eval x) (a.eval y)) : Sem Value).run P w = .ok v w ∧ New c g s a w v (fun _ => False) T := by
  have hok : eqOk P E.tys t = true := by
    obtain ⟨i, h1, h2⟩ := List.any_eq_true.1 hmem
    have := beq_eq.1 h2
    subst this
    exact List.all_eq_true.1 he.eqs _ h1
  have hT : ∀ i t, E.tys[i]? = some (some t) → TyFact P E.tys i t := fun i t h => he.fact (tyOf_eq.2 h)
  obtain ⟨tA, oA, xA, lA, gA⟩ := A
  obtain ⟨tB, oB, xB, lB, gB⟩ := B
  -- what the two are held to be
  have key : ∀ (xB' : tA.den), tyOf E t = some tA → tB = tA → HEq xB xB' → ∃ rr : Bool, (rr = true ↔ xA = xB') ∧ ((do eqGuard .eql t x y (a.eval x) (a.eval y); binOp .eql t (a.eval x) (a.eval y)) : Sem Value).run P w = .ok (.bool rr) w ∧
      ((do eqGuard .neq t x y (a.eval x) (a.eval y); binOp .neq t (a.eval x) (a.eval y)) : Sem Value).run P w = .ok (.bool (!rr)) w := by
    rintro xB' ht rfl hx
    have hx := eq_of_heq hx
    subst hx
    have hf := he.fact ht
    have ht' := tyOf_eq.1 ht
    unfold eqOk at hok
    rw [ht'] at hok
    have scal : tB = .bool → ∃ rr : Bool, (rr = true ↔ xA = xB) ∧ ((do eqGuard .eql t x y (a.eval x) (a.eval y); binOp .eql t (a.eval x) (a.eval y)) : Sem Value).run P w = .ok (.bool rr) w ∧
        ((do eqGuard .neq t x y (a.eval x) (a.eval y); binOp .neq t (a.eval x) (a.eval y)) : Sem Value).run P w = .ok (.bool (!rr)) w := by
      rintro rfl
      have hu := hf.und
      have k := run_equalIn_bool' w 9999 t xA xB hu
      refine ⟨xA == xB, by simp, ?_, ?_⟩ <;> rw [peekV_bool r ha, peekV_bool r hb]
      · simp [eqGuard, binOp, Op.equal, Op.maxDepth, k]
      · simp [eqGuard, binOp, Op.equal, Op.maxDepth, k]
    split at hok
    · rename_i e
      exact scal (Option.some.inj (Option.some.inj e))
    · rename_i t0 fs hne e hu
      cases e
      simp only [Bool.and_eq_true, Bool.not_eq_true'] at hok
      obtain ⟨⟨h1, h2⟩, h3⟩ := hok
      obtain ⟨_, la, _, _, ca, ea, ra⟩ := peekV_new r ha
      obtain ⟨_, lb, _, _, cb, eb, rb⟩ := peekV_new r hb
      have hfo : fieldsOk E.tys fs.toList tB 0 = true ∧ tB.agg = true := by
        have hu2 := hf.und
        cases tB with
        | pair p q => obtain ⟨fs', e1, e2⟩ := hu2; rw [hu] at e1; cases e1; exact ⟨e2, rfl⟩
        | unit => obtain ⟨fs', e1, e2⟩ := hu2; rw [hu] at e1; cases e1; exact ⟨e2, rfl⟩
        | int k => rw [hu] at hu2; cases hu2
        | bool => rw [hu] at hu2; cases hu2
        | str => rw [hu] at hu2; cases hu2
        | sl te => obtain ⟨e, e1, _⟩ := hu2; rw [hu] at e1; cases e1
        | fp _ => exact hu2.elim
        | fn _ _ => exact hu2.elim
      have hfs : P.fieldsOf t = fs := by simp [Program.fieldsOf, hu]
      obtain ⟨rr, k1, k2⟩ := eqFields_run (d := 9998) hT (S := fun _ => True) (cs := ca) (cs' := cb) (off := 0) hfo.1 h3 la lb (by rw [List.drop_zero]; exact ra.mono (fun _ _ => trivial) (fun _ h => h)) (by rw [List.drop_zero]; exact rb.mono (fun _ _ => trivial) (fun _ h => h))
      have e1 : a.eval x = .agg ca.toArray := by rw [ea]; simp [mkV, hfo.2]
      have e2 : a.eval y = .agg cb.toArray := by rw [eb]; simp [mkV, hfo.2]
      have hrun := run_equalIn_struct (P := P) w 9999 t ca.toArray cb.toArray (by rw [hfs]; exact hu) h1
      rw [hfs] at hrun
      refine ⟨rr, k2, ?_, ?_⟩ <;> rw [e1, e2, Sem.run_bind, run_eqGuard_agg (hm := h2), Result.andThen_ok]
      · rw [run_eql_struct, hrun, k1]; rfl
      · rw [run_neq_struct, hrun, k1]; rfl
    · cases hok
  have fin : ∀ {xB' : tA.den} {rr : Bool}, (rr = true ↔ xA = xB') → rr = @decide (xA = xB') (eqD tA xA xB') := fun h => by
    rw [Bool.eq_iff_iff]; exact h.trans (@decide_eq_true_iff _ (eqD tA xA _)).symm
  unfold evEqS at h
  split at h
  · rename_i t0 tA' o1 x1 l1 g1 tB' o2 y1 l2 g2 e1 e2 e3 e4 e5
    cases e4; cases e5
    split at h
    case isFalse => cases h
    rename_i hc
    rw [Bool.and_eq_true, decide_eq_true_eq] at hc
    obtain ⟨_, rfl⟩ := hc
    split at h
    case h_2 => cases h
    rename_i y' hy
    obtain rfl := Option.some.inj h
    obtain ⟨e, rfl⟩ := castT_some' hy
    obtain ⟨rr, k1, k2, _⟩ := key (e ▸ _) (by assumption) e (by subst e; rfl)
    exact ⟨.bool rr, k2, by simp only [New, boolOf, cond_true, Value.bool.injEq]; exact fin k1⟩
  · rename_i t0 tA' o1 x1 l1 g1 tB' o2 y1 l2 g2 e1 e2 e3 e4 e5
    cases e4; cases e5
    split at h
    case isFalse => cases h
    rename_i hc
    rw [Bool.and_eq_true, decide_eq_true_eq] at hc
    obtain ⟨_, rfl⟩ := hc
    split at h
    case h_2 => cases h
    rename_i y' hy
    obtain rfl := Option.some.inj h
    obtain ⟨e, rfl⟩ := castT_some' hy
    obtain ⟨rr, k1, _, k2⟩ := key (e ▸ _) (by assumption) e (by subst e; rfl)
    exact ⟨.bool (!rr), k2, by simp only [New, boolOf, cond_false, Value.bool.injEq]; exact congrArg (! ·) (fin k1)⟩
  · cases h
theorem ok_binOp (he : EnvOk P E) {o : Oper} {op : BinOp} {t u : TypeId} {x y : Operand} (ho : o.op = .binOp op t x y u) : OpOk c P E o := by
  intro g s a w U Q r hN h
  simp only [evOp, ho] at h
  split at h
  · rename_i A B ha hb
    split at h
    · split at h
      case isFalse => cases h
      rename_i hmem
      rw [Prog.run_bind] at h
      obtain ⟨T, hT, h⟩ := Prog.run_some h
      obtain ⟨d, hd, rfl⟩ := putT_run h
      obtain ⟨v, hv, hn⟩ := evEqS_run he r ha hb hmem hT
      exact wp_value (by
        simp only [execOp, ho]
        rw [Sem.run_bind, hv]; rfl) (put_rel r (Same.refl w) hd (hN d hd) hn Loose.none)
    · rw [Prog.run_bind] at h
      obtain ⟨T, hT, h⟩ := Prog.run_some h
      obtain ⟨d, hd, rfl⟩ := putT_run h
      obtain ⟨v, hv, hn⟩ := evBinT_run (P := P) r ha hb hT t
      exact wp_value (by
        simp only [execOp, ho]
        rw [Sem.run_bind, hv]; rfl) (put_rel r (Same.refl w) hd (hN d hd) hn Loose.none)
  · cases h
end
end Go.OM

namespace Go.OM
open Go

theorem add_none (b o i : Nat) : (⟨b, o, none⟩ : Addr).add i = ⟨b, o + i, none⟩ := Addr.add_lit b o i
section
variable {c : Ctx} {g : Ghost} {s : St} {a : Act} {w : World} {P : Program} {E : Env}

theorem run_loadVar {tys : List (Option Ty)} {i : Nat} {t : Ty} (h : TyFact P tys i t) {b off : Nat} {cs : List Value} (ha : AtC w b off cs) (hl : cs.length = t.size) :
    (loadVar i ⟨b, off, none⟩).run P w = .ok (mkV t cs) w := by
  unfold loadVar
  simp only [Sem.run_bind, h.run_agg, Result.andThen_ok]
  unfold mkV
  cases hg : t.agg with
  | true =>
    simp only [if_true, Sem.run_bind, h.run_size, Result.andThen_ok]
    have := run_loadCells_list (P := P) w ⟨b, off, none⟩ cs (fun j v hv => by rw [add_none]; exact ha j v hv)
    rw [hl] at this
    simp only [this, Result.andThen_ok, Sem.run_pure]
  | false =>
    have hs : t.size = 1 := by cases t <;> simp_all [Ty.agg, Ty.size]
    rw [hs] at hl
    match cs, hl with
    | [v], _ =>
      have := ha 0 v rfl
      simp only [Bool.false_eq_true, if_false, run_load]
      rw [Nat.add_zero] at this
      rw [this]; rfl

theorem Cells.uniq {l : Loc} {x y : List Value} (h : Cells g a w l x) (k : Cells g a w l y) : x = y := by
  unfold Cells at h k
  split at h
  · rename_i h4
    rw [if_pos h4] at k
    obtain ⟨c1, e1, f1, h1, h2⟩ := h
    obtain ⟨c2, e2, f2, k1, k2⟩ := k
    rw [h1] at k1
    cases k1
    rw [← h2, k2]
  · rename_i h4
    rw [if_neg h4] at k
    obtain ⟨v, h1, h2⟩ := h
    obtain ⟨v2, k1, k2⟩ := k
    rw [h1] at k1
    cases k1
    rw [← h2, k2]
theorem Cells.at {l : Loc} {cs : List Value} (h : Cells g a w l cs) : ∀ q, baseOf g l = some q → AtC w q.1 q.2 cs := by
  intro q hq
  unfold baseOf at hq
  split at hq
  · rename_i h4
    obtain rfl := Option.some.inj hq
    unfold Cells at h
    rw [if_pos h4] at h
    obtain ⟨c1, e1, f1, h1, h2⟩ := h
    intro i v hv
    subst h2
    simp only [World.cell?, h1]
    simpa using hv
  · cases hq
theorem content_some {l : Loc} {V : V} (h : content s l = some V) : (∃ org, (s l).t = .val V org) ∧ validL s V.lend = true := by
  unfold content at h
  split at h
  · rename_i v org ht
    split at h
    · rename_i hv
      obtain rfl := Option.some.inj h
      exact ⟨⟨org, ht⟩, hv⟩
    · cases h
  · cases h
theorem at_some {l : Loc} {p : Path} {V : V} {q : (t : Ty) × t.den} {o' : Ow} (h : at_ s l p = some (V, q, o')) : content s l = some V ∧ getP V.t V.x p = some q ∧ getO V.o p = some o' := by
  unfold at_ at h
  split at h
  · rename_i v hv
    split at h
    · rename_i y o2 h1 h2
      cases h
      exact ⟨hv, h1, h2⟩
    · cases h
  · cases h
/-- What is known of a place's content. -/
theorem content_new (r : RelG c g s a w) {l : Loc} {V : V} (h : content s l = some V) : ∃ cs Oc, Cells g a w l cs ∧ (l % 4 ≠ 1 → valAt g a l = some (mkV V.t cs)) ∧ Rp w (Sof g V.lend) V.t V.o V.x cs Oc ∧ (V.tag ≠ 0 → cs = c.tags V.tag) ∧
    (∀ b, Oc b → g.O l b ∧ (l % 4 = 1 → b ≠ g.Bk l)) ∧ (∀ e ∈ V.lend, e.2 ≤ (s e.1).v) ∧ (∀ e ∈ V.lend, e.1 ≠ l) ∧ ∀ b, Sof g V.lend b → ¬ g.O l b := by
  obtain ⟨⟨org, ht⟩, hv⟩ := content_some h
  have t := r.toks l
  have f := r.fut l
  rw [ht] at t f
  obtain ⟨cs, Oc, h1, h2, h3, h4⟩ := t hv
  have sf := r.self l
  rw [ht] at sf
  have hne : ∀ e ∈ V.lend, e.1 ≠ l := by
    intro e he hel
    have h1 := sf e he hel
    simp only [validL, List.all_eq_true] at hv
    have h2 := beq_eq.1 (hv e he)
    rw [hel] at h2
    omega
  refine ⟨cs, Oc, h1, h2, h3.1, h3.2.1, h4, f.1, hne, ?_⟩
  rintro b (hb | ⟨e, he, hb⟩) ho
  · exact r.ownG _ _ ho hb
  · exact hne e he (r.disj _ _ b hb ho)
/-- A place that is told by its cells. -/
structure At (c : Ctx) (g : Ghost) (s : St) (a : Act) (w : World) (l : Loc) (p : Path) (V : V) (t' : Ty) (y : t'.den) (o' : Ow) (cs d : List Value) (O' : Nat → Prop) : Prop where
  cells : Cells g a w l cs
  len : cs.length = V.t.size
  nav : NavC w (g.O l) V.t cs p d
  rp : Rp w (Sof g V.lend) t' o' y d O'
  sub : ∀ b, O' b → g.O l b
theorem at_new (r : RelG c g s a w) {l : Loc} {p : Path} {V : V} {t' : Ty} {y : t'.den} {o' : Ow} (h : at_ s l p = some (V, ⟨t', y⟩, o')) {cs d : List Value} (hc : Cells g a w l cs) (hn : NavC w (g.O l) V.t cs p d) :
    ∃ O', At c g s a w l p V t' y o' cs d O' := by
  obtain ⟨h1, h2, h3⟩ := at_some h
  obtain ⟨cs2, Oc, k1, k2, k3, k4, k5, _, _⟩ := content_new r h1
  obtain rfl := hc.uniq k1
  obtain ⟨O', m1, m2⟩ := k3.get hn h2 h3
  exact ⟨O', k1, k3.len, hn, m2, fun b hb => (k5 b (m1 b hb)).1⟩
/-- What an address leads to. -/
theorem ref_at (r : RelG c g s a w) {x : Operand} {l : Loc} {p : Path} {v hv iv : Nat} {ty : Option Ty} {tr : Ty} (h : peek s ty x = some (.ref l p v hv iv tr)) {V : V} {t' : Ty} {y : t'.den} {o' : Ow} (k : at_ s l p = some (V, ⟨t', y⟩, o')) :
    ∃ b off cs d O', a.eval x = .pointer (some ⟨b, off, none⟩) ∧ At c g s a w l p V t' y o' cs d O' ∧ AtC w b off d ∧ NavA w (g.O l) V.t (baseOf g l) cs p b off := by
  obtain ⟨n1, n2, n3, n4, n5, _⟩ := peek_new r h
  obtain ⟨b, off, cs, V', org', ⟨m1, m6⟩, m2, m3, m4, m5⟩ := n1.2 (n5 _ _ _ _ _ _ rfl)
  obtain ⟨⟨org, ht⟩, hval⟩ := content_some (at_some k).1
  rw [ht] at m1
  cases m1
  obtain ⟨d, hd⟩ := m4.navC
  obtain ⟨O', ha⟩ := at_new r k m2 hd
  exact ⟨b, off, cs, d, O', m5, ha, m4.at hd m2.at m3, m4⟩

theorem fp_parts {t : Ty} {o : Ow} {x : t.den} {cs : List Value} {S O : Nat → Prop} (h : Rp w S (.fp t) o x cs O) (hl : o.live = true) :
    ∃ b off c1, cs = [.pointer (some ⟨b, off, none⟩)] ∧ S b ∧ AtC w b off c1 ∧ Rp w S t .z x c1 (fun _ => False) := by
  cases o <;> first | exact h.elim | (simp [Ow.live] at hl; done) | exact h

theorem getP_setP : ∀ {p : Path} {t : Ty} {x : t.den} {t' : Ty} {y : t'.den}, p.flat = true → getP t x p = some ⟨t', y⟩ → setP t x p t' y = some x := by
  intro p
  induction p with
  | nil =>
    intro t x t' y _ h
    have : (⟨t, x⟩ : (t : Ty) × t.den) = ⟨t', y⟩ := by cases t <;> exact Option.some.inj h
    cases this
    have : setP t x [] t x = (if h : t = t then some (h ▸ x) else none) := by cases t <;> rfl
    rw [this]; simp
  | cons s p ih =>
    intro t x t' y hf h
    cases s <;> cases t <;> simp only [getP] at h <;> first | (cases h; done) | skip
    · simp only [setP]; rw [ih (by simpa [Path.flat] using hf) h]; rfl
    · simp only [setP]; rw [ih (by simpa [Path.flat] using hf) h]; rfl
    · simp [Path.flat] at hf
theorem replC_same {Q : Nat → Prop} : ∀ {p : Path} {t : Ty} {cs d : List Value}, NavC w Q t cs p d → replC t cs p d = cs := by
  intro p
  induction p with
  | nil => intro t cs d n; have n' : d = cs := by cases t <;> exact n
           subst n'; cases t <;> rfl
  | cons s p ih =>
    intro t cs d n
    cases s <;> cases t <;> try exact n.elim
    · simp only [replC]; rw [ih n, List.take_append_drop]
    · simp only [replC]; rw [ih n, List.take_append_drop]
    · rfl

theorem navC_flat {Q : Nat → Prop} : ∀ {p : Path} {t : Ty} {x : t.den} {q : (t : Ty) × t.den} {cs : List Value}, p.flat = true → getP t x p = some q → cs.length = t.size → ∃ d, NavC w Q t cs p d := by
  intro p
  induction p with
  | nil => intro t x q cs _ _ _; exact ⟨cs, by cases t <;> rfl⟩
  | cons s p ih =>
    intro t x q cs hf h hl
    cases s <;> cases t <;> simp only [getP] at h <;> first | (cases h; done) | skip
    · exact ih (by simpa [Path.flat] using hf) h (by simp only [Ty.size] at hl; simp; omega)
    · exact ih (by simpa [Path.flat] using hf) h (by simp only [Ty.size] at hl; simp; omega)
    · simp [Path.flat] at hf
theorem NavA.flat_any {w' : World} {Q Q' : Nat → Prop} : ∀ {p : Path} {t : Ty} {base : Option (Nat × Nat)} {cs cs' : List Value} {b o : Nat}, p.flat = true → NavA w Q t base cs p b o → NavA w' Q' t base cs' p b o := by
  intro p
  induction p with
  | nil => intro t base cs cs' b o _ h; cases t <;> exact h
  | cons s p ih =>
    intro t base cs cs' b o hf h
    cases s <;> cases t <;> try exact h.elim
    · exact ih (by simpa [Path.flat] using hf) h
    · exact ih (by simpa [Path.flat] using hf) h
    · simp [Path.flat] at hf
theorem Rp.dead {S O : Nat → Prop} {t : Ty} {x : t.den} {cs : List Value} (h : cs.length = t.size) (h1 : ∀ v ∈ cs, cell1 v = true) : Rp w S t .dead x cs O := by
  cases t <;> exact ⟨h, h1⟩
theorem navC_uniq {Q : Nat → Prop} : ∀ {p : Path} {t : Ty} {cs d e : List Value}, NavC w Q t cs p d → NavC w Q t cs p e → d = e := by
  intro p
  induction p with
  | nil => intro t cs d e h k; have h' : d = cs := by cases t <;> exact h
           have k' : e = cs := by cases t <;> exact k
           rw [h', k']
  | cons s p ih =>
    intro t cs d e h k
    cases s <;> cases t <;> try exact h.elim
    · exact ih h k
    · exact ih h k
    · obtain ⟨ad, len, cap, ci, h1, h2, h3, h4, h5, hq, h6⟩ := h
      obtain ⟨ad', len', cap', ci', k1, k2, k3, k4, k5, kq, k6⟩ := k
      rw [h1] at k1; simp at k1
      obtain ⟨rfl, rfl, rfl⟩ := k1
      obtain rfl := h5.eq k5 (by omega)
      exact ih h6 k6
theorem navA_uniq {Q : Nat → Prop} : ∀ {p : Path} {t : Ty} {base : Option (Nat × Nat)} {cs : List Value} {b o b' o' : Nat}, NavA w Q t base cs p b o → NavA w Q t base cs p b' o' → b = b' ∧ o = o' := by
  intro p
  induction p with
  | nil => intro t base cs b o b' o' h k; have h1 : base = some (b, o) := by cases t <;> exact h
           have h2 : base = some (b', o') := by cases t <;> exact k
           rw [h1] at h2; simp at h2; exact h2
  | cons s p ih =>
    intro t base cs b o b' o' h k
    cases s <;> cases t <;> try exact h.elim
    · exact ih h k
    · exact ih h k
    · obtain ⟨ad, len, cap, ci, h1, h2, h3, h4, h5, hq, h6⟩ := h
      obtain ⟨ad', len', cap', ci', k1, k2, k3, k4, k5, kq, k6⟩ := k
      rw [h1] at k1; simp at k1
      obtain ⟨rfl, rfl, rfl⟩ := k1
      obtain rfl := h5.eq k5 (by omega)
      exact ih h6 k6
/-- A value that is read at a place that owns rows: it is lent from there. -/
theorem New.borrow (r : RelG c g s a w) {l : Loc} {p : Path} {V : V} {t' : Ty} {y : t'.den} {o' : Ow} (k : at_ s l p = some (V, ⟨t', y⟩, o')) {cs d : List Value} {O' : Nat → Prop} (h : At c g s a w l p V t' y o' cs d O') (hl : o'.live = true)
    (hv : validL s V.lend = true) (hF : ∀ e ∈ V.lend, e.2 ≤ (s e.1).v) : New c g s a w (mkV t' d) (fun _ => False) (.val ⟨t', .z, y, (l, (s l).v) :: V.lend, 0⟩ (some (l, p, (s l).v))) := by
  obtain ⟨⟨org, ht⟩, _⟩ := content_some (at_some k).1
  refine ⟨⟨?_, Nat.le_refl _⟩, fun _ => ⟨d, rfl, ?_, by simp, ?_⟩⟩
  · intro e he
    rcases List.mem_cons.1 he with rfl | he
    · exact Nat.le_refl _
    · exact hF e he
  · refine (h.rp.freeze hl).mono (fun b hb => ?_) (fun _ h => h)
    rcases hb with (hb | ⟨e, he, hb⟩) | hb
    · exact .inl hb
    · exact .inr ⟨e, List.mem_cons_of_mem _ he, hb⟩
    · exact .inr ⟨_, List.mem_cons_self, h.sub b hb⟩
  · exact fun _ => ⟨cs, V, org, ht, h.cells, h.len, h.nav⟩
/-- A part of a place's own is taken out: the place has it no more. -/
theorem takeAt (r : RelG c g s a w) {l : Loc} {p : Path} {V : V} {t' : Ty} {y : t'.den} {o' od : Ow} (hp : p.flat = true) (k : at_ s l p = some (V, ⟨t', y⟩, o')) (ho : setO V.o p .dead = some od) :
    ∃ g1 Oc cs d, RelG c g1 (upds s [bump s l (.val { V with o := od, tag := 0 } none)]) a w ∧ Evo (· = l) g s a w g1 (upds s [bump s l (.val { V with o := od, tag := 0 } none)]) a w ∧ g1.G = g.G ∧ g1.Bk = g.Bk ∧ g1.CV = g.CV ∧ (∀ l b, g1.O l b → g.O l b) ∧
      Cells g a w l cs ∧ cs.length = V.t.size ∧ NavC w (g.O l) V.t cs p d ∧ Rp w (Sof g V.lend) t' o' y d Oc ∧ (∀ b, Oc b → g.O l b) ∧ Loose c g1 w Oc := by
  obtain ⟨h1, h2, h3⟩ := at_some k
  obtain ⟨cs, Oc, k1, k2, k3, k4, k5, k6, k7, k8⟩ := content_new r h1
  obtain ⟨⟨org, ht⟩, hval⟩ := content_some h1
  obtain ⟨d, hn⟩ := navC_flat (Q := g.O l) (w := w) hp h2 k3.len
  have hs := getP_setP hp h2
  obtain ⟨Oi, i1, i2, i3, i4⟩ := k3.set (w2 := w) (S2 := Sof g V.lend) (d := d) (fun _ h => h) (fun b hb ho => k8 b hb (k5 b ho).1) hn hs ho
  have hd := i2 _ _ h2 h3
  have hdd : Rp w (Sof g V.lend) t' .dead y d (fun _ => False) := Rp.dead hd.len hd.one
  have hall := i4 none (fun _ => False) ⟨fun _ _ _ _ => rfl, fun hf => by rw [hp] at hf; cases hf⟩ hdd rfl (fun _ h => h.elim)
  rw [replC_same hn] at hall
  -- the new state
  let V2 : OM.V := { V with o := od, tag := 0 }
  have hst : upds s [bump s l (.val V2 none)] = upd s l ⟨.val V2 none, (s l).v + 1, (s l).hv + 1⟩ := rfl
  let g1 : Ghost := { g with O := fun m => if m = l then (fun b => g.O l b ∧ ¬ Oi b) else g.O m }
  have e : Evo (· = l) g s a w g1 (upds s [bump s l (.val V2 none)]) a w := by
    rw [hst]
    refine { st := fun m hm => upd_ne hm, up := fun m hm => ?_, O := fun m hm => if_neg hm, Bk := fun _ _ => rfl, val := fun _ _ => rfl, CV := fun _ _ _ _ _ => rfl, G := fun _ h => h, heap := fun _ _ => rfl, refs := ?_ }
    · subst hm; rw [upd_self]; exact ⟨Nat.lt_succ_self _, Nat.le_succ _⟩
    · intro m hm _ W org' cs' p' b off v hv iv hW hc hl hna hvl hle hle2
      subst hm
      rw [ht] at hW
      cases hW
      have hf : p'.flat = true := by
        simp only [validR, Bool.and_eq_true, Bool.or_eq_true, beq_eq] at hvl
        rcases hvl.2 with hf | ⟨he, _⟩
        · exact hf
        · rw [upd_self] at he; simp only at he; omega
      rw [upd_self]
      exact ⟨V2, none, cs', ⟨rfl, rfl⟩, hc, hl, NavA.flat_any hf hna⟩
  have lt : (s l).v ≤ (upds s [bump s l (.val V2 none)] l).v := Nat.le_of_lt (e.up l rfl).1
  have hbk : l % 4 = 1 → g.O l (g.Bk l) ∧ Box w (g.Bk l) V.t.size := fun h4 => r.boxes l V org h4 ht
  have hbo : l % 4 = 1 → ¬ Oi (g.Bk l) := fun h4 hb => (k5 _ (i1 _ hb)).2 h4 rfl
  have rel : RelG c g1 (upds s [bump s l (.val V2 none)]) a w := by
    refine e.rel r (Grow.refl w) r.gin (fun _ _ => .inl rfl) ?_ ?_ ?_ r.gsz ?_ r.fr r.defs r.size ?_ ?_ ?_
    · intro m m' b hm hm'
      have h1 : g.O m b := by by_cases he : m = l; (subst he; simp only [g1, if_true] at hm; exact hm.1); (simp only [g1, if_neg he] at hm; exact hm)
      have h2 : g.O m' b := by by_cases he : m' = l; (subst he; simp only [g1, if_true] at hm'; exact hm'.1); (simp only [g1, if_neg he] at hm'; exact hm')
      exact r.disj _ _ b h1 h2
    · intro m b hm
      have h1 : g.O m b := by by_cases he : m = l; (subst he; simp only [g1, if_true] at hm; exact hm.1); (simp only [g1, if_neg he] at hm; exact hm)
      exact r.ownG _ b h1
    · intro m b hm hb
      subst hm
      simp only [g1, if_true] at hb
      exact r.own _ b hb.1
    · intro m W org' hm h4 hW
      subst hm
      rw [hst, upd_self] at hW
      cases hW
      obtain ⟨b1, b2⟩ := hbk h4
      refine ⟨?_, b2⟩
      simp only [g1, if_true]; exact ⟨b1, hbo h4⟩
    · intro m hm; subst hm
      rw [hst, upd_self]
      exact ⟨fun x hx => by
        have := k6 x hx
        rw [upd_ne (k7 x hx)]; exact this, trivial⟩
    · intro m hm; subst hm
      rw [hst, upd_self]
      intro x hx hxl
      exact absurd hxl (k7 x hx)
    · intro m hm; subst hm
      rw [hst, upd_self]
      intro hv'
      refine ⟨cs, fun b => (Oc b ∧ ¬ Oi b) ∨ False, k1, k2, ⟨?_, by simp [V2], trivial⟩, ?_⟩
      · refine hall.mono (fun b hb => ?_) (fun _ h => h)
        rcases hb with hb | ⟨x, hx, hb⟩
        · exact .inl hb
        · exact .inr ⟨x, hx, by simp only [g1, if_neg (k7 x hx)]; exact hb⟩
      · rintro b (hb | hb)
        · simp only [g1, if_true]
          exact ⟨⟨(k5 b hb.1).1, hb.2⟩, (k5 b hb.1).2⟩
        · exact hb.elim
  refine ⟨g1, Oi, cs, d, rel, e, rfl, rfl, rfl, ?_, k1, k3.len, hn, hd, fun b hb => (k5 b (i1 b hb)).1, ?_⟩
  · intro m b hm
    by_cases he : m = l
    · subst he; simp only [g1, if_true] at hm; exact hm.1
    · simp only [g1, if_neg he] at hm; exact hm
  · intro b hb
    have := (k5 b (i1 b hb)).1
    refine ⟨r.ownG _ b this, fun m hm => ?_, r.own _ b this⟩
    by_cases he : m = l
    · subst he; simp only [g1, if_true] at hm; exact hm.2 hb
    · simp only [g1, if_neg he] at hm; exact he (r.disj _ _ b hm this)
end
end Go.OM

