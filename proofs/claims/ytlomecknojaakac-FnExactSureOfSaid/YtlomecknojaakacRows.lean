/-
  No cell of these rows narrows 'for every input' (looked for: loops, veiled, ifaces, maps, wideKeys, modest, calm, conditions, laid).
  DERIVED. THE GIVEN ROWS OF THIS SEAT. 6 by the template 'for every input the law returns true; each argument reads behind the call as it read before'; 0 by the template 'total and deterministic' (their statements: YtlomecknojaakacTotals.lean).
  GIVEN WITH THE SEED: the statements are not yours to turn. If you find one false, say at which input.
  Laid BY PROGRAM, IN A SANDBOX (cutbox-rows.mjs): the forced cells as the released guide's own fill.sh prints them over the translation 0470c47cc4c33baf… (all of the seat's roots in one cut). By AI agents, Wed Nov 11 2026. No macro, syntax, notation, axiom, sorry.
-/
import Derived.Test.YtlomecknojaakacChecked
import GoSem.Claim
import GoSem.ClaimJoined
import GoSem.ClaimMapViews
import Derived.JoinedTies
import Derived.KernelRfl
namespace Go.Proofs.Ytlomecknojaakac
/- THE CELL 'sum', in the pinned program and in every row, IS THE sha256 OF THE DUMP (.gsa) THAT YtlomecknojaakacProg.lean LOADS. Nothing in Lean hashes anything: it is a label: what it is worth is what the hold of that sum in a sandbox is worth. -/
noncomputable def Try.pinned : Pinned := { name := "ytlomecknojaakac", sum := "0470c47cc4c33bafc8a3c74c046781edab0100f7f6cce7bd118dcf1d7976b914", checked := Try.checked }
namespace Rows
def none {H : Type} : Left H := { results := [], args := [] }

/-- 'laws.FnReader': WHATEVER THE INPUT: true; the input reads as it did. -/
def fnReaderSpec : ChangeSpec := { name := "fnReader", fn := fun _ => fun
  | [d] => { results := [.lit (.bool true)], args := [d] }
  | _ => none }
def fnReaderRow : OpenClaim := { program := "ytlomecknojaakac", sum := "0470c47cc4c33bafc8a3c74c046781edab0100f7f6cce7bd118dcf1d7976b914", func := "loop.example/g00178/laws.FnReader", spec := "fnReader", unfollowed := true, recurses := true, apart := false }
def FnReaderSaid : Prop := fnReaderRow.holds Try.pinned (OpenSpec.ofChange fnReaderSpec)

/-- ITS FALSE NEIGHBOUR: 'it returns false'. Refute it at one input. -/
def fnReaderWrong : ChangeSpec := { name := "fnReader", fn := fun _ => fun
  | [d] => { results := [.lit (.bool false)], args := [d] }
  | _ => none }
def FnReaderWrongFalsely : Prop := fnReaderRow.holds Try.pinned (OpenSpec.ofChange fnReaderWrong)

/-- 'laws.FnExactMendAck': WHATEVER THE INPUT: true; the input reads as it did. -/
def fnExactMendAckSpec : ChangeSpec := { name := "fnExactMendAck", fn := fun _ => fun
  | [d1, d2, d3, d4] => { results := [.lit (.bool true)], args := [d1, d2, d3, d4] }
  | _ => none }
def fnExactMendAckRow : OpenClaim := { program := "ytlomecknojaakac", sum := "0470c47cc4c33bafc8a3c74c046781edab0100f7f6cce7bd118dcf1d7976b914", func := "loop.example/g00178/laws.FnExactMendAck", spec := "fnExactMendAck", inPlace := ["slices.overlaps[int]"], apart := false }
def FnExactMendAckSaid : Prop := fnExactMendAckRow.holds Try.pinned (OpenSpec.ofChange fnExactMendAckSpec)

/-- ITS FALSE NEIGHBOUR: 'it returns false'. Refute it at one input. -/
def fnExactMendAckWrong : ChangeSpec := { name := "fnExactMendAck", fn := fun _ => fun
  | [d1, d2, d3, d4] => { results := [.lit (.bool false)], args := [d1, d2, d3, d4] }
  | _ => none }
def FnExactMendAckWrongFalsely : Prop := fnExactMendAckRow.holds Try.pinned (OpenSpec.ofChange fnExactMendAckWrong)

/-- 'laws.FnExactFill': WHATEVER THE INPUT: true; the input reads as it did. -/
def fnExactFillSpec : ChangeSpec := { name := "fnExactFill", fn := fun _ => fun
  | [d1, d2, d3, d4, d5] => { results := [.lit (.bool true)], args := [d1, d2, d3, d4, d5] }
  | _ => none }
def fnExactFillRow : OpenClaim := { program := "ytlomecknojaakac", sum := "0470c47cc4c33bafc8a3c74c046781edab0100f7f6cce7bd118dcf1d7976b914", func := "loop.example/g00178/laws.FnExactFill", spec := "fnExactFill", inPlace := ["slices.overlaps[loop.example/g00178/impl.Entry]"], unfollowed := true, recurses := true, apart := false }
def FnExactFillSaid : Prop := fnExactFillRow.holds Try.pinned (OpenSpec.ofChange fnExactFillSpec)

/-- ITS FALSE NEIGHBOUR: 'it returns false'. Refute it at one input. -/
def fnExactFillWrong : ChangeSpec := { name := "fnExactFill", fn := fun _ => fun
  | [d1, d2, d3, d4, d5] => { results := [.lit (.bool false)], args := [d1, d2, d3, d4, d5] }
  | _ => none }
def FnExactFillWrongFalsely : Prop := fnExactFillRow.holds Try.pinned (OpenSpec.ofChange fnExactFillWrong)

/-- 'laws.FnExactMendSeal': WHATEVER THE INPUT: true; the input reads as it did. -/
def fnExactMendSealSpec : ChangeSpec := { name := "fnExactMendSeal", fn := fun _ => fun
  | [d1, d2, d3, d4] => { results := [.lit (.bool true)], args := [d1, d2, d3, d4] }
  | _ => none }
def fnExactMendSealRow : OpenClaim := { program := "ytlomecknojaakac", sum := "0470c47cc4c33bafc8a3c74c046781edab0100f7f6cce7bd118dcf1d7976b914", func := "loop.example/g00178/laws.FnExactMendSeal", spec := "fnExactMendSeal", inPlace := ["slices.overlaps[int]", "slices.overlaps[loop.example/g00178/impl.Entry]"], unfollowed := true, recurses := true, apart := false }
def FnExactMendSealSaid : Prop := fnExactMendSealRow.holds Try.pinned (OpenSpec.ofChange fnExactMendSealSpec)

/-- ITS FALSE NEIGHBOUR: 'it returns false'. Refute it at one input. -/
def fnExactMendSealWrong : ChangeSpec := { name := "fnExactMendSeal", fn := fun _ => fun
  | [d1, d2, d3, d4] => { results := [.lit (.bool false)], args := [d1, d2, d3, d4] }
  | _ => none }
def FnExactMendSealWrongFalsely : Prop := fnExactMendSealRow.holds Try.pinned (OpenSpec.ofChange fnExactMendSealWrong)

/-- 'laws.FnExactSureOf': WHATEVER THE INPUT: true; the input reads as it did. -/
def fnExactSureOfSpec : ChangeSpec := { name := "fnExactSureOf", fn := fun _ => fun
  | [d1, d2] => { results := [.lit (.bool true)], args := [d1, d2] }
  | _ => none }
def fnExactSureOfRow : OpenClaim := { program := "ytlomecknojaakac", sum := "0470c47cc4c33bafc8a3c74c046781edab0100f7f6cce7bd118dcf1d7976b914", func := "loop.example/g00178/laws.FnExactSureOf", spec := "fnExactSureOf", apart := false }
def FnExactSureOfSaid : Prop := fnExactSureOfRow.holds Try.pinned (OpenSpec.ofChange fnExactSureOfSpec)

/-- ITS FALSE NEIGHBOUR: 'it returns false'. Refute it at one input. -/
def fnExactSureOfWrong : ChangeSpec := { name := "fnExactSureOf", fn := fun _ => fun
  | [d1, d2] => { results := [.lit (.bool false)], args := [d1, d2] }
  | _ => none }
def FnExactSureOfWrongFalsely : Prop := fnExactSureOfRow.holds Try.pinned (OpenSpec.ofChange fnExactSureOfWrong)

/-- 'laws.FnExactReaderNext': WHATEVER THE INPUT: true; the input reads as it did. -/
def fnExactReaderNextSpec : ChangeSpec := { name := "fnExactReaderNext", fn := fun _ => fun
  | [d1, d2, d3, d4, d5] => { results := [.lit (.bool true)], args := [d1, d2, d3, d4, d5] }
  | _ => none }
def fnExactReaderNextRow : OpenClaim := { program := "ytlomecknojaakac", sum := "0470c47cc4c33bafc8a3c74c046781edab0100f7f6cce7bd118dcf1d7976b914", func := "loop.example/g00178/laws.FnExactReaderNext", spec := "fnExactReaderNext", unfollowed := true, recurses := true, apart := false }
def FnExactReaderNextSaid : Prop := fnExactReaderNextRow.holds Try.pinned (OpenSpec.ofChange fnExactReaderNextSpec)

/-- ITS FALSE NEIGHBOUR: 'it returns false'. Refute it at one input. -/
def fnExactReaderNextWrong : ChangeSpec := { name := "fnExactReaderNext", fn := fun _ => fun
  | [d1, d2, d3, d4, d5] => { results := [.lit (.bool false)], args := [d1, d2, d3, d4, d5] }
  | _ => none }
def FnExactReaderNextWrongFalsely : Prop := fnExactReaderNextRow.holds Try.pinned (OpenSpec.ofChange fnExactReaderNextWrong)

/- THE SECOND FORM. 'bulk': how many values and letters a reading holds, each counted each time it is reached (what is shared counts as often as it is met; a slice's spare places count too). A statement '..UptoSaid' is the law's where the arguments, and the package variables that the reading takes, are together of bulk at most 1048576: NARROWER than '..Said'. Prove '..Said' where nothing that the law and all that it calls make is longer than what came in: it says more and counts as full. Else prove '..UptoSaid'. A law counts once. -/
mutual
def uptoBulk {H : Type} : DataW H → Nat
  | .lit (.string bytes) => bytes.length + 1
  | .lit _ => 1
  | .nil => 1
  | .ptr d => uptoBulk d + 1
  | .slice elems spare => uptoBulkAll elems + uptoBulkAll spare + 1
  | .agg parts => uptoBulkAll parts + 1
  | .iface _ d => uptoBulk d + 1
  | .map entries => uptoBulkEntries entries + 1
  | .held _ => 1
def uptoBulkAll {H : Type} : List (DataW H) → Nat
  | [] => 0
  | d :: r => uptoBulk d + uptoBulkAll r
def uptoBulkEntries {H : Type} : List (Lit × DataW H) → Nat
  | [] => 0
  | x :: r => uptoBulkEntry x + uptoBulkEntries r
def uptoBulkEntry {H : Type} : Lit × DataW H → Nat
  | (.string bytes, d) => bytes.length + uptoBulk d + 1
  | (_, d) => uptoBulk d + 1
 end
def uptoSmall : (H : Type) → List (DataW H) → Bool := fun _ ds => decide (uptoBulkAll ds ≤ 1048576)
def OpenSpec.upto (s : _root_.Go.ChangeSpec) : _root_.Go.OpenSpec := { _root_.Go.OpenSpec.ofChange s with cond := some uptoSmall }

/-- 'laws.FnReader', WHERE WHAT IT READS IS OF BULK AT MOST 1048576: true; the input reads as it did. -/
def fnReaderUptoRow : OpenClaim := { program := "ytlomecknojaakac", sum := "0470c47cc4c33bafc8a3c74c046781edab0100f7f6cce7bd118dcf1d7976b914", func := "loop.example/g00178/laws.FnReader", spec := "fnReader", unfollowed := true, recurses := true, apart := false, narrowed := true }
def FnReaderUptoSaid : Prop := fnReaderUptoRow.holds Try.pinned (OpenSpec.upto fnReaderSpec)

/-- 'laws.FnExactMendAck', WHERE WHAT IT READS IS OF BULK AT MOST 1048576: true; the input reads as it did. -/
def fnExactMendAckUptoRow : OpenClaim := { program := "ytlomecknojaakac", sum := "0470c47cc4c33bafc8a3c74c046781edab0100f7f6cce7bd118dcf1d7976b914", func := "loop.example/g00178/laws.FnExactMendAck", spec := "fnExactMendAck", inPlace := ["slices.overlaps[int]"], apart := false, narrowed := true }
def FnExactMendAckUptoSaid : Prop := fnExactMendAckUptoRow.holds Try.pinned (OpenSpec.upto fnExactMendAckSpec)

/-- 'laws.FnExactFill', WHERE WHAT IT READS IS OF BULK AT MOST 1048576: true; the input reads as it did. -/
def fnExactFillUptoRow : OpenClaim := { program := "ytlomecknojaakac", sum := "0470c47cc4c33bafc8a3c74c046781edab0100f7f6cce7bd118dcf1d7976b914", func := "loop.example/g00178/laws.FnExactFill", spec := "fnExactFill", inPlace := ["slices.overlaps[loop.example/g00178/impl.Entry]"], unfollowed := true, recurses := true, apart := false, narrowed := true }
def FnExactFillUptoSaid : Prop := fnExactFillUptoRow.holds Try.pinned (OpenSpec.upto fnExactFillSpec)

/-- 'laws.FnExactMendSeal', WHERE WHAT IT READS IS OF BULK AT MOST 1048576: true; the input reads as it did. -/
def fnExactMendSealUptoRow : OpenClaim := { program := "ytlomecknojaakac", sum := "0470c47cc4c33bafc8a3c74c046781edab0100f7f6cce7bd118dcf1d7976b914", func := "loop.example/g00178/laws.FnExactMendSeal", spec := "fnExactMendSeal", inPlace := ["slices.overlaps[int]", "slices.overlaps[loop.example/g00178/impl.Entry]"], unfollowed := true, recurses := true, apart := false, narrowed := true }
def FnExactMendSealUptoSaid : Prop := fnExactMendSealUptoRow.holds Try.pinned (OpenSpec.upto fnExactMendSealSpec)

/-- 'laws.FnExactSureOf', WHERE WHAT IT READS IS OF BULK AT MOST 1048576: true; the input reads as it did. -/
def fnExactSureOfUptoRow : OpenClaim := { program := "ytlomecknojaakac", sum := "0470c47cc4c33bafc8a3c74c046781edab0100f7f6cce7bd118dcf1d7976b914", func := "loop.example/g00178/laws.FnExactSureOf", spec := "fnExactSureOf", apart := false, narrowed := true }
def FnExactSureOfUptoSaid : Prop := fnExactSureOfUptoRow.holds Try.pinned (OpenSpec.upto fnExactSureOfSpec)

/-- 'laws.FnExactReaderNext', WHERE WHAT IT READS IS OF BULK AT MOST 1048576: true; the input reads as it did. -/
def fnExactReaderNextUptoRow : OpenClaim := { program := "ytlomecknojaakac", sum := "0470c47cc4c33bafc8a3c74c046781edab0100f7f6cce7bd118dcf1d7976b914", func := "loop.example/g00178/laws.FnExactReaderNext", spec := "fnExactReaderNext", unfollowed := true, recurses := true, apart := false, narrowed := true }
def FnExactReaderNextUptoSaid : Prop := fnExactReaderNextUptoRow.holds Try.pinned (OpenSpec.upto fnExactReaderNextSpec)

end Rows
end Go.Proofs.Ytlomecknojaakac
