/-
  No cell of these rows narrows 'for every input' (looked for: loops, veiled, ifaces, maps, wideKeys, modest, calm, conditions, laid).
  DERIVED. THE GIVEN ROWS OF THIS SEAT. 5 by the template 'for every input the law returns true; each argument reads behind the call as it read before'; 0 by the template 'total and deterministic' (their statements: YthgnikafeamidabTotals.lean).
  GIVEN WITH THE SEED: the statements are not yours to turn. If you find one false, say at which input.
  Laid BY PROGRAM, IN A SANDBOX (cutbox-rows.mjs): the forced cells as the released guide's own fill.sh prints them over the translation c314648cedad5b59… (all of the seat's roots in one cut). By AI agents, Wed Nov 11 2026. No macro, syntax, notation, axiom, sorry.
-/
import Derived.Test.YthgnikafeamidabChecked
import GoSem.Claim
import GoSem.ClaimJoined
import GoSem.ClaimMapViews
import Derived.JoinedTies
import Derived.KernelRfl
namespace Go.Proofs.Ythgnikafeamidab
/- THE CELL 'sum', in the pinned program and in every row, IS THE sha256 OF THE DUMP (.gsa) THAT YthgnikafeamidabProg.lean LOADS. Nothing in Lean hashes anything: it is a label: what it is worth is what the hold of that sum in a sandbox is worth. -/
noncomputable def Try.pinned : Pinned := { name := "ythgnikafeamidab", sum := "c314648cedad5b59f6a3fbbcf5ee9d62106dfee0900caf8a60339de62428688a", checked := Try.checked }
namespace Rows
def none {H : Type} : Left H := { results := [], args := [] }

/-- 'laws.FnSealing': WHATEVER THE INPUT: true; the input reads as it did. -/
def fnSealingSpec : ChangeSpec := { name := "fnSealing", fn := fun _ => fun
  | [d] => { results := [.lit (.bool true)], args := [d] }
  | _ => none }
def fnSealingRow : OpenClaim := { program := "ythgnikafeamidab", sum := "c314648cedad5b59f6a3fbbcf5ee9d62106dfee0900caf8a60339de62428688a", func := "loop.example/g00178/laws.FnSealing", spec := "fnSealing", inPlace := ["slices.overlaps[int]", "slices.overlaps[loop.example/g00178/impl.Entry]"], unfollowed := true, recurses := true, apart := false }
def FnSealingSaid : Prop := fnSealingRow.holds Try.pinned (OpenSpec.ofChange fnSealingSpec)

/-- ITS FALSE NEIGHBOUR: 'it returns false'. Refute it at one input. -/
def fnSealingWrong : ChangeSpec := { name := "fnSealing", fn := fun _ => fun
  | [d] => { results := [.lit (.bool false)], args := [d] }
  | _ => none }
def FnSealingWrongFalsely : Prop := fnSealingRow.holds Try.pinned (OpenSpec.ofChange fnSealingWrong)

/-- 'laws.FnMendAck': WHATEVER THE INPUT: true; the input reads as it did. -/
def fnMendAckSpec : ChangeSpec := { name := "fnMendAck", fn := fun _ => fun
  | [d] => { results := [.lit (.bool true)], args := [d] }
  | _ => none }
def fnMendAckRow : OpenClaim := { program := "ythgnikafeamidab", sum := "c314648cedad5b59f6a3fbbcf5ee9d62106dfee0900caf8a60339de62428688a", func := "loop.example/g00178/laws.FnMendAck", spec := "fnMendAck", inPlace := ["slices.overlaps[int]"], unfollowed := true, recurses := true, apart := false }
def FnMendAckSaid : Prop := fnMendAckRow.holds Try.pinned (OpenSpec.ofChange fnMendAckSpec)

/-- ITS FALSE NEIGHBOUR: 'it returns false'. Refute it at one input. -/
def fnMendAckWrong : ChangeSpec := { name := "fnMendAck", fn := fun _ => fun
  | [d] => { results := [.lit (.bool false)], args := [d] }
  | _ => none }
def FnMendAckWrongFalsely : Prop := fnMendAckRow.holds Try.pinned (OpenSpec.ofChange fnMendAckWrong)

/-- 'laws.FnTells': WHATEVER THE INPUT: true; the input reads as it did. -/
def fnTellsSpec : ChangeSpec := { name := "fnTells", fn := fun _ => fun
  | [d] => { results := [.lit (.bool true)], args := [d] }
  | _ => none }
def fnTellsRow : OpenClaim := { program := "ythgnikafeamidab", sum := "c314648cedad5b59f6a3fbbcf5ee9d62106dfee0900caf8a60339de62428688a", func := "loop.example/g00178/laws.FnTells", spec := "fnTells", unfollowed := true, recurses := true, apart := false }
def FnTellsSaid : Prop := fnTellsRow.holds Try.pinned (OpenSpec.ofChange fnTellsSpec)

/-- ITS FALSE NEIGHBOUR: 'it returns false'. Refute it at one input. -/
def fnTellsWrong : ChangeSpec := { name := "fnTells", fn := fun _ => fun
  | [d] => { results := [.lit (.bool false)], args := [d] }
  | _ => none }
def FnTellsWrongFalsely : Prop := fnTellsRow.holds Try.pinned (OpenSpec.ofChange fnTellsWrong)

/-- 'laws.FnReader': WHATEVER THE INPUT: true; the input reads as it did. -/
def fnReaderSpec : ChangeSpec := { name := "fnReader", fn := fun _ => fun
  | [d] => { results := [.lit (.bool true)], args := [d] }
  | _ => none }
def fnReaderRow : OpenClaim := { program := "ythgnikafeamidab", sum := "c314648cedad5b59f6a3fbbcf5ee9d62106dfee0900caf8a60339de62428688a", func := "loop.example/g00178/laws.FnReader", spec := "fnReader", unfollowed := true, recurses := true, apart := false }
def FnReaderSaid : Prop := fnReaderRow.holds Try.pinned (OpenSpec.ofChange fnReaderSpec)

/-- ITS FALSE NEIGHBOUR: 'it returns false'. Refute it at one input. -/
def fnReaderWrong : ChangeSpec := { name := "fnReader", fn := fun _ => fun
  | [d] => { results := [.lit (.bool false)], args := [d] }
  | _ => none }
def FnReaderWrongFalsely : Prop := fnReaderRow.holds Try.pinned (OpenSpec.ofChange fnReaderWrong)

/-- 'laws.FnExactReaderNext': WHATEVER THE INPUT: true; the input reads as it did. -/
def fnExactReaderNextSpec : ChangeSpec := { name := "fnExactReaderNext", fn := fun _ => fun
  | [d1, d2, d3, d4, d5] => { results := [.lit (.bool true)], args := [d1, d2, d3, d4, d5] }
  | _ => none }
def fnExactReaderNextRow : OpenClaim := { program := "ythgnikafeamidab", sum := "c314648cedad5b59f6a3fbbcf5ee9d62106dfee0900caf8a60339de62428688a", func := "loop.example/g00178/laws.FnExactReaderNext", spec := "fnExactReaderNext", unfollowed := true, recurses := true, apart := false }
def FnExactReaderNextSaid : Prop := fnExactReaderNextRow.holds Try.pinned (OpenSpec.ofChange fnExactReaderNextSpec)

/-- ITS FALSE NEIGHBOUR: 'it returns false'. Refute it at one input. -/
def fnExactReaderNextWrong : ChangeSpec := { name := "fnExactReaderNext", fn := fun _ => fun
  | [d1, d2, d3, d4, d5] => { results := [.lit (.bool false)], args := [d1, d2, d3, d4, d5] }
  | _ => none }
def FnExactReaderNextWrongFalsely : Prop := fnExactReaderNextRow.holds Try.pinned (OpenSpec.ofChange fnExactReaderNextWrong)

/- THE SECOND FORM. 'bulk': how many values and letters a reading holds, each counted each time it is reached (what is shared counts as often as it is met; a slice's spare places count too). A statement '..UptoSaid' is the law's where the arguments, and the package variables that the reading takes, are together of bulk at most 1048576: NARROWER than '..Said'. Prove '..Said' where nothing that the law and all that it calls make is longer than what came in: it says more and counts as full. Else prove '..UptoSaid'. A law counts once. -/
mutual
def uptoBulk {H : Type} : DataW H → Nat
  | .lit (.string bytes) => bytes.length + 1
  | .lit _ => 1
  | .nil => 1
  | .ptr d => uptoBulk d + 1
  | .slice elems spare => uptoBulkAll elems + uptoBulkAll spare + 1
  | .agg parts => uptoBulkAll parts + 1
  | .iface _ d => uptoBulk d + 1
  | .map entries => uptoBulkEntries entries + 1
  | .held _ => 1
def uptoBulkAll {H : Type} : List (DataW H) → Nat
  | [] => 0
  | d :: r => uptoBulk d + uptoBulkAll r
def uptoBulkEntries {H : Type} : List (Lit × DataW H) → Nat
  | [] => 0
  | x :: r => uptoBulkEntry x + uptoBulkEntries r
def uptoBulkEntry {H : Type} : Lit × DataW H → Nat
  | (.string bytes, d) => bytes.length + uptoBulk d + 1
  | (_, d) => uptoBulk d + 1
 end
def uptoSmall : (H : Type) → List (DataW H) → Bool := fun _ ds => decide (uptoBulkAll ds ≤ 1048576)
def OpenSpec.upto (s : _root_.Go.ChangeSpec) : _root_.Go.OpenSpec := { _root_.Go.OpenSpec.ofChange s with cond := some uptoSmall }

/-- 'laws.FnSealing', WHERE WHAT IT READS IS OF BULK AT MOST 1048576: true; the input reads as it did. -/
def fnSealingUptoRow : OpenClaim := { program := "ythgnikafeamidab", sum := "c314648cedad5b59f6a3fbbcf5ee9d62106dfee0900caf8a60339de62428688a", func := "loop.example/g00178/laws.FnSealing", spec := "fnSealing", inPlace := ["slices.overlaps[int]", "slices.overlaps[loop.example/g00178/impl.Entry]"], unfollowed := true, recurses := true, apart := false, narrowed := true }
def FnSealingUptoSaid : Prop := fnSealingUptoRow.holds Try.pinned (OpenSpec.upto fnSealingSpec)

/-- 'laws.FnMendAck', WHERE WHAT IT READS IS OF BULK AT MOST 1048576: true; the input reads as it did. -/
def fnMendAckUptoRow : OpenClaim := { program := "ythgnikafeamidab", sum := "c314648cedad5b59f6a3fbbcf5ee9d62106dfee0900caf8a60339de62428688a", func := "loop.example/g00178/laws.FnMendAck", spec := "fnMendAck", inPlace := ["slices.overlaps[int]"], unfollowed := true, recurses := true, apart := false, narrowed := true }
def FnMendAckUptoSaid : Prop := fnMendAckUptoRow.holds Try.pinned (OpenSpec.upto fnMendAckSpec)

/-- 'laws.FnTells', WHERE WHAT IT READS IS OF BULK AT MOST 1048576: true; the input reads as it did. -/
def fnTellsUptoRow : OpenClaim := { program := "ythgnikafeamidab", sum := "c314648cedad5b59f6a3fbbcf5ee9d62106dfee0900caf8a60339de62428688a", func := "loop.example/g00178/laws.FnTells", spec := "fnTells", unfollowed := true, recurses := true, apart := false, narrowed := true }
def FnTellsUptoSaid : Prop := fnTellsUptoRow.holds Try.pinned (OpenSpec.upto fnTellsSpec)

/-- 'laws.FnReader', WHERE WHAT IT READS IS OF BULK AT MOST 1048576: true; the input reads as it did. -/
def fnReaderUptoRow : OpenClaim := { program := "ythgnikafeamidab", sum := "c314648cedad5b59f6a3fbbcf5ee9d62106dfee0900caf8a60339de62428688a", func := "loop.example/g00178/laws.FnReader", spec := "fnReader", unfollowed := true, recurses := true, apart := false, narrowed := true }
def FnReaderUptoSaid : Prop := fnReaderUptoRow.holds Try.pinned (OpenSpec.upto fnReaderSpec)

/-- 'laws.FnExactReaderNext', WHERE WHAT IT READS IS OF BULK AT MOST 1048576: true; the input reads as it did. -/
def fnExactReaderNextUptoRow : OpenClaim := { program := "ythgnikafeamidab", sum := "c314648cedad5b59f6a3fbbcf5ee9d62106dfee0900caf8a60339de62428688a", func := "loop.example/g00178/laws.FnExactReaderNext", spec := "fnExactReaderNext", unfollowed := true, recurses := true, apart := false, narrowed := true }
def FnExactReaderNextUptoSaid : Prop := fnExactReaderNextUptoRow.holds Try.pinned (OpenSpec.upto fnExactReaderNextSpec)

end Rows
end Go.Proofs.Ythgnikafeamidab
