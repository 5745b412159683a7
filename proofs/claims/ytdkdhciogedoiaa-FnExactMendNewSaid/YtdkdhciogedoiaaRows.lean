/-
  No cell of these rows narrows 'for every input' (looked for: loops, veiled, ifaces, maps, wideKeys, modest, calm, conditions, laid).
  DERIVED. THE GIVEN ROWS OF THIS SEAT. 6 by the template 'for every input the law returns true; each argument reads behind the call as it read before'; 0 by the template 'total and deterministic' (their statements: YtdkdhciogedoiaaTotals.lean).
  GIVEN WITH THE SEED: the statements are not yours to turn. If you find one false, say at which input.
  Laid BY PROGRAM, IN A SANDBOX (cutbox-rows.mjs): the forced cells as the released guide's own fill.sh prints them over the translation 42b9724ec82c0a34… (all of the seat's roots in one cut). By AI agents, Wed Nov 11 2026. No macro, syntax, notation, axiom, sorry.
-/
import Derived.Test.YtdkdhciogedoiaaChecked
import GoSem.Claim
import GoSem.ClaimJoined
import GoSem.ClaimMapViews
import Derived.JoinedTies
import Derived.KernelRfl
namespace Go.Proofs.Ytdkdhciogedoiaa
/- THE CELL 'sum', in the pinned program and in every row, IS THE sha256 OF THE DUMP (.gsa) THAT YtdkdhciogedoiaaProg.lean LOADS. Nothing in Lean hashes anything: it is a label: what it is worth is what the hold of that sum in a sandbox is worth. -/
noncomputable def Try.pinned : Pinned := { name := "ytdkdhciogedoiaa", sum := "42b9724ec82c0a34df05942868aea3a652c07e29c198d4052bb9311af62b3ae0", checked := Try.checked }
namespace Rows
def none {H : Type} : Left H := { results := [], args := [] }

/-- 'laws.FnExactEraNodes': WHATEVER THE INPUT: true; the input reads as it did. -/
def fnExactEraNodesSpec : ChangeSpec := { name := "fnExactEraNodes", fn := fun _ => fun
  | [d1, d2] => { results := [.lit (.bool true)], args := [d1, d2] }
  | _ => none }
def fnExactEraNodesRow : OpenClaim := { program := "ytdkdhciogedoiaa", sum := "42b9724ec82c0a34df05942868aea3a652c07e29c198d4052bb9311af62b3ae0", func := "loop.example/g00178/laws.FnExactEraNodes", spec := "fnExactEraNodes", apart := false }
def FnExactEraNodesSaid : Prop := fnExactEraNodesRow.holds Try.pinned (OpenSpec.ofChange fnExactEraNodesSpec)

/-- ITS FALSE NEIGHBOUR: 'it returns false'. Refute it at one input. -/
def fnExactEraNodesWrong : ChangeSpec := { name := "fnExactEraNodes", fn := fun _ => fun
  | [d1, d2] => { results := [.lit (.bool false)], args := [d1, d2] }
  | _ => none }
def FnExactEraNodesWrongFalsely : Prop := fnExactEraNodesRow.holds Try.pinned (OpenSpec.ofChange fnExactEraNodesWrong)

/-- 'laws.FnExactMendNew': WHATEVER THE INPUT: true; the input reads as it did. -/
def fnExactMendNewSpec : ChangeSpec := { name := "fnExactMendNew", fn := fun _ => fun
  | [d1, d2] => { results := [.lit (.bool true)], args := [d1, d2] }
  | _ => none }
def fnExactMendNewRow : OpenClaim := { program := "ytdkdhciogedoiaa", sum := "42b9724ec82c0a34df05942868aea3a652c07e29c198d4052bb9311af62b3ae0", func := "loop.example/g00178/laws.FnExactMendNew", spec := "fnExactMendNew", apart := false }
def FnExactMendNewSaid : Prop := fnExactMendNewRow.holds Try.pinned (OpenSpec.ofChange fnExactMendNewSpec)

/-- ITS FALSE NEIGHBOUR: 'it returns false'. Refute it at one input. -/
def fnExactMendNewWrong : ChangeSpec := { name := "fnExactMendNew", fn := fun _ => fun
  | [d1, d2] => { results := [.lit (.bool false)], args := [d1, d2] }
  | _ => none }
def FnExactMendNewWrongFalsely : Prop := fnExactMendNewRow.holds Try.pinned (OpenSpec.ofChange fnExactMendNewWrong)

/-- 'laws.FnSureTo': WHATEVER THE INPUT: true; the input reads as it did. -/
def fnSureToSpec : ChangeSpec := { name := "fnSureTo", fn := fun _ => fun
  | [d] => { results := [.lit (.bool true)], args := [d] }
  | _ => none }
def fnSureToRow : OpenClaim := { program := "ytdkdhciogedoiaa", sum := "42b9724ec82c0a34df05942868aea3a652c07e29c198d4052bb9311af62b3ae0", func := "loop.example/g00178/laws.FnSureTo", spec := "fnSureTo", apart := false }
def FnSureToSaid : Prop := fnSureToRow.holds Try.pinned (OpenSpec.ofChange fnSureToSpec)

/-- ITS FALSE NEIGHBOUR: 'it returns false'. Refute it at one input. -/
def fnSureToWrong : ChangeSpec := { name := "fnSureTo", fn := fun _ => fun
  | [d] => { results := [.lit (.bool false)], args := [d] }
  | _ => none }
def FnSureToWrongFalsely : Prop := fnSureToRow.holds Try.pinned (OpenSpec.ofChange fnSureToWrong)

/-- 'laws.FnExactMendEntry': WHATEVER THE INPUT: true; the input reads as it did. -/
def fnExactMendEntrySpec : ChangeSpec := { name := "fnExactMendEntry", fn := fun _ => fun
  | [d1, d2] => { results := [.lit (.bool true)], args := [d1, d2] }
  | _ => none }
def fnExactMendEntryRow : OpenClaim := { program := "ytdkdhciogedoiaa", sum := "42b9724ec82c0a34df05942868aea3a652c07e29c198d4052bb9311af62b3ae0", func := "loop.example/g00178/laws.FnExactMendEntry", spec := "fnExactMendEntry", apart := false }
def FnExactMendEntrySaid : Prop := fnExactMendEntryRow.holds Try.pinned (OpenSpec.ofChange fnExactMendEntrySpec)

/-- ITS FALSE NEIGHBOUR: 'it returns false'. Refute it at one input. -/
def fnExactMendEntryWrong : ChangeSpec := { name := "fnExactMendEntry", fn := fun _ => fun
  | [d1, d2] => { results := [.lit (.bool false)], args := [d1, d2] }
  | _ => none }
def FnExactMendEntryWrongFalsely : Prop := fnExactMendEntryRow.holds Try.pinned (OpenSpec.ofChange fnExactMendEntryWrong)

/-- 'laws.FnExactWriterOk': WHATEVER THE INPUT: true; the input reads as it did. -/
def fnExactWriterOkSpec : ChangeSpec := { name := "fnExactWriterOk", fn := fun _ => fun
  | [d1, d2] => { results := [.lit (.bool true)], args := [d1, d2] }
  | _ => none }
def fnExactWriterOkRow : OpenClaim := { program := "ytdkdhciogedoiaa", sum := "42b9724ec82c0a34df05942868aea3a652c07e29c198d4052bb9311af62b3ae0", func := "loop.example/g00178/laws.FnExactWriterOk", spec := "fnExactWriterOk", apart := false }
def FnExactWriterOkSaid : Prop := fnExactWriterOkRow.holds Try.pinned (OpenSpec.ofChange fnExactWriterOkSpec)

/-- ITS FALSE NEIGHBOUR: 'it returns false'. Refute it at one input. -/
def fnExactWriterOkWrong : ChangeSpec := { name := "fnExactWriterOk", fn := fun _ => fun
  | [d1, d2] => { results := [.lit (.bool false)], args := [d1, d2] }
  | _ => none }
def FnExactWriterOkWrongFalsely : Prop := fnExactWriterOkRow.holds Try.pinned (OpenSpec.ofChange fnExactWriterOkWrong)

/-- 'laws.FnPlanned': WHATEVER THE INPUT: true; the input reads as it did. -/
def fnPlannedSpec : ChangeSpec := { name := "fnPlanned", fn := fun _ => fun
  | [d] => { results := [.lit (.bool true)], args := [d] }
  | _ => none }
def fnPlannedRow : OpenClaim := { program := "ytdkdhciogedoiaa", sum := "42b9724ec82c0a34df05942868aea3a652c07e29c198d4052bb9311af62b3ae0", func := "loop.example/g00178/laws.FnPlanned", spec := "fnPlanned", unfollowed := true, recurses := true, apart := false }
def FnPlannedSaid : Prop := fnPlannedRow.holds Try.pinned (OpenSpec.ofChange fnPlannedSpec)

/-- ITS FALSE NEIGHBOUR: 'it returns false'. Refute it at one input. -/
def fnPlannedWrong : ChangeSpec := { name := "fnPlanned", fn := fun _ => fun
  | [d] => { results := [.lit (.bool false)], args := [d] }
  | _ => none }
def FnPlannedWrongFalsely : Prop := fnPlannedRow.holds Try.pinned (OpenSpec.ofChange fnPlannedWrong)

/- THE SECOND FORM. 'bulk': how many values and letters a reading holds, each counted each time it is reached (what is shared counts as often as it is met; a slice's spare places count too). A statement '..UptoSaid' is the law's where the arguments, and the package variables that the reading takes, are together of bulk at most 1048576: NARROWER than '..Said'. Prove '..Said' where nothing that the law and all that it calls make is longer than what came in: it says more and counts as full. Else prove '..UptoSaid'. A law counts once. -/
mutual
def uptoBulk {H : Type} : DataW H → Nat
  | .lit (.string bytes) => bytes.length + 1
  | .lit _ => 1
  | .nil => 1
  | .ptr d => uptoBulk d + 1
  | .slice elems spare => uptoBulkAll elems + uptoBulkAll spare + 1
  | .agg parts => uptoBulkAll parts + 1
  | .iface _ d => uptoBulk d + 1
  | .map entries => uptoBulkEntries entries + 1
  | .held _ => 1
def uptoBulkAll {H : Type} : List (DataW H) → Nat
  | [] => 0
  | d :: r => uptoBulk d + uptoBulkAll r
def uptoBulkEntries {H : Type} : List (Lit × DataW H) → Nat
  | [] => 0
  | x :: r => uptoBulkEntry x + uptoBulkEntries r
def uptoBulkEntry {H : Type} : Lit × DataW H → Nat
  | (.string bytes, d) => bytes.length + uptoBulk d + 1
  | (_, d) => uptoBulk d + 1
 end
def uptoSmall : (H : Type) → List (DataW H) → Bool := fun _ ds => decide (uptoBulkAll ds ≤ 1048576)
def OpenSpec.upto (s : _root_.Go.ChangeSpec) : _root_.Go.OpenSpec := { _root_.Go.OpenSpec.ofChange s with cond := some uptoSmall }

/-- 'laws.FnExactEraNodes', WHERE WHAT IT READS IS OF BULK AT MOST 1048576: true; the input reads as it did. -/
def fnExactEraNodesUptoRow : OpenClaim := { program := "ytdkdhciogedoiaa", sum := "42b9724ec82c0a34df05942868aea3a652c07e29c198d4052bb9311af62b3ae0", func := "loop.example/g00178/laws.FnExactEraNodes", spec := "fnExactEraNodes", apart := false, narrowed := true }
def FnExactEraNodesUptoSaid : Prop := fnExactEraNodesUptoRow.holds Try.pinned (OpenSpec.upto fnExactEraNodesSpec)

/-- 'laws.FnExactMendNew', WHERE WHAT IT READS IS OF BULK AT MOST 1048576: true; the input reads as it did. -/
def fnExactMendNewUptoRow : OpenClaim := { program := "ytdkdhciogedoiaa", sum := "42b9724ec82c0a34df05942868aea3a652c07e29c198d4052bb9311af62b3ae0", func := "loop.example/g00178/laws.FnExactMendNew", spec := "fnExactMendNew", apart := false, narrowed := true }
def FnExactMendNewUptoSaid : Prop := fnExactMendNewUptoRow.holds Try.pinned (OpenSpec.upto fnExactMendNewSpec)

/-- 'laws.FnSureTo', WHERE WHAT IT READS IS OF BULK AT MOST 1048576: true; the input reads as it did. -/
def fnSureToUptoRow : OpenClaim := { program := "ytdkdhciogedoiaa", sum := "42b9724ec82c0a34df05942868aea3a652c07e29c198d4052bb9311af62b3ae0", func := "loop.example/g00178/laws.FnSureTo", spec := "fnSureTo", apart := false, narrowed := true }
def FnSureToUptoSaid : Prop := fnSureToUptoRow.holds Try.pinned (OpenSpec.upto fnSureToSpec)

/-- 'laws.FnExactMendEntry', WHERE WHAT IT READS IS OF BULK AT MOST 1048576: true; the input reads as it did. -/
def fnExactMendEntryUptoRow : OpenClaim := { program := "ytdkdhciogedoiaa", sum := "42b9724ec82c0a34df05942868aea3a652c07e29c198d4052bb9311af62b3ae0", func := "loop.example/g00178/laws.FnExactMendEntry", spec := "fnExactMendEntry", apart := false, narrowed := true }
def FnExactMendEntryUptoSaid : Prop := fnExactMendEntryUptoRow.holds Try.pinned (OpenSpec.upto fnExactMendEntrySpec)

/-- 'laws.FnExactWriterOk', WHERE WHAT IT READS IS OF BULK AT MOST 1048576: true; the input reads as it did. -/
def fnExactWriterOkUptoRow : OpenClaim := { program := "ytdkdhciogedoiaa", sum := "42b9724ec82c0a34df05942868aea3a652c07e29c198d4052bb9311af62b3ae0", func := "loop.example/g00178/laws.FnExactWriterOk", spec := "fnExactWriterOk", apart := false, narrowed := true }
def FnExactWriterOkUptoSaid : Prop := fnExactWriterOkUptoRow.holds Try.pinned (OpenSpec.upto fnExactWriterOkSpec)

/-- 'laws.FnPlanned', WHERE WHAT IT READS IS OF BULK AT MOST 1048576: true; the input reads as it did. -/
def fnPlannedUptoRow : OpenClaim := { program := "ytdkdhciogedoiaa", sum := "42b9724ec82c0a34df05942868aea3a652c07e29c198d4052bb9311af62b3ae0", func := "loop.example/g00178/laws.FnPlanned", spec := "fnPlanned", unfollowed := true, recurses := true, apart := false, narrowed := true }
def FnPlannedUptoSaid : Prop := fnPlannedUptoRow.holds Try.pinned (OpenSpec.upto fnPlannedSpec)

end Rows
end Go.Proofs.Ytdkdhciogedoiaa
