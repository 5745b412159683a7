/-
  No cell of these rows narrows 'for every input' (looked for: loops, veiled, ifaces, maps, wideKeys, modest, calm, conditions, laid).
  DERIVED. THE GIVEN ROWS OF THIS SEAT. 6 by the template 'for every input the law returns true; each argument reads behind the call as it read before'; 0 by the template 'total and deterministic' (their statements: YtllmifioelbleaaTotals.lean).
  GIVEN WITH THE SEED: the statements are not yours to turn. If you find one false, say at which input.
  Laid BY PROGRAM, IN A SANDBOX (cutbox-rows.mjs): the forced cells as the released guide's own fill.sh prints them over the translation 78395b6a9f093a21… (all of the seat's roots in one cut). By AI agents, Wed Nov 11 2026. No macro, syntax, notation, axiom, sorry.
-/
import Derived.Test.YtllmifioelbleaaChecked
import GoSem.Claim
import GoSem.ClaimJoined
import GoSem.ClaimMapViews
import Derived.JoinedTies
import Derived.KernelRfl
namespace Go.Proofs.Ytllmifioelbleaa
/- THE CELL 'sum', in the pinned program and in every row, IS THE sha256 OF THE DUMP (.gsa) THAT YtllmifioelbleaaProg.lean LOADS. Nothing in Lean hashes anything: it is a label: what it is worth is what the hold of that sum in a sandbox is worth. -/
noncomputable def Try.pinned : Pinned := { name := "ytllmifioelbleaa", sum := "78395b6a9f093a217ed4b9dfc28f56f1d25c9bead69dcee11631bbe553104721", checked := Try.checked }
namespace Rows
def none {H : Type} : Left H := { results := [], args := [] }

/-- 'laws.FnReady': WHATEVER THE INPUT: true; the input reads as it did. -/
def fnReadySpec : ChangeSpec := { name := "fnReady", fn := fun _ => fun
  | [d] => { results := [.lit (.bool true)], args := [d] }
  | _ => none }
def fnReadyRow : OpenClaim := { program := "ytllmifioelbleaa", sum := "78395b6a9f093a217ed4b9dfc28f56f1d25c9bead69dcee11631bbe553104721", func := "loop.example/g00178/laws.FnReady", spec := "fnReady", apart := false }
def FnReadySaid : Prop := fnReadyRow.holds Try.pinned (OpenSpec.ofChange fnReadySpec)

/-- ITS FALSE NEIGHBOUR: 'it returns false'. Refute it at one input. -/
def fnReadyWrong : ChangeSpec := { name := "fnReady", fn := fun _ => fun
  | [d] => { results := [.lit (.bool false)], args := [d] }
  | _ => none }
def FnReadyWrongFalsely : Prop := fnReadyRow.holds Try.pinned (OpenSpec.ofChange fnReadyWrong)

/-- 'laws.FnMendEntry': WHATEVER THE INPUT: true; the input reads as it did. -/
def fnMendEntrySpec : ChangeSpec := { name := "fnMendEntry", fn := fun _ => fun
  | [d] => { results := [.lit (.bool true)], args := [d] }
  | _ => none }
def fnMendEntryRow : OpenClaim := { program := "ytllmifioelbleaa", sum := "78395b6a9f093a217ed4b9dfc28f56f1d25c9bead69dcee11631bbe553104721", func := "loop.example/g00178/laws.FnMendEntry", spec := "fnMendEntry", apart := false }
def FnMendEntrySaid : Prop := fnMendEntryRow.holds Try.pinned (OpenSpec.ofChange fnMendEntrySpec)

/-- ITS FALSE NEIGHBOUR: 'it returns false'. Refute it at one input. -/
def fnMendEntryWrong : ChangeSpec := { name := "fnMendEntry", fn := fun _ => fun
  | [d] => { results := [.lit (.bool false)], args := [d] }
  | _ => none }
def FnMendEntryWrongFalsely : Prop := fnMendEntryRow.holds Try.pinned (OpenSpec.ofChange fnMendEntryWrong)

/-- 'laws.FnExactRegClose': WHATEVER THE INPUT: true; the input reads as it did. -/
def fnExactRegCloseSpec : ChangeSpec := { name := "fnExactRegClose", fn := fun _ => fun
  | [d1, d2, d3, d4] => { results := [.lit (.bool true)], args := [d1, d2, d3, d4] }
  | _ => none }
def fnExactRegCloseRow : OpenClaim := { program := "ytllmifioelbleaa", sum := "78395b6a9f093a217ed4b9dfc28f56f1d25c9bead69dcee11631bbe553104721", func := "loop.example/g00178/laws.FnExactRegClose", spec := "fnExactRegClose", apart := false }
def FnExactRegCloseSaid : Prop := fnExactRegCloseRow.holds Try.pinned (OpenSpec.ofChange fnExactRegCloseSpec)

/-- ITS FALSE NEIGHBOUR: 'it returns false'. Refute it at one input. -/
def fnExactRegCloseWrong : ChangeSpec := { name := "fnExactRegClose", fn := fun _ => fun
  | [d1, d2, d3, d4] => { results := [.lit (.bool false)], args := [d1, d2, d3, d4] }
  | _ => none }
def FnExactRegCloseWrongFalsely : Prop := fnExactRegCloseRow.holds Try.pinned (OpenSpec.ofChange fnExactRegCloseWrong)

/-- 'laws.FnClosed': WHATEVER THE INPUT: true; the input reads as it did. -/
def fnClosedSpec : ChangeSpec := { name := "fnClosed", fn := fun _ => fun
  | [d] => { results := [.lit (.bool true)], args := [d] }
  | _ => none }
def fnClosedRow : OpenClaim := { program := "ytllmifioelbleaa", sum := "78395b6a9f093a217ed4b9dfc28f56f1d25c9bead69dcee11631bbe553104721", func := "loop.example/g00178/laws.FnClosed", spec := "fnClosed", apart := false }
def FnClosedSaid : Prop := fnClosedRow.holds Try.pinned (OpenSpec.ofChange fnClosedSpec)

/-- ITS FALSE NEIGHBOUR: 'it returns false'. Refute it at one input. -/
def fnClosedWrong : ChangeSpec := { name := "fnClosed", fn := fun _ => fun
  | [d] => { results := [.lit (.bool false)], args := [d] }
  | _ => none }
def FnClosedWrongFalsely : Prop := fnClosedRow.holds Try.pinned (OpenSpec.ofChange fnClosedWrong)

/-- 'laws.FnStoreBytes': WHATEVER THE INPUT: true; the input reads as it did. -/
def fnStoreBytesSpec : ChangeSpec := { name := "fnStoreBytes", fn := fun _ => fun
  | [d] => { results := [.lit (.bool true)], args := [d] }
  | _ => none }
def fnStoreBytesRow : OpenClaim := { program := "ytllmifioelbleaa", sum := "78395b6a9f093a217ed4b9dfc28f56f1d25c9bead69dcee11631bbe553104721", func := "loop.example/g00178/laws.FnStoreBytes", spec := "fnStoreBytes", apart := false }
def FnStoreBytesSaid : Prop := fnStoreBytesRow.holds Try.pinned (OpenSpec.ofChange fnStoreBytesSpec)

/-- ITS FALSE NEIGHBOUR: 'it returns false'. Refute it at one input. -/
def fnStoreBytesWrong : ChangeSpec := { name := "fnStoreBytes", fn := fun _ => fun
  | [d] => { results := [.lit (.bool false)], args := [d] }
  | _ => none }
def FnStoreBytesWrongFalsely : Prop := fnStoreBytesRow.holds Try.pinned (OpenSpec.ofChange fnStoreBytesWrong)

/-- 'laws.FnForgotten': WHATEVER THE INPUT: true; the input reads as it did. -/
def fnForgottenSpec : ChangeSpec := { name := "fnForgotten", fn := fun _ => fun
  | [d] => { results := [.lit (.bool true)], args := [d] }
  | _ => none }
def fnForgottenRow : OpenClaim := { program := "ytllmifioelbleaa", sum := "78395b6a9f093a217ed4b9dfc28f56f1d25c9bead69dcee11631bbe553104721", func := "loop.example/g00178/laws.FnForgotten", spec := "fnForgotten", unfollowed := true, recurses := true, apart := false }
def FnForgottenSaid : Prop := fnForgottenRow.holds Try.pinned (OpenSpec.ofChange fnForgottenSpec)

/-- ITS FALSE NEIGHBOUR: 'it returns false'. Refute it at one input. -/
def fnForgottenWrong : ChangeSpec := { name := "fnForgotten", fn := fun _ => fun
  | [d] => { results := [.lit (.bool false)], args := [d] }
  | _ => none }
def FnForgottenWrongFalsely : Prop := fnForgottenRow.holds Try.pinned (OpenSpec.ofChange fnForgottenWrong)

/- THE SECOND FORM. 'bulk': how many values and letters a reading holds, each counted each time it is reached (what is shared counts as often as it is met; a slice's spare places count too). A statement '..UptoSaid' is the law's where the arguments, and the package variables that the reading takes, are together of bulk at most 1048576: NARROWER than '..Said'. Prove '..Said' where nothing that the law and all that it calls make is longer than what came in: it says more and counts as full. Else prove '..UptoSaid'. A law counts once. -/
mutual
def uptoBulk {H : Type} : DataW H → Nat
  | .lit (.string bytes) => bytes.length + 1
  | .lit _ => 1
  | .nil => 1
  | .ptr d => uptoBulk d + 1
  | .slice elems spare => uptoBulkAll elems + uptoBulkAll spare + 1
  | .agg parts => uptoBulkAll parts + 1
  | .iface _ d => uptoBulk d + 1
  | .map entries => uptoBulkEntries entries + 1
  | .held _ => 1
def uptoBulkAll {H : Type} : List (DataW H) → Nat
  | [] => 0
  | d :: r => uptoBulk d + uptoBulkAll r
def uptoBulkEntries {H : Type} : List (Lit × DataW H) → Nat
  | [] => 0
  | x :: r => uptoBulkEntry x + uptoBulkEntries r
def uptoBulkEntry {H : Type} : Lit × DataW H → Nat
  | (.string bytes, d) => bytes.length + uptoBulk d + 1
  | (_, d) => uptoBulk d + 1
 end
def uptoSmall : (H : Type) → List (DataW H) → Bool := fun _ ds => decide (uptoBulkAll ds ≤ 1048576)
def OpenSpec.upto (s : _root_.Go.ChangeSpec) : _root_.Go.OpenSpec := { _root_.Go.OpenSpec.ofChange s with cond := some uptoSmall }

/-- 'laws.FnReady', WHERE WHAT IT READS IS OF BULK AT MOST 1048576: true; the input reads as it did. -/
def fnReadyUptoRow : OpenClaim := { program := "ytllmifioelbleaa", sum := "78395b6a9f093a217ed4b9dfc28f56f1d25c9bead69dcee11631bbe553104721", func := "loop.example/g00178/laws.FnReady", spec := "fnReady", apart := false, narrowed := true }
def FnReadyUptoSaid : Prop := fnReadyUptoRow.holds Try.pinned (OpenSpec.upto fnReadySpec)

/-- 'laws.FnMendEntry', WHERE WHAT IT READS IS OF BULK AT MOST 1048576: true; the input reads as it did. -/
def fnMendEntryUptoRow : OpenClaim := { program := "ytllmifioelbleaa", sum := "78395b6a9f093a217ed4b9dfc28f56f1d25c9bead69dcee11631bbe553104721", func := "loop.example/g00178/laws.FnMendEntry", spec := "fnMendEntry", apart := false, narrowed := true }
def FnMendEntryUptoSaid : Prop := fnMendEntryUptoRow.holds Try.pinned (OpenSpec.upto fnMendEntrySpec)

/-- 'laws.FnExactRegClose', WHERE WHAT IT READS IS OF BULK AT MOST 1048576: true; the input reads as it did. -/
def fnExactRegCloseUptoRow : OpenClaim := { program := "ytllmifioelbleaa", sum := "78395b6a9f093a217ed4b9dfc28f56f1d25c9bead69dcee11631bbe553104721", func := "loop.example/g00178/laws.FnExactRegClose", spec := "fnExactRegClose", apart := false, narrowed := true }
def FnExactRegCloseUptoSaid : Prop := fnExactRegCloseUptoRow.holds Try.pinned (OpenSpec.upto fnExactRegCloseSpec)

/-- 'laws.FnClosed', WHERE WHAT IT READS IS OF BULK AT MOST 1048576: true; the input reads as it did. -/
def fnClosedUptoRow : OpenClaim := { program := "ytllmifioelbleaa", sum := "78395b6a9f093a217ed4b9dfc28f56f1d25c9bead69dcee11631bbe553104721", func := "loop.example/g00178/laws.FnClosed", spec := "fnClosed", apart := false, narrowed := true }
def FnClosedUptoSaid : Prop := fnClosedUptoRow.holds Try.pinned (OpenSpec.upto fnClosedSpec)

/-- 'laws.FnStoreBytes', WHERE WHAT IT READS IS OF BULK AT MOST 1048576: true; the input reads as it did. -/
def fnStoreBytesUptoRow : OpenClaim := { program := "ytllmifioelbleaa", sum := "78395b6a9f093a217ed4b9dfc28f56f1d25c9bead69dcee11631bbe553104721", func := "loop.example/g00178/laws.FnStoreBytes", spec := "fnStoreBytes", apart := false, narrowed := true }
def FnStoreBytesUptoSaid : Prop := fnStoreBytesUptoRow.holds Try.pinned (OpenSpec.upto fnStoreBytesSpec)

/-- 'laws.FnForgotten', WHERE WHAT IT READS IS OF BULK AT MOST 1048576: true; the input reads as it did. -/
def fnForgottenUptoRow : OpenClaim := { program := "ytllmifioelbleaa", sum := "78395b6a9f093a217ed4b9dfc28f56f1d25c9bead69dcee11631bbe553104721", func := "loop.example/g00178/laws.FnForgotten", spec := "fnForgotten", unfollowed := true, recurses := true, apart := false, narrowed := true }
def FnForgottenUptoSaid : Prop := fnForgottenUptoRow.holds Try.pinned (OpenSpec.upto fnForgottenSpec)

end Rows
end Go.Proofs.Ytllmifioelbleaa
