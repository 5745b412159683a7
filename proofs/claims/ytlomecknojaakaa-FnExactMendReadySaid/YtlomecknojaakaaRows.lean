/-
  No cell of these rows narrows 'for every input' (looked for: loops, veiled, ifaces, maps, wideKeys, modest, calm, conditions, laid).
  DERIVED. THE GIVEN ROWS OF THIS SEAT. 6 by the template 'for every input the law returns true; each argument reads behind the call as it read before'; 0 by the template 'total and deterministic' (their statements: YtlomecknojaakaaTotals.lean).
  GIVEN WITH THE SEED: the statements are not yours to turn. If you find one false, say at which input.
  Laid BY PROGRAM, IN A SANDBOX (cutbox-rows.mjs): the forced cells as the released guide's own fill.sh prints them over the translation 683ea3b59baad1e0… (all of the seat's roots in one cut). By AI agents, Wed Nov 11 2026. No macro, syntax, notation, axiom, sorry.
-/
import Derived.Test.YtlomecknojaakaaChecked
import GoSem.Claim
import GoSem.ClaimJoined
import GoSem.ClaimMapViews
import Derived.JoinedTies
import Derived.KernelRfl
namespace Go.Proofs.Ytlomecknojaakaa
/- THE CELL 'sum', in the pinned program and in every row, IS THE sha256 OF THE DUMP (.gsa) THAT YtlomecknojaakaaProg.lean LOADS. Nothing in Lean hashes anything: it is a label: what it is worth is what the hold of that sum in a sandbox is worth. -/
noncomputable def Try.pinned : Pinned := { name := "ytlomecknojaakaa", sum := "683ea3b59baad1e0a730b1f1f2cb7b8342a06eb732f371537f6755f8260f385c", checked := Try.checked }
namespace Rows
def none {H : Type} : Left H := { results := [], args := [] }

/-- 'laws.FnExactMendReady': WHATEVER THE INPUT: true; the input reads as it did. -/
def fnExactMendReadySpec : ChangeSpec := { name := "fnExactMendReady", fn := fun _ => fun
  | [d1, d2] => { results := [.lit (.bool true)], args := [d1, d2] }
  | _ => none }
def fnExactMendReadyRow : OpenClaim := { program := "ytlomecknojaakaa", sum := "683ea3b59baad1e0a730b1f1f2cb7b8342a06eb732f371537f6755f8260f385c", func := "loop.example/g00178/laws.FnExactMendReady", spec := "fnExactMendReady", apart := false }
def FnExactMendReadySaid : Prop := fnExactMendReadyRow.holds Try.pinned (OpenSpec.ofChange fnExactMendReadySpec)

/-- ITS FALSE NEIGHBOUR: 'it returns false'. Refute it at one input. -/
def fnExactMendReadyWrong : ChangeSpec := { name := "fnExactMendReady", fn := fun _ => fun
  | [d1, d2] => { results := [.lit (.bool false)], args := [d1, d2] }
  | _ => none }
def FnExactMendReadyWrongFalsely : Prop := fnExactMendReadyRow.holds Try.pinned (OpenSpec.ofChange fnExactMendReadyWrong)

/-- 'laws.FnExactWriterForget': WHATEVER THE INPUT: true; the input reads as it did. -/
def fnExactWriterForgetSpec : ChangeSpec := { name := "fnExactWriterForget", fn := fun _ => fun
  | [d1, d2, d3] => { results := [.lit (.bool true)], args := [d1, d2, d3] }
  | _ => none }
def fnExactWriterForgetRow : OpenClaim := { program := "ytlomecknojaakaa", sum := "683ea3b59baad1e0a730b1f1f2cb7b8342a06eb732f371537f6755f8260f385c", func := "loop.example/g00178/laws.FnExactWriterForget", spec := "fnExactWriterForget", unfollowed := true, recurses := true, apart := false }
def FnExactWriterForgetSaid : Prop := fnExactWriterForgetRow.holds Try.pinned (OpenSpec.ofChange fnExactWriterForgetSpec)

/-- ITS FALSE NEIGHBOUR: 'it returns false'. Refute it at one input. -/
def fnExactWriterForgetWrong : ChangeSpec := { name := "fnExactWriterForget", fn := fun _ => fun
  | [d1, d2, d3] => { results := [.lit (.bool false)], args := [d1, d2, d3] }
  | _ => none }
def FnExactWriterForgetWrongFalsely : Prop := fnExactWriterForgetRow.holds Try.pinned (OpenSpec.ofChange fnExactWriterForgetWrong)

/-- 'laws.FnExactUnion': WHATEVER THE INPUT: true; the input reads as it did. -/
def fnExactUnionSpec : ChangeSpec := { name := "fnExactUnion", fn := fun _ => fun
  | [d] => { results := [.lit (.bool true)], args := [d] }
  | _ => none }
def fnExactUnionRow : OpenClaim := { program := "ytlomecknojaakaa", sum := "683ea3b59baad1e0a730b1f1f2cb7b8342a06eb732f371537f6755f8260f385c", func := "loop.example/g00178/laws.FnExactUnion", spec := "fnExactUnion", inPlace := ["slices.overlaps[loop.example/g00178/impl.Entry]"], unfollowed := true, recurses := true, apart := false }
def FnExactUnionSaid : Prop := fnExactUnionRow.holds Try.pinned (OpenSpec.ofChange fnExactUnionSpec)

/-- ITS FALSE NEIGHBOUR: 'it returns false'. Refute it at one input. -/
def fnExactUnionWrong : ChangeSpec := { name := "fnExactUnion", fn := fun _ => fun
  | [d] => { results := [.lit (.bool false)], args := [d] }
  | _ => none }
def FnExactUnionWrongFalsely : Prop := fnExactUnionRow.holds Try.pinned (OpenSpec.ofChange fnExactUnionWrong)

/-- 'laws.FnAcked': WHATEVER THE INPUT: true; the input reads as it did. -/
def fnAckedSpec : ChangeSpec := { name := "fnAcked", fn := fun _ => fun
  | [d] => { results := [.lit (.bool true)], args := [d] }
  | _ => none }
def fnAckedRow : OpenClaim := { program := "ytlomecknojaakaa", sum := "683ea3b59baad1e0a730b1f1f2cb7b8342a06eb732f371537f6755f8260f385c", func := "loop.example/g00178/laws.FnAcked", spec := "fnAcked", inPlace := ["slices.overlaps[int]"], apart := false }
def FnAckedSaid : Prop := fnAckedRow.holds Try.pinned (OpenSpec.ofChange fnAckedSpec)

/-- ITS FALSE NEIGHBOUR: 'it returns false'. Refute it at one input. -/
def fnAckedWrong : ChangeSpec := { name := "fnAcked", fn := fun _ => fun
  | [d] => { results := [.lit (.bool false)], args := [d] }
  | _ => none }
def FnAckedWrongFalsely : Prop := fnAckedRow.holds Try.pinned (OpenSpec.ofChange fnAckedWrong)

/-- 'laws.FnUnion': WHATEVER THE INPUT: true; the input reads as it did. -/
def fnUnionSpec : ChangeSpec := { name := "fnUnion", fn := fun _ => fun
  | [d] => { results := [.lit (.bool true)], args := [d] }
  | _ => none }
def fnUnionRow : OpenClaim := { program := "ytlomecknojaakaa", sum := "683ea3b59baad1e0a730b1f1f2cb7b8342a06eb732f371537f6755f8260f385c", func := "loop.example/g00178/laws.FnUnion", spec := "fnUnion", inPlace := ["slices.overlaps[loop.example/g00178/impl.Entry]"], unfollowed := true, recurses := true, apart := false }
def FnUnionSaid : Prop := fnUnionRow.holds Try.pinned (OpenSpec.ofChange fnUnionSpec)

/-- ITS FALSE NEIGHBOUR: 'it returns false'. Refute it at one input. -/
def fnUnionWrong : ChangeSpec := { name := "fnUnion", fn := fun _ => fun
  | [d] => { results := [.lit (.bool false)], args := [d] }
  | _ => none }
def FnUnionWrongFalsely : Prop := fnUnionRow.holds Try.pinned (OpenSpec.ofChange fnUnionWrong)

/-- 'laws.FnExactMendForget': WHATEVER THE INPUT: true; the input reads as it did. -/
def fnExactMendForgetSpec : ChangeSpec := { name := "fnExactMendForget", fn := fun _ => fun
  | [d1, d2, d3] => { results := [.lit (.bool true)], args := [d1, d2, d3] }
  | _ => none }
def fnExactMendForgetRow : OpenClaim := { program := "ytlomecknojaakaa", sum := "683ea3b59baad1e0a730b1f1f2cb7b8342a06eb732f371537f6755f8260f385c", func := "loop.example/g00178/laws.FnExactMendForget", spec := "fnExactMendForget", unfollowed := true, recurses := true, apart := false }
def FnExactMendForgetSaid : Prop := fnExactMendForgetRow.holds Try.pinned (OpenSpec.ofChange fnExactMendForgetSpec)

/-- ITS FALSE NEIGHBOUR: 'it returns false'. Refute it at one input. -/
def fnExactMendForgetWrong : ChangeSpec := { name := "fnExactMendForget", fn := fun _ => fun
  | [d1, d2, d3] => { results := [.lit (.bool false)], args := [d1, d2, d3] }
  | _ => none }
def FnExactMendForgetWrongFalsely : Prop := fnExactMendForgetRow.holds Try.pinned (OpenSpec.ofChange fnExactMendForgetWrong)

/- THE SECOND FORM. 'bulk': how many values and letters a reading holds, each counted each time it is reached (what is shared counts as often as it is met; a slice's spare places count too). A statement '..UptoSaid' is the law's where the arguments, and the package variables that the reading takes, are together of bulk at most 1048576: NARROWER than '..Said'. Prove '..Said' where nothing that the law and all that it calls make is longer than what came in: it says more and counts as full. Else prove '..UptoSaid'. A law counts once. -/
mutual
def uptoBulk {H : Type} : DataW H → Nat
  | .lit (.string bytes) => bytes.length + 1
  | .lit _ => 1
  | .nil => 1
  | .ptr d => uptoBulk d + 1
  | .slice elems spare => uptoBulkAll elems + uptoBulkAll spare + 1
  | .agg parts => uptoBulkAll parts + 1
  | .iface _ d => uptoBulk d + 1
  | .map entries => uptoBulkEntries entries + 1
  | .held _ => 1
def uptoBulkAll {H : Type} : List (DataW H) → Nat
  | [] => 0
  | d :: r => uptoBulk d + uptoBulkAll r
def uptoBulkEntries {H : Type} : List (Lit × DataW H) → Nat
  | [] => 0
  | x :: r => uptoBulkEntry x + uptoBulkEntries r
def uptoBulkEntry {H : Type} : Lit × DataW H → Nat
  | (.string bytes, d) => bytes.length + uptoBulk d + 1
  | (_, d) => uptoBulk d + 1
 end
def uptoSmall : (H : Type) → List (DataW H) → Bool := fun _ ds => decide (uptoBulkAll ds ≤ 1048576)
def OpenSpec.upto (s : _root_.Go.ChangeSpec) : _root_.Go.OpenSpec := { _root_.Go.OpenSpec.ofChange s with cond := some uptoSmall }

/-- 'laws.FnExactMendReady', WHERE WHAT IT READS IS OF BULK AT MOST 1048576: true; the input reads as it did. -/
def fnExactMendReadyUptoRow : OpenClaim := { program := "ytlomecknojaakaa", sum := "683ea3b59baad1e0a730b1f1f2cb7b8342a06eb732f371537f6755f8260f385c", func := "loop.example/g00178/laws.FnExactMendReady", spec := "fnExactMendReady", apart := false, narrowed := true }
def FnExactMendReadyUptoSaid : Prop := fnExactMendReadyUptoRow.holds Try.pinned (OpenSpec.upto fnExactMendReadySpec)

/-- 'laws.FnExactWriterForget', WHERE WHAT IT READS IS OF BULK AT MOST 1048576: true; the input reads as it did. -/
def fnExactWriterForgetUptoRow : OpenClaim := { program := "ytlomecknojaakaa", sum := "683ea3b59baad1e0a730b1f1f2cb7b8342a06eb732f371537f6755f8260f385c", func := "loop.example/g00178/laws.FnExactWriterForget", spec := "fnExactWriterForget", unfollowed := true, recurses := true, apart := false, narrowed := true }
def FnExactWriterForgetUptoSaid : Prop := fnExactWriterForgetUptoRow.holds Try.pinned (OpenSpec.upto fnExactWriterForgetSpec)

/-- 'laws.FnExactUnion', WHERE WHAT IT READS IS OF BULK AT MOST 1048576: true; the input reads as it did. -/
def fnExactUnionUptoRow : OpenClaim := { program := "ytlomecknojaakaa", sum := "683ea3b59baad1e0a730b1f1f2cb7b8342a06eb732f371537f6755f8260f385c", func := "loop.example/g00178/laws.FnExactUnion", spec := "fnExactUnion", inPlace := ["slices.overlaps[loop.example/g00178/impl.Entry]"], unfollowed := true, recurses := true, apart := false, narrowed := true }
def FnExactUnionUptoSaid : Prop := fnExactUnionUptoRow.holds Try.pinned (OpenSpec.upto fnExactUnionSpec)

/-- 'laws.FnAcked', WHERE WHAT IT READS IS OF BULK AT MOST 1048576: true; the input reads as it did. -/
def fnAckedUptoRow : OpenClaim := { program := "ytlomecknojaakaa", sum := "683ea3b59baad1e0a730b1f1f2cb7b8342a06eb732f371537f6755f8260f385c", func := "loop.example/g00178/laws.FnAcked", spec := "fnAcked", inPlace := ["slices.overlaps[int]"], apart := false, narrowed := true }
def FnAckedUptoSaid : Prop := fnAckedUptoRow.holds Try.pinned (OpenSpec.upto fnAckedSpec)

/-- 'laws.FnUnion', WHERE WHAT IT READS IS OF BULK AT MOST 1048576: true; the input reads as it did. -/
def fnUnionUptoRow : OpenClaim := { program := "ytlomecknojaakaa", sum := "683ea3b59baad1e0a730b1f1f2cb7b8342a06eb732f371537f6755f8260f385c", func := "loop.example/g00178/laws.FnUnion", spec := "fnUnion", inPlace := ["slices.overlaps[loop.example/g00178/impl.Entry]"], unfollowed := true, recurses := true, apart := false, narrowed := true }
def FnUnionUptoSaid : Prop := fnUnionUptoRow.holds Try.pinned (OpenSpec.upto fnUnionSpec)

/-- 'laws.FnExactMendForget', WHERE WHAT IT READS IS OF BULK AT MOST 1048576: true; the input reads as it did. -/
def fnExactMendForgetUptoRow : OpenClaim := { program := "ytlomecknojaakaa", sum := "683ea3b59baad1e0a730b1f1f2cb7b8342a06eb732f371537f6755f8260f385c", func := "loop.example/g00178/laws.FnExactMendForget", spec := "fnExactMendForget", unfollowed := true, recurses := true, apart := false, narrowed := true }
def FnExactMendForgetUptoSaid : Prop := fnExactMendForgetUptoRow.holds Try.pinned (OpenSpec.upto fnExactMendForgetSpec)

end Rows
end Go.Proofs.Ytlomecknojaakaa
