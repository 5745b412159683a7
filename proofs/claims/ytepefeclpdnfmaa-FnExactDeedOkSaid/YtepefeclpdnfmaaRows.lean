/-
  No cell of these rows narrows 'for every input' (looked for: loops, veiled, ifaces, maps, wideKeys, modest, calm, conditions, laid).
  DERIVED. THE GIVEN ROWS OF THIS SEAT. 6 by the template 'for every input the law returns true; each argument reads behind the call as it read before'; 0 by the template 'total and deterministic' (their statements: YtepefeclpdnfmaaTotals.lean).
  GIVEN WITH THE SEED: the statements are not yours to turn. If you find one false, say at which input.
  Laid BY PROGRAM, IN A SANDBOX (cutbox-rows.mjs): the forced cells as the released guide's own fill.sh prints them over the translation b708918158bd0488… (all of the seat's roots in one cut). By AI agents, Wed Nov 11 2026. No macro, syntax, notation, axiom, sorry.
-/
import Derived.Test.YtepefeclpdnfmaaChecked
import GoSem.Claim
import GoSem.ClaimJoined
import GoSem.ClaimMapViews
import Derived.JoinedTies
import Derived.KernelRfl
namespace Go.Proofs.Ytepefeclpdnfmaa
/- THE CELL 'sum', in the pinned program and in every row, IS THE sha256 OF THE DUMP (.gsa) THAT YtepefeclpdnfmaaProg.lean LOADS. Nothing in Lean hashes anything: it is a label: what it is worth is what the hold of that sum in a sandbox is worth. -/
noncomputable def Try.pinned : Pinned := { name := "ytepefeclpdnfmaa", sum := "b708918158bd04884d00ebef78591a5f7ca430db382b3eeda56808bbb9a010de", checked := Try.checked }
namespace Rows
def none {H : Type} : Left H := { results := [], args := [] }

/-- 'laws.FnExactDeedOk': WHATEVER THE INPUT: true; the input reads as it did. -/
def fnExactDeedOkSpec : ChangeSpec := { name := "fnExactDeedOk", fn := fun _ => fun
  | [d] => { results := [.lit (.bool true)], args := [d] }
  | _ => none }
def fnExactDeedOkRow : OpenClaim := { program := "ytepefeclpdnfmaa", sum := "b708918158bd04884d00ebef78591a5f7ca430db382b3eeda56808bbb9a010de", func := "loop.example/g00178/laws.FnExactDeedOk", spec := "fnExactDeedOk", apart := false }
def FnExactDeedOkSaid : Prop := fnExactDeedOkRow.holds Try.pinned (OpenSpec.ofChange fnExactDeedOkSpec)

/-- ITS FALSE NEIGHBOUR: 'it returns false'. Refute it at one input. -/
def fnExactDeedOkWrong : ChangeSpec := { name := "fnExactDeedOk", fn := fun _ => fun
  | [d] => { results := [.lit (.bool false)], args := [d] }
  | _ => none }
def FnExactDeedOkWrongFalsely : Prop := fnExactDeedOkRow.holds Try.pinned (OpenSpec.ofChange fnExactDeedOkWrong)

/-- 'laws.FnExactReaderNew': WHATEVER THE INPUT: true; the input reads as it did. -/
def fnExactReaderNewSpec : ChangeSpec := { name := "fnExactReaderNew", fn := fun _ => fun
  | [] => { results := [.lit (.bool true)], args := [] }
  | _ => none }
def fnExactReaderNewRow : OpenClaim := { program := "ytepefeclpdnfmaa", sum := "b708918158bd04884d00ebef78591a5f7ca430db382b3eeda56808bbb9a010de", func := "loop.example/g00178/laws.FnExactReaderNew", spec := "fnExactReaderNew", apart := false }
def FnExactReaderNewSaid : Prop := fnExactReaderNewRow.holds Try.pinned (OpenSpec.ofChange fnExactReaderNewSpec)

/-- ITS FALSE NEIGHBOUR: 'it returns false'. Refute it at one input. -/
def fnExactReaderNewWrong : ChangeSpec := { name := "fnExactReaderNew", fn := fun _ => fun
  | [] => { results := [.lit (.bool false)], args := [] }
  | _ => none }
def FnExactReaderNewWrongFalsely : Prop := fnExactReaderNewRow.holds Try.pinned (OpenSpec.ofChange fnExactReaderNewWrong)

/-- 'laws.FnExactReaderOk': WHATEVER THE INPUT: true; the input reads as it did. -/
def fnExactReaderOkSpec : ChangeSpec := { name := "fnExactReaderOk", fn := fun _ => fun
  | [d] => { results := [.lit (.bool true)], args := [d] }
  | _ => none }
def fnExactReaderOkRow : OpenClaim := { program := "ytepefeclpdnfmaa", sum := "b708918158bd04884d00ebef78591a5f7ca430db382b3eeda56808bbb9a010de", func := "loop.example/g00178/laws.FnExactReaderOk", spec := "fnExactReaderOk", apart := false }
def FnExactReaderOkSaid : Prop := fnExactReaderOkRow.holds Try.pinned (OpenSpec.ofChange fnExactReaderOkSpec)

/-- ITS FALSE NEIGHBOUR: 'it returns false'. Refute it at one input. -/
def fnExactReaderOkWrong : ChangeSpec := { name := "fnExactReaderOk", fn := fun _ => fun
  | [d] => { results := [.lit (.bool false)], args := [d] }
  | _ => none }
def FnExactReaderOkWrongFalsely : Prop := fnExactReaderOkRow.holds Try.pinned (OpenSpec.ofChange fnExactReaderOkWrong)

/-- 'laws.FnExactWriterSure': WHATEVER THE INPUT: true; the input reads as it did. -/
def fnExactWriterSureSpec : ChangeSpec := { name := "fnExactWriterSure", fn := fun _ => fun
  | [d] => { results := [.lit (.bool true)], args := [d] }
  | _ => none }
def fnExactWriterSureRow : OpenClaim := { program := "ytepefeclpdnfmaa", sum := "b708918158bd04884d00ebef78591a5f7ca430db382b3eeda56808bbb9a010de", func := "loop.example/g00178/laws.FnExactWriterSure", spec := "fnExactWriterSure", apart := false }
def FnExactWriterSureSaid : Prop := fnExactWriterSureRow.holds Try.pinned (OpenSpec.ofChange fnExactWriterSureSpec)

/-- ITS FALSE NEIGHBOUR: 'it returns false'. Refute it at one input. -/
def fnExactWriterSureWrong : ChangeSpec := { name := "fnExactWriterSure", fn := fun _ => fun
  | [d] => { results := [.lit (.bool false)], args := [d] }
  | _ => none }
def FnExactWriterSureWrongFalsely : Prop := fnExactWriterSureRow.holds Try.pinned (OpenSpec.ofChange fnExactWriterSureWrong)

/-- 'laws.FnExactLostOk': WHATEVER THE INPUT: true; the input reads as it did. -/
def fnExactLostOkSpec : ChangeSpec := { name := "fnExactLostOk", fn := fun _ => fun
  | [d1, d2] => { results := [.lit (.bool true)], args := [d1, d2] }
  | _ => none }
def fnExactLostOkRow : OpenClaim := { program := "ytepefeclpdnfmaa", sum := "b708918158bd04884d00ebef78591a5f7ca430db382b3eeda56808bbb9a010de", func := "loop.example/g00178/laws.FnExactLostOk", spec := "fnExactLostOk", apart := false }
def FnExactLostOkSaid : Prop := fnExactLostOkRow.holds Try.pinned (OpenSpec.ofChange fnExactLostOkSpec)

/-- ITS FALSE NEIGHBOUR: 'it returns false'. Refute it at one input. -/
def fnExactLostOkWrong : ChangeSpec := { name := "fnExactLostOk", fn := fun _ => fun
  | [d1, d2] => { results := [.lit (.bool false)], args := [d1, d2] }
  | _ => none }
def FnExactLostOkWrongFalsely : Prop := fnExactLostOkRow.holds Try.pinned (OpenSpec.ofChange fnExactLostOkWrong)

/-- 'laws.FnTells': WHATEVER THE INPUT: true; the input reads as it did. -/
def fnTellsSpec : ChangeSpec := { name := "fnTells", fn := fun _ => fun
  | [d] => { results := [.lit (.bool true)], args := [d] }
  | _ => none }
def fnTellsRow : OpenClaim := { program := "ytepefeclpdnfmaa", sum := "b708918158bd04884d00ebef78591a5f7ca430db382b3eeda56808bbb9a010de", func := "loop.example/g00178/laws.FnTells", spec := "fnTells", unfollowed := true, recurses := true, apart := false }
def FnTellsSaid : Prop := fnTellsRow.holds Try.pinned (OpenSpec.ofChange fnTellsSpec)

/-- ITS FALSE NEIGHBOUR: 'it returns false'. Refute it at one input. -/
def fnTellsWrong : ChangeSpec := { name := "fnTells", fn := fun _ => fun
  | [d] => { results := [.lit (.bool false)], args := [d] }
  | _ => none }
def FnTellsWrongFalsely : Prop := fnTellsRow.holds Try.pinned (OpenSpec.ofChange fnTellsWrong)

/- THE SECOND FORM. 'bulk': how many values and letters a reading holds, each counted each time it is reached (what is shared counts as often as it is met; a slice's spare places count too). A statement '..UptoSaid' is the law's where the arguments, and the package variables that the reading takes, are together of bulk at most 1048576: NARROWER than '..Said'. Prove '..Said' where nothing that the law and all that it calls make is longer than what came in: it says more and counts as full. Else prove '..UptoSaid'. A law counts once. -/
mutual
def uptoBulk {H : Type} : DataW H → Nat
  | .lit (.string bytes) => bytes.length + 1
  | .lit _ => 1
  | .nil => 1
  | .ptr d => uptoBulk d + 1
  | .slice elems spare => uptoBulkAll elems + uptoBulkAll spare + 1
  | .agg parts => uptoBulkAll parts + 1
  | .iface _ d => uptoBulk d + 1
  | .map entries => uptoBulkEntries entries + 1
  | .held _ => 1
def uptoBulkAll {H : Type} : List (DataW H) → Nat
  | [] => 0
  | d :: r => uptoBulk d + uptoBulkAll r
def uptoBulkEntries {H : Type} : List (Lit × DataW H) → Nat
  | [] => 0
  | x :: r => uptoBulkEntry x + uptoBulkEntries r
def uptoBulkEntry {H : Type} : Lit × DataW H → Nat
  | (.string bytes, d) => bytes.length + uptoBulk d + 1
  | (_, d) => uptoBulk d + 1
 end
def uptoSmall : (H : Type) → List (DataW H) → Bool := fun _ ds => decide (uptoBulkAll ds ≤ 1048576)
def OpenSpec.upto (s : _root_.Go.ChangeSpec) : _root_.Go.OpenSpec := { _root_.Go.OpenSpec.ofChange s with cond := some uptoSmall }

/-- 'laws.FnExactDeedOk', WHERE WHAT IT READS IS OF BULK AT MOST 1048576: true; the input reads as it did. -/
def fnExactDeedOkUptoRow : OpenClaim := { program := "ytepefeclpdnfmaa", sum := "b708918158bd04884d00ebef78591a5f7ca430db382b3eeda56808bbb9a010de", func := "loop.example/g00178/laws.FnExactDeedOk", spec := "fnExactDeedOk", apart := false, narrowed := true }
def FnExactDeedOkUptoSaid : Prop := fnExactDeedOkUptoRow.holds Try.pinned (OpenSpec.upto fnExactDeedOkSpec)

/-- 'laws.FnExactReaderNew', WHERE WHAT IT READS IS OF BULK AT MOST 1048576: true; the input reads as it did. -/
def fnExactReaderNewUptoRow : OpenClaim := { program := "ytepefeclpdnfmaa", sum := "b708918158bd04884d00ebef78591a5f7ca430db382b3eeda56808bbb9a010de", func := "loop.example/g00178/laws.FnExactReaderNew", spec := "fnExactReaderNew", apart := false, narrowed := true }
def FnExactReaderNewUptoSaid : Prop := fnExactReaderNewUptoRow.holds Try.pinned (OpenSpec.upto fnExactReaderNewSpec)

/-- 'laws.FnExactReaderOk', WHERE WHAT IT READS IS OF BULK AT MOST 1048576: true; the input reads as it did. -/
def fnExactReaderOkUptoRow : OpenClaim := { program := "ytepefeclpdnfmaa", sum := "b708918158bd04884d00ebef78591a5f7ca430db382b3eeda56808bbb9a010de", func := "loop.example/g00178/laws.FnExactReaderOk", spec := "fnExactReaderOk", apart := false, narrowed := true }
def FnExactReaderOkUptoSaid : Prop := fnExactReaderOkUptoRow.holds Try.pinned (OpenSpec.upto fnExactReaderOkSpec)

/-- 'laws.FnExactWriterSure', WHERE WHAT IT READS IS OF BULK AT MOST 1048576: true; the input reads as it did. -/
def fnExactWriterSureUptoRow : OpenClaim := { program := "ytepefeclpdnfmaa", sum := "b708918158bd04884d00ebef78591a5f7ca430db382b3eeda56808bbb9a010de", func := "loop.example/g00178/laws.FnExactWriterSure", spec := "fnExactWriterSure", apart := false, narrowed := true }
def FnExactWriterSureUptoSaid : Prop := fnExactWriterSureUptoRow.holds Try.pinned (OpenSpec.upto fnExactWriterSureSpec)

/-- 'laws.FnExactLostOk', WHERE WHAT IT READS IS OF BULK AT MOST 1048576: true; the input reads as it did. -/
def fnExactLostOkUptoRow : OpenClaim := { program := "ytepefeclpdnfmaa", sum := "b708918158bd04884d00ebef78591a5f7ca430db382b3eeda56808bbb9a010de", func := "loop.example/g00178/laws.FnExactLostOk", spec := "fnExactLostOk", apart := false, narrowed := true }
def FnExactLostOkUptoSaid : Prop := fnExactLostOkUptoRow.holds Try.pinned (OpenSpec.upto fnExactLostOkSpec)

/-- 'laws.FnTells', WHERE WHAT IT READS IS OF BULK AT MOST 1048576: true; the input reads as it did. -/
def fnTellsUptoRow : OpenClaim := { program := "ytepefeclpdnfmaa", sum := "b708918158bd04884d00ebef78591a5f7ca430db382b3eeda56808bbb9a010de", func := "loop.example/g00178/laws.FnTells", spec := "fnTells", unfollowed := true, recurses := true, apart := false, narrowed := true }
def FnTellsUptoSaid : Prop := fnTellsUptoRow.holds Try.pinned (OpenSpec.upto fnTellsSpec)

end Rows
end Go.Proofs.Ytepefeclpdnfmaa
