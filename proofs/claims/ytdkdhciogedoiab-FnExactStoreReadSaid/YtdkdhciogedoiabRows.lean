/-
  No cell of these rows narrows 'for every input' (looked for: loops, veiled, ifaces, maps, wideKeys, modest, calm, conditions, laid).
  DERIVED. THE GIVEN ROWS OF THIS SEAT. 6 by the template 'for every input the law returns true; each argument reads behind the call as it read before'; 0 by the template 'total and deterministic' (their statements: YtdkdhciogedoiabTotals.lean).
  GIVEN WITH THE SEED: the statements are not yours to turn. If you find one false, say at which input.
  Laid BY PROGRAM, IN A SANDBOX (cutbox-rows.mjs): the forced cells as the released guide's own fill.sh prints them over the translation 75b57ad3b499c1ef… (all of the seat's roots in one cut). By AI agents, Wed Nov 11 2026. No macro, syntax, notation, axiom, sorry.
-/
import Derived.Test.YtdkdhciogedoiabChecked
import GoSem.Claim
import GoSem.ClaimJoined
import GoSem.ClaimMapViews
import Derived.JoinedTies
import Derived.KernelRfl
namespace Go.Proofs.Ytdkdhciogedoiab
/- THE CELL 'sum', in the pinned program and in every row, IS THE sha256 OF THE DUMP (.gsa) THAT YtdkdhciogedoiabProg.lean LOADS. Nothing in Lean hashes anything: it is a label: what it is worth is what the hold of that sum in a sandbox is worth. -/
noncomputable def Try.pinned : Pinned := { name := "ytdkdhciogedoiab", sum := "75b57ad3b499c1ef75fb36ae8da249a5e33941fe6cbfc3450300d33dd43931be", checked := Try.checked }
namespace Rows
def none {H : Type} : Left H := { results := [], args := [] }

/-- 'laws.FnExactRegOk': WHATEVER THE INPUT: true; the input reads as it did. -/
def fnExactRegOkSpec : ChangeSpec := { name := "fnExactRegOk", fn := fun _ => fun
  | [d1, d2] => { results := [.lit (.bool true)], args := [d1, d2] }
  | _ => none }
def fnExactRegOkRow : OpenClaim := { program := "ytdkdhciogedoiab", sum := "75b57ad3b499c1ef75fb36ae8da249a5e33941fe6cbfc3450300d33dd43931be", func := "loop.example/g00178/laws.FnExactRegOk", spec := "fnExactRegOk", apart := false }
def FnExactRegOkSaid : Prop := fnExactRegOkRow.holds Try.pinned (OpenSpec.ofChange fnExactRegOkSpec)

/-- ITS FALSE NEIGHBOUR: 'it returns false'. Refute it at one input. -/
def fnExactRegOkWrong : ChangeSpec := { name := "fnExactRegOk", fn := fun _ => fun
  | [d1, d2] => { results := [.lit (.bool false)], args := [d1, d2] }
  | _ => none }
def FnExactRegOkWrongFalsely : Prop := fnExactRegOkRow.holds Try.pinned (OpenSpec.ofChange fnExactRegOkWrong)

/-- 'laws.FnAdded': WHATEVER THE INPUT: true; the input reads as it did. -/
def fnAddedSpec : ChangeSpec := { name := "fnAdded", fn := fun _ => fun
  | [d] => { results := [.lit (.bool true)], args := [d] }
  | _ => none }
def fnAddedRow : OpenClaim := { program := "ytdkdhciogedoiab", sum := "75b57ad3b499c1ef75fb36ae8da249a5e33941fe6cbfc3450300d33dd43931be", func := "loop.example/g00178/laws.FnAdded", spec := "fnAdded", apart := false }
def FnAddedSaid : Prop := fnAddedRow.holds Try.pinned (OpenSpec.ofChange fnAddedSpec)

/-- ITS FALSE NEIGHBOUR: 'it returns false'. Refute it at one input. -/
def fnAddedWrong : ChangeSpec := { name := "fnAdded", fn := fun _ => fun
  | [d] => { results := [.lit (.bool false)], args := [d] }
  | _ => none }
def FnAddedWrongFalsely : Prop := fnAddedRow.holds Try.pinned (OpenSpec.ofChange fnAddedWrong)

/-- 'laws.FnExactMendOk': WHATEVER THE INPUT: true; the input reads as it did. -/
def fnExactMendOkSpec : ChangeSpec := { name := "fnExactMendOk", fn := fun _ => fun
  | [d1, d2] => { results := [.lit (.bool true)], args := [d1, d2] }
  | _ => none }
def fnExactMendOkRow : OpenClaim := { program := "ytdkdhciogedoiab", sum := "75b57ad3b499c1ef75fb36ae8da249a5e33941fe6cbfc3450300d33dd43931be", func := "loop.example/g00178/laws.FnExactMendOk", spec := "fnExactMendOk", apart := false }
def FnExactMendOkSaid : Prop := fnExactMendOkRow.holds Try.pinned (OpenSpec.ofChange fnExactMendOkSpec)

/-- ITS FALSE NEIGHBOUR: 'it returns false'. Refute it at one input. -/
def fnExactMendOkWrong : ChangeSpec := { name := "fnExactMendOk", fn := fun _ => fun
  | [d1, d2] => { results := [.lit (.bool false)], args := [d1, d2] }
  | _ => none }
def FnExactMendOkWrongFalsely : Prop := fnExactMendOkRow.holds Try.pinned (OpenSpec.ofChange fnExactMendOkWrong)

/-- 'laws.FnExactStoreRead': WHATEVER THE INPUT: true; the input reads as it did. -/
def fnExactStoreReadSpec : ChangeSpec := { name := "fnExactStoreRead", fn := fun _ => fun
  | [d] => { results := [.lit (.bool true)], args := [d] }
  | _ => none }
def fnExactStoreReadRow : OpenClaim := { program := "ytdkdhciogedoiab", sum := "75b57ad3b499c1ef75fb36ae8da249a5e33941fe6cbfc3450300d33dd43931be", func := "loop.example/g00178/laws.FnExactStoreRead", spec := "fnExactStoreRead", apart := false }
def FnExactStoreReadSaid : Prop := fnExactStoreReadRow.holds Try.pinned (OpenSpec.ofChange fnExactStoreReadSpec)

/-- ITS FALSE NEIGHBOUR: 'it returns false'. Refute it at one input. -/
def fnExactStoreReadWrong : ChangeSpec := { name := "fnExactStoreRead", fn := fun _ => fun
  | [d] => { results := [.lit (.bool false)], args := [d] }
  | _ => none }
def FnExactStoreReadWrongFalsely : Prop := fnExactStoreReadRow.holds Try.pinned (OpenSpec.ofChange fnExactStoreReadWrong)

/-- 'laws.FnExactRegOpen': WHATEVER THE INPUT: true; the input reads as it did. -/
def fnExactRegOpenSpec : ChangeSpec := { name := "fnExactRegOpen", fn := fun _ => fun
  | [d1, d2, d3] => { results := [.lit (.bool true)], args := [d1, d2, d3] }
  | _ => none }
def fnExactRegOpenRow : OpenClaim := { program := "ytdkdhciogedoiab", sum := "75b57ad3b499c1ef75fb36ae8da249a5e33941fe6cbfc3450300d33dd43931be", func := "loop.example/g00178/laws.FnExactRegOpen", spec := "fnExactRegOpen", apart := false }
def FnExactRegOpenSaid : Prop := fnExactRegOpenRow.holds Try.pinned (OpenSpec.ofChange fnExactRegOpenSpec)

/-- ITS FALSE NEIGHBOUR: 'it returns false'. Refute it at one input. -/
def fnExactRegOpenWrong : ChangeSpec := { name := "fnExactRegOpen", fn := fun _ => fun
  | [d1, d2, d3] => { results := [.lit (.bool false)], args := [d1, d2, d3] }
  | _ => none }
def FnExactRegOpenWrongFalsely : Prop := fnExactRegOpenRow.holds Try.pinned (OpenSpec.ofChange fnExactRegOpenWrong)

/-- 'laws.FnExactWriterAdd': WHATEVER THE INPUT: true; the input reads as it did. -/
def fnExactWriterAddSpec : ChangeSpec := { name := "fnExactWriterAdd", fn := fun _ => fun
  | [d1, d2, d3] => { results := [.lit (.bool true)], args := [d1, d2, d3] }
  | _ => none }
def fnExactWriterAddRow : OpenClaim := { program := "ytdkdhciogedoiab", sum := "75b57ad3b499c1ef75fb36ae8da249a5e33941fe6cbfc3450300d33dd43931be", func := "loop.example/g00178/laws.FnExactWriterAdd", spec := "fnExactWriterAdd", apart := false }
def FnExactWriterAddSaid : Prop := fnExactWriterAddRow.holds Try.pinned (OpenSpec.ofChange fnExactWriterAddSpec)

/-- ITS FALSE NEIGHBOUR: 'it returns false'. Refute it at one input. -/
def fnExactWriterAddWrong : ChangeSpec := { name := "fnExactWriterAdd", fn := fun _ => fun
  | [d1, d2, d3] => { results := [.lit (.bool false)], args := [d1, d2, d3] }
  | _ => none }
def FnExactWriterAddWrongFalsely : Prop := fnExactWriterAddRow.holds Try.pinned (OpenSpec.ofChange fnExactWriterAddWrong)

/- THE SECOND FORM. 'bulk': how many values and letters a reading holds, each counted each time it is reached (what is shared counts as often as it is met; a slice's spare places count too). A statement '..UptoSaid' is the law's where the arguments, and the package variables that the reading takes, are together of bulk at most 1048576: NARROWER than '..Said'. Prove '..Said' where nothing that the law and all that it calls make is longer than what came in: it says more and counts as full. Else prove '..UptoSaid'. A law counts once. -/
mutual
def uptoBulk {H : Type} : DataW H → Nat
  | .lit (.string bytes) => bytes.length + 1
  | .lit _ => 1
  | .nil => 1
  | .ptr d => uptoBulk d + 1
  | .slice elems spare => uptoBulkAll elems + uptoBulkAll spare + 1
  | .agg parts => uptoBulkAll parts + 1
  | .iface _ d => uptoBulk d + 1
  | .map entries => uptoBulkEntries entries + 1
  | .held _ => 1
def uptoBulkAll {H : Type} : List (DataW H) → Nat
  | [] => 0
  | d :: r => uptoBulk d + uptoBulkAll r
def uptoBulkEntries {H : Type} : List (Lit × DataW H) → Nat
  | [] => 0
  | x :: r => uptoBulkEntry x + uptoBulkEntries r
def uptoBulkEntry {H : Type} : Lit × DataW H → Nat
  | (.string bytes, d) => bytes.length + uptoBulk d + 1
  | (_, d) => uptoBulk d + 1
 end
def uptoSmall : (H : Type) → List (DataW H) → Bool := fun _ ds => decide (uptoBulkAll ds ≤ 1048576)
def OpenSpec.upto (s : _root_.Go.ChangeSpec) : _root_.Go.OpenSpec := { _root_.Go.OpenSpec.ofChange s with cond := some uptoSmall }

/-- 'laws.FnExactRegOk', WHERE WHAT IT READS IS OF BULK AT MOST 1048576: true; the input reads as it did. -/
def fnExactRegOkUptoRow : OpenClaim := { program := "ytdkdhciogedoiab", sum := "75b57ad3b499c1ef75fb36ae8da249a5e33941fe6cbfc3450300d33dd43931be", func := "loop.example/g00178/laws.FnExactRegOk", spec := "fnExactRegOk", apart := false, narrowed := true }
def FnExactRegOkUptoSaid : Prop := fnExactRegOkUptoRow.holds Try.pinned (OpenSpec.upto fnExactRegOkSpec)

/-- 'laws.FnAdded', WHERE WHAT IT READS IS OF BULK AT MOST 1048576: true; the input reads as it did. -/
def fnAddedUptoRow : OpenClaim := { program := "ytdkdhciogedoiab", sum := "75b57ad3b499c1ef75fb36ae8da249a5e33941fe6cbfc3450300d33dd43931be", func := "loop.example/g00178/laws.FnAdded", spec := "fnAdded", apart := false, narrowed := true }
def FnAddedUptoSaid : Prop := fnAddedUptoRow.holds Try.pinned (OpenSpec.upto fnAddedSpec)

/-- 'laws.FnExactMendOk', WHERE WHAT IT READS IS OF BULK AT MOST 1048576: true; the input reads as it did. -/
def fnExactMendOkUptoRow : OpenClaim := { program := "ytdkdhciogedoiab", sum := "75b57ad3b499c1ef75fb36ae8da249a5e33941fe6cbfc3450300d33dd43931be", func := "loop.example/g00178/laws.FnExactMendOk", spec := "fnExactMendOk", apart := false, narrowed := true }
def FnExactMendOkUptoSaid : Prop := fnExactMendOkUptoRow.holds Try.pinned (OpenSpec.upto fnExactMendOkSpec)

/-- 'laws.FnExactStoreRead', WHERE WHAT IT READS IS OF BULK AT MOST 1048576: true; the input reads as it did. -/
def fnExactStoreReadUptoRow : OpenClaim := { program := "ytdkdhciogedoiab", sum := "75b57ad3b499c1ef75fb36ae8da249a5e33941fe6cbfc3450300d33dd43931be", func := "loop.example/g00178/laws.FnExactStoreRead", spec := "fnExactStoreRead", apart := false, narrowed := true }
def FnExactStoreReadUptoSaid : Prop := fnExactStoreReadUptoRow.holds Try.pinned (OpenSpec.upto fnExactStoreReadSpec)

/-- 'laws.FnExactRegOpen', WHERE WHAT IT READS IS OF BULK AT MOST 1048576: true; the input reads as it did. -/
def fnExactRegOpenUptoRow : OpenClaim := { program := "ytdkdhciogedoiab", sum := "75b57ad3b499c1ef75fb36ae8da249a5e33941fe6cbfc3450300d33dd43931be", func := "loop.example/g00178/laws.FnExactRegOpen", spec := "fnExactRegOpen", apart := false, narrowed := true }
def FnExactRegOpenUptoSaid : Prop := fnExactRegOpenUptoRow.holds Try.pinned (OpenSpec.upto fnExactRegOpenSpec)

/-- 'laws.FnExactWriterAdd', WHERE WHAT IT READS IS OF BULK AT MOST 1048576: true; the input reads as it did. -/
def fnExactWriterAddUptoRow : OpenClaim := { program := "ytdkdhciogedoiab", sum := "75b57ad3b499c1ef75fb36ae8da249a5e33941fe6cbfc3450300d33dd43931be", func := "loop.example/g00178/laws.FnExactWriterAdd", spec := "fnExactWriterAdd", apart := false, narrowed := true }
def FnExactWriterAddUptoSaid : Prop := fnExactWriterAddUptoRow.holds Try.pinned (OpenSpec.upto fnExactWriterAddSpec)

end Rows
end Go.Proofs.Ytdkdhciogedoiab
