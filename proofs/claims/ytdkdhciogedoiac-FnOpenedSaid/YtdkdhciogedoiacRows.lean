/-
  No cell of these rows narrows 'for every input' (looked for: loops, veiled, ifaces, maps, wideKeys, modest, calm, conditions, laid).
  DERIVED. THE GIVEN ROWS OF THIS SEAT. 6 by the template 'for every input the law returns true; each argument reads behind the call as it read before'; 0 by the template 'total and deterministic' (their statements: YtdkdhciogedoiacTotals.lean).
  GIVEN WITH THE SEED: the statements are not yours to turn. If you find one false, say at which input.
  Laid BY PROGRAM, IN A SANDBOX (cutbox-rows.mjs): the forced cells as the released guide's own fill.sh prints them over the translation a227f16ac34b6e6b… (all of the seat's roots in one cut). By AI agents, Wed Nov 11 2026. No macro, syntax, notation, axiom, sorry.
-/
import Derived.Test.YtdkdhciogedoiacChecked
import GoSem.Claim
import GoSem.ClaimJoined
import GoSem.ClaimMapViews
import Derived.JoinedTies
import Derived.KernelRfl
namespace Go.Proofs.Ytdkdhciogedoiac
/- THE CELL 'sum', in the pinned program and in every row, IS THE sha256 OF THE DUMP (.gsa) THAT YtdkdhciogedoiacProg.lean LOADS. Nothing in Lean hashes anything: it is a label: what it is worth is what the hold of that sum in a sandbox is worth. -/
noncomputable def Try.pinned : Pinned := { name := "ytdkdhciogedoiac", sum := "a227f16ac34b6e6b86acd266529a6cda41706e2efcc0d459bcbc72f6fb9f0fc5", checked := Try.checked }
namespace Rows
def none {H : Type} : Left H := { results := [], args := [] }

/-- 'laws.FnExactRegTrim': WHATEVER THE INPUT: true; the input reads as it did. -/
def fnExactRegTrimSpec : ChangeSpec := { name := "fnExactRegTrim", fn := fun _ => fun
  | [d1, d2, d3] => { results := [.lit (.bool true)], args := [d1, d2, d3] }
  | _ => none }
def fnExactRegTrimRow : OpenClaim := { program := "ytdkdhciogedoiac", sum := "a227f16ac34b6e6b86acd266529a6cda41706e2efcc0d459bcbc72f6fb9f0fc5", func := "loop.example/g00178/laws.FnExactRegTrim", spec := "fnExactRegTrim", apart := false }
def FnExactRegTrimSaid : Prop := fnExactRegTrimRow.holds Try.pinned (OpenSpec.ofChange fnExactRegTrimSpec)

/-- ITS FALSE NEIGHBOUR: 'it returns false'. Refute it at one input. -/
def fnExactRegTrimWrong : ChangeSpec := { name := "fnExactRegTrim", fn := fun _ => fun
  | [d1, d2, d3] => { results := [.lit (.bool false)], args := [d1, d2, d3] }
  | _ => none }
def FnExactRegTrimWrongFalsely : Prop := fnExactRegTrimRow.holds Try.pinned (OpenSpec.ofChange fnExactRegTrimWrong)

/-- 'laws.FnForgotten': WHATEVER THE INPUT: true; the input reads as it did. -/
def fnForgottenSpec : ChangeSpec := { name := "fnForgotten", fn := fun _ => fun
  | [d] => { results := [.lit (.bool true)], args := [d] }
  | _ => none }
def fnForgottenRow : OpenClaim := { program := "ytdkdhciogedoiac", sum := "a227f16ac34b6e6b86acd266529a6cda41706e2efcc0d459bcbc72f6fb9f0fc5", func := "loop.example/g00178/laws.FnForgotten", spec := "fnForgotten", unfollowed := true, recurses := true, apart := false }
def FnForgottenSaid : Prop := fnForgottenRow.holds Try.pinned (OpenSpec.ofChange fnForgottenSpec)

/-- ITS FALSE NEIGHBOUR: 'it returns false'. Refute it at one input. -/
def fnForgottenWrong : ChangeSpec := { name := "fnForgotten", fn := fun _ => fun
  | [d] => { results := [.lit (.bool false)], args := [d] }
  | _ => none }
def FnForgottenWrongFalsely : Prop := fnForgottenRow.holds Try.pinned (OpenSpec.ofChange fnForgottenWrong)

/-- 'laws.FnTrimmed': WHATEVER THE INPUT: true; the input reads as it did. -/
def fnTrimmedSpec : ChangeSpec := { name := "fnTrimmed", fn := fun _ => fun
  | [d] => { results := [.lit (.bool true)], args := [d] }
  | _ => none }
def fnTrimmedRow : OpenClaim := { program := "ytdkdhciogedoiac", sum := "a227f16ac34b6e6b86acd266529a6cda41706e2efcc0d459bcbc72f6fb9f0fc5", func := "loop.example/g00178/laws.FnTrimmed", spec := "fnTrimmed", apart := false }
def FnTrimmedSaid : Prop := fnTrimmedRow.holds Try.pinned (OpenSpec.ofChange fnTrimmedSpec)

/-- ITS FALSE NEIGHBOUR: 'it returns false'. Refute it at one input. -/
def fnTrimmedWrong : ChangeSpec := { name := "fnTrimmed", fn := fun _ => fun
  | [d] => { results := [.lit (.bool false)], args := [d] }
  | _ => none }
def FnTrimmedWrongFalsely : Prop := fnTrimmedRow.holds Try.pinned (OpenSpec.ofChange fnTrimmedWrong)

/-- 'laws.FnExactRegClose': WHATEVER THE INPUT: true; the input reads as it did. -/
def fnExactRegCloseSpec : ChangeSpec := { name := "fnExactRegClose", fn := fun _ => fun
  | [d1, d2, d3, d4] => { results := [.lit (.bool true)], args := [d1, d2, d3, d4] }
  | _ => none }
def fnExactRegCloseRow : OpenClaim := { program := "ytdkdhciogedoiac", sum := "a227f16ac34b6e6b86acd266529a6cda41706e2efcc0d459bcbc72f6fb9f0fc5", func := "loop.example/g00178/laws.FnExactRegClose", spec := "fnExactRegClose", apart := false }
def FnExactRegCloseSaid : Prop := fnExactRegCloseRow.holds Try.pinned (OpenSpec.ofChange fnExactRegCloseSpec)

/-- ITS FALSE NEIGHBOUR: 'it returns false'. Refute it at one input. -/
def fnExactRegCloseWrong : ChangeSpec := { name := "fnExactRegClose", fn := fun _ => fun
  | [d1, d2, d3, d4] => { results := [.lit (.bool false)], args := [d1, d2, d3, d4] }
  | _ => none }
def FnExactRegCloseWrongFalsely : Prop := fnExactRegCloseRow.holds Try.pinned (OpenSpec.ofChange fnExactRegCloseWrong)

/-- 'laws.FnClosed': WHATEVER THE INPUT: true; the input reads as it did. -/
def fnClosedSpec : ChangeSpec := { name := "fnClosed", fn := fun _ => fun
  | [d] => { results := [.lit (.bool true)], args := [d] }
  | _ => none }
def fnClosedRow : OpenClaim := { program := "ytdkdhciogedoiac", sum := "a227f16ac34b6e6b86acd266529a6cda41706e2efcc0d459bcbc72f6fb9f0fc5", func := "loop.example/g00178/laws.FnClosed", spec := "fnClosed", apart := false }
def FnClosedSaid : Prop := fnClosedRow.holds Try.pinned (OpenSpec.ofChange fnClosedSpec)

/-- ITS FALSE NEIGHBOUR: 'it returns false'. Refute it at one input. -/
def fnClosedWrong : ChangeSpec := { name := "fnClosed", fn := fun _ => fun
  | [d] => { results := [.lit (.bool false)], args := [d] }
  | _ => none }
def FnClosedWrongFalsely : Prop := fnClosedRow.holds Try.pinned (OpenSpec.ofChange fnClosedWrong)

/-- 'laws.FnOpened': WHATEVER THE INPUT: true; the input reads as it did. -/
def fnOpenedSpec : ChangeSpec := { name := "fnOpened", fn := fun _ => fun
  | [d] => { results := [.lit (.bool true)], args := [d] }
  | _ => none }
def fnOpenedRow : OpenClaim := { program := "ytdkdhciogedoiac", sum := "a227f16ac34b6e6b86acd266529a6cda41706e2efcc0d459bcbc72f6fb9f0fc5", func := "loop.example/g00178/laws.FnOpened", spec := "fnOpened", apart := false }
def FnOpenedSaid : Prop := fnOpenedRow.holds Try.pinned (OpenSpec.ofChange fnOpenedSpec)

/-- ITS FALSE NEIGHBOUR: 'it returns false'. Refute it at one input. -/
def fnOpenedWrong : ChangeSpec := { name := "fnOpened", fn := fun _ => fun
  | [d] => { results := [.lit (.bool false)], args := [d] }
  | _ => none }
def FnOpenedWrongFalsely : Prop := fnOpenedRow.holds Try.pinned (OpenSpec.ofChange fnOpenedWrong)

/- THE SECOND FORM. 'bulk': how many values and letters a reading holds, each counted each time it is reached (what is shared counts as often as it is met; a slice's spare places count too). A statement '..UptoSaid' is the law's where the arguments, and the package variables that the reading takes, are together of bulk at most 1048576: NARROWER than '..Said'. Prove '..Said' where nothing that the law and all that it calls make is longer than what came in: it says more and counts as full. Else prove '..UptoSaid'. A law counts once. -/
mutual
def uptoBulk {H : Type} : DataW H → Nat
  | .lit (.string bytes) => bytes.length + 1
  | .lit _ => 1
  | .nil => 1
  | .ptr d => uptoBulk d + 1
  | .slice elems spare => uptoBulkAll elems + uptoBulkAll spare + 1
  | .agg parts => uptoBulkAll parts + 1
  | .iface _ d => uptoBulk d + 1
  | .map entries => uptoBulkEntries entries + 1
  | .held _ => 1
def uptoBulkAll {H : Type} : List (DataW H) → Nat
  | [] => 0
  | d :: r => uptoBulk d + uptoBulkAll r
def uptoBulkEntries {H : Type} : List (Lit × DataW H) → Nat
  | [] => 0
  | x :: r => uptoBulkEntry x + uptoBulkEntries r
def uptoBulkEntry {H : Type} : Lit × DataW H → Nat
  | (.string bytes, d) => bytes.length + uptoBulk d + 1
  | (_, d) => uptoBulk d + 1
 end
def uptoSmall : (H : Type) → List (DataW H) → Bool := fun _ ds => decide (uptoBulkAll ds ≤ 1048576)
def OpenSpec.upto (s : _root_.Go.ChangeSpec) : _root_.Go.OpenSpec := { _root_.Go.OpenSpec.ofChange s with cond := some uptoSmall }

/-- 'laws.FnExactRegTrim', WHERE WHAT IT READS IS OF BULK AT MOST 1048576: true; the input reads as it did. -/
def fnExactRegTrimUptoRow : OpenClaim := { program := "ytdkdhciogedoiac", sum := "a227f16ac34b6e6b86acd266529a6cda41706e2efcc0d459bcbc72f6fb9f0fc5", func := "loop.example/g00178/laws.FnExactRegTrim", spec := "fnExactRegTrim", apart := false, narrowed := true }
def FnExactRegTrimUptoSaid : Prop := fnExactRegTrimUptoRow.holds Try.pinned (OpenSpec.upto fnExactRegTrimSpec)

/-- 'laws.FnForgotten', WHERE WHAT IT READS IS OF BULK AT MOST 1048576: true; the input reads as it did. -/
def fnForgottenUptoRow : OpenClaim := { program := "ytdkdhciogedoiac", sum := "a227f16ac34b6e6b86acd266529a6cda41706e2efcc0d459bcbc72f6fb9f0fc5", func := "loop.example/g00178/laws.FnForgotten", spec := "fnForgotten", unfollowed := true, recurses := true, apart := false, narrowed := true }
def FnForgottenUptoSaid : Prop := fnForgottenUptoRow.holds Try.pinned (OpenSpec.upto fnForgottenSpec)

/-- 'laws.FnTrimmed', WHERE WHAT IT READS IS OF BULK AT MOST 1048576: true; the input reads as it did. -/
def fnTrimmedUptoRow : OpenClaim := { program := "ytdkdhciogedoiac", sum := "a227f16ac34b6e6b86acd266529a6cda41706e2efcc0d459bcbc72f6fb9f0fc5", func := "loop.example/g00178/laws.FnTrimmed", spec := "fnTrimmed", apart := false, narrowed := true }
def FnTrimmedUptoSaid : Prop := fnTrimmedUptoRow.holds Try.pinned (OpenSpec.upto fnTrimmedSpec)

/-- 'laws.FnExactRegClose', WHERE WHAT IT READS IS OF BULK AT MOST 1048576: true; the input reads as it did. -/
def fnExactRegCloseUptoRow : OpenClaim := { program := "ytdkdhciogedoiac", sum := "a227f16ac34b6e6b86acd266529a6cda41706e2efcc0d459bcbc72f6fb9f0fc5", func := "loop.example/g00178/laws.FnExactRegClose", spec := "fnExactRegClose", apart := false, narrowed := true }
def FnExactRegCloseUptoSaid : Prop := fnExactRegCloseUptoRow.holds Try.pinned (OpenSpec.upto fnExactRegCloseSpec)

/-- 'laws.FnClosed', WHERE WHAT IT READS IS OF BULK AT MOST 1048576: true; the input reads as it did. -/
def fnClosedUptoRow : OpenClaim := { program := "ytdkdhciogedoiac", sum := "a227f16ac34b6e6b86acd266529a6cda41706e2efcc0d459bcbc72f6fb9f0fc5", func := "loop.example/g00178/laws.FnClosed", spec := "fnClosed", apart := false, narrowed := true }
def FnClosedUptoSaid : Prop := fnClosedUptoRow.holds Try.pinned (OpenSpec.upto fnClosedSpec)

/-- 'laws.FnOpened', WHERE WHAT IT READS IS OF BULK AT MOST 1048576: true; the input reads as it did. -/
def fnOpenedUptoRow : OpenClaim := { program := "ytdkdhciogedoiac", sum := "a227f16ac34b6e6b86acd266529a6cda41706e2efcc0d459bcbc72f6fb9f0fc5", func := "loop.example/g00178/laws.FnOpened", spec := "fnOpened", apart := false, narrowed := true }
def FnOpenedUptoSaid : Prop := fnOpenedUptoRow.holds Try.pinned (OpenSpec.upto fnOpenedSpec)

end Rows
end Go.Proofs.Ytdkdhciogedoiac
