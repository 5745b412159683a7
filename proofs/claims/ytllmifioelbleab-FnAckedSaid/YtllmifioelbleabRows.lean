/-
  No cell of these rows narrows 'for every input' (looked for: loops, veiled, ifaces, maps, wideKeys, modest, calm, conditions, laid).
  DERIVED. THE GIVEN ROWS OF THIS SEAT. 6 by the template 'for every input the law returns true; each argument reads behind the call as it read before'; 0 by the template 'total and deterministic' (their statements: YtllmifioelbleabTotals.lean).
  GIVEN WITH THE SEED: the statements are not yours to turn. If you find one false, say at which input.
  Laid BY PROGRAM, IN A SANDBOX (cutbox-rows.mjs): the forced cells as the released guide's own fill.sh prints them over the translation 2eb91676726f18b3… (all of the seat's roots in one cut). By AI agents, Wed Nov 11 2026. No macro, syntax, notation, axiom, sorry.
-/
import Derived.Test.YtllmifioelbleabChecked
import GoSem.Claim
import GoSem.ClaimJoined
import GoSem.ClaimMapViews
import Derived.JoinedTies
import Derived.KernelRfl
namespace Go.Proofs.Ytllmifioelbleab
/- THE CELL 'sum', in the pinned program and in every row, IS THE sha256 OF THE DUMP (.gsa) THAT YtllmifioelbleabProg.lean LOADS. Nothing in Lean hashes anything: it is a label: what it is worth is what the hold of that sum in a sandbox is worth. -/
noncomputable def Try.pinned : Pinned := { name := "ytllmifioelbleab", sum := "2eb91676726f18b3e38d5a0a2463628829a511358856df125c8b51af6d1a671d", checked := Try.checked }
namespace Rows
def none {H : Type} : Left H := { results := [], args := [] }

/-- 'laws.FnExactWriterForget': WHATEVER THE INPUT: true; the input reads as it did. -/
def fnExactWriterForgetSpec : ChangeSpec := { name := "fnExactWriterForget", fn := fun _ => fun
  | [d1, d2, d3] => { results := [.lit (.bool true)], args := [d1, d2, d3] }
  | _ => none }
def fnExactWriterForgetRow : OpenClaim := { program := "ytllmifioelbleab", sum := "2eb91676726f18b3e38d5a0a2463628829a511358856df125c8b51af6d1a671d", func := "loop.example/g00178/laws.FnExactWriterForget", spec := "fnExactWriterForget", unfollowed := true, recurses := true, apart := false }
def FnExactWriterForgetSaid : Prop := fnExactWriterForgetRow.holds Try.pinned (OpenSpec.ofChange fnExactWriterForgetSpec)

/-- ITS FALSE NEIGHBOUR: 'it returns false'. Refute it at one input. -/
def fnExactWriterForgetWrong : ChangeSpec := { name := "fnExactWriterForget", fn := fun _ => fun
  | [d1, d2, d3] => { results := [.lit (.bool false)], args := [d1, d2, d3] }
  | _ => none }
def FnExactWriterForgetWrongFalsely : Prop := fnExactWriterForgetRow.holds Try.pinned (OpenSpec.ofChange fnExactWriterForgetWrong)

/-- 'laws.FnAcked': WHATEVER THE INPUT: true; the input reads as it did. -/
def fnAckedSpec : ChangeSpec := { name := "fnAcked", fn := fun _ => fun
  | [d] => { results := [.lit (.bool true)], args := [d] }
  | _ => none }
def fnAckedRow : OpenClaim := { program := "ytllmifioelbleab", sum := "2eb91676726f18b3e38d5a0a2463628829a511358856df125c8b51af6d1a671d", func := "loop.example/g00178/laws.FnAcked", spec := "fnAcked", inPlace := ["slices.overlaps[int]"], apart := false }
def FnAckedSaid : Prop := fnAckedRow.holds Try.pinned (OpenSpec.ofChange fnAckedSpec)

/-- ITS FALSE NEIGHBOUR: 'it returns false'. Refute it at one input. -/
def fnAckedWrong : ChangeSpec := { name := "fnAcked", fn := fun _ => fun
  | [d] => { results := [.lit (.bool false)], args := [d] }
  | _ => none }
def FnAckedWrongFalsely : Prop := fnAckedRow.holds Try.pinned (OpenSpec.ofChange fnAckedWrong)

/-- 'laws.FnExactWriterAck': WHATEVER THE INPUT: true; the input reads as it did. -/
def fnExactWriterAckSpec : ChangeSpec := { name := "fnExactWriterAck", fn := fun _ => fun
  | [d1, d2, d3, d4] => { results := [.lit (.bool true)], args := [d1, d2, d3, d4] }
  | _ => none }
def fnExactWriterAckRow : OpenClaim := { program := "ytllmifioelbleab", sum := "2eb91676726f18b3e38d5a0a2463628829a511358856df125c8b51af6d1a671d", func := "loop.example/g00178/laws.FnExactWriterAck", spec := "fnExactWriterAck", inPlace := ["slices.overlaps[int]"], apart := false }
def FnExactWriterAckSaid : Prop := fnExactWriterAckRow.holds Try.pinned (OpenSpec.ofChange fnExactWriterAckSpec)

/-- ITS FALSE NEIGHBOUR: 'it returns false'. Refute it at one input. -/
def fnExactWriterAckWrong : ChangeSpec := { name := "fnExactWriterAck", fn := fun _ => fun
  | [d1, d2, d3, d4] => { results := [.lit (.bool false)], args := [d1, d2, d3, d4] }
  | _ => none }
def FnExactWriterAckWrongFalsely : Prop := fnExactWriterAckRow.holds Try.pinned (OpenSpec.ofChange fnExactWriterAckWrong)

/-- 'laws.FnExactMendPlan': WHATEVER THE INPUT: true; the input reads as it did. -/
def fnExactMendPlanSpec : ChangeSpec := { name := "fnExactMendPlan", fn := fun _ => fun
  | [d1, d2, d3] => { results := [.lit (.bool true)], args := [d1, d2, d3] }
  | _ => none }
def fnExactMendPlanRow : OpenClaim := { program := "ytllmifioelbleab", sum := "2eb91676726f18b3e38d5a0a2463628829a511358856df125c8b51af6d1a671d", func := "loop.example/g00178/laws.FnExactMendPlan", spec := "fnExactMendPlan", unfollowed := true, recurses := true, apart := false }
def FnExactMendPlanSaid : Prop := fnExactMendPlanRow.holds Try.pinned (OpenSpec.ofChange fnExactMendPlanSpec)

/-- ITS FALSE NEIGHBOUR: 'it returns false'. Refute it at one input. -/
def fnExactMendPlanWrong : ChangeSpec := { name := "fnExactMendPlan", fn := fun _ => fun
  | [d1, d2, d3] => { results := [.lit (.bool false)], args := [d1, d2, d3] }
  | _ => none }
def FnExactMendPlanWrongFalsely : Prop := fnExactMendPlanRow.holds Try.pinned (OpenSpec.ofChange fnExactMendPlanWrong)

/-- 'laws.FnExactMendSeal': WHATEVER THE INPUT: true; the input reads as it did. -/
def fnExactMendSealSpec : ChangeSpec := { name := "fnExactMendSeal", fn := fun _ => fun
  | [d1, d2, d3, d4] => { results := [.lit (.bool true)], args := [d1, d2, d3, d4] }
  | _ => none }
def fnExactMendSealRow : OpenClaim := { program := "ytllmifioelbleab", sum := "2eb91676726f18b3e38d5a0a2463628829a511358856df125c8b51af6d1a671d", func := "loop.example/g00178/laws.FnExactMendSeal", spec := "fnExactMendSeal", inPlace := ["slices.overlaps[int]", "slices.overlaps[loop.example/g00178/impl.Entry]"], unfollowed := true, recurses := true, apart := false }
def FnExactMendSealSaid : Prop := fnExactMendSealRow.holds Try.pinned (OpenSpec.ofChange fnExactMendSealSpec)

/-- ITS FALSE NEIGHBOUR: 'it returns false'. Refute it at one input. -/
def fnExactMendSealWrong : ChangeSpec := { name := "fnExactMendSeal", fn := fun _ => fun
  | [d1, d2, d3, d4] => { results := [.lit (.bool false)], args := [d1, d2, d3, d4] }
  | _ => none }
def FnExactMendSealWrongFalsely : Prop := fnExactMendSealRow.holds Try.pinned (OpenSpec.ofChange fnExactMendSealWrong)

/-- 'laws.FnExactMendForget': WHATEVER THE INPUT: true; the input reads as it did. -/
def fnExactMendForgetSpec : ChangeSpec := { name := "fnExactMendForget", fn := fun _ => fun
  | [d1, d2, d3] => { results := [.lit (.bool true)], args := [d1, d2, d3] }
  | _ => none }
def fnExactMendForgetRow : OpenClaim := { program := "ytllmifioelbleab", sum := "2eb91676726f18b3e38d5a0a2463628829a511358856df125c8b51af6d1a671d", func := "loop.example/g00178/laws.FnExactMendForget", spec := "fnExactMendForget", unfollowed := true, recurses := true, apart := false }
def FnExactMendForgetSaid : Prop := fnExactMendForgetRow.holds Try.pinned (OpenSpec.ofChange fnExactMendForgetSpec)

/-- ITS FALSE NEIGHBOUR: 'it returns false'. Refute it at one input. -/
def fnExactMendForgetWrong : ChangeSpec := { name := "fnExactMendForget", fn := fun _ => fun
  | [d1, d2, d3] => { results := [.lit (.bool false)], args := [d1, d2, d3] }
  | _ => none }
def FnExactMendForgetWrongFalsely : Prop := fnExactMendForgetRow.holds Try.pinned (OpenSpec.ofChange fnExactMendForgetWrong)

/- THE SECOND FORM. 'bulk': how many values and letters a reading holds, each counted each time it is reached (what is shared counts as often as it is met; a slice's spare places count too). A statement '..UptoSaid' is the law's where the arguments, and the package variables that the reading takes, are together of bulk at most 1048576: NARROWER than '..Said'. Prove '..Said' where nothing that the law and all that it calls make is longer than what came in: it says more and counts as full. Else prove '..UptoSaid'. A law counts once. -/
mutual
def uptoBulk {H : Type} : DataW H → Nat
  | .lit (.string bytes) => bytes.length + 1
  | .lit _ => 1
  | .nil => 1
  | .ptr d => uptoBulk d + 1
  | .slice elems spare => uptoBulkAll elems + uptoBulkAll spare + 1
  | .agg parts => uptoBulkAll parts + 1
  | .iface _ d => uptoBulk d + 1
  | .map entries => uptoBulkEntries entries + 1
  | .held _ => 1
def uptoBulkAll {H : Type} : List (DataW H) → Nat
  | [] => 0
  | d :: r => uptoBulk d + uptoBulkAll r
def uptoBulkEntries {H : Type} : List (Lit × DataW H) → Nat
  | [] => 0
  | x :: r => uptoBulkEntry x + uptoBulkEntries r
def uptoBulkEntry {H : Type} : Lit × DataW H → Nat
  | (.string bytes, d) => bytes.length + uptoBulk d + 1
  | (_, d) => uptoBulk d + 1
 end
def uptoSmall : (H : Type) → List (DataW H) → Bool := fun _ ds => decide (uptoBulkAll ds ≤ 1048576)
def OpenSpec.upto (s : _root_.Go.ChangeSpec) : _root_.Go.OpenSpec := { _root_.Go.OpenSpec.ofChange s with cond := some uptoSmall }

/-- 'laws.FnExactWriterForget', WHERE WHAT IT READS IS OF BULK AT MOST 1048576: true; the input reads as it did. -/
def fnExactWriterForgetUptoRow : OpenClaim := { program := "ytllmifioelbleab", sum := "2eb91676726f18b3e38d5a0a2463628829a511358856df125c8b51af6d1a671d", func := "loop.example/g00178/laws.FnExactWriterForget", spec := "fnExactWriterForget", unfollowed := true, recurses := true, apart := false, narrowed := true }
def FnExactWriterForgetUptoSaid : Prop := fnExactWriterForgetUptoRow.holds Try.pinned (OpenSpec.upto fnExactWriterForgetSpec)

/-- 'laws.FnAcked', WHERE WHAT IT READS IS OF BULK AT MOST 1048576: true; the input reads as it did. -/
def fnAckedUptoRow : OpenClaim := { program := "ytllmifioelbleab", sum := "2eb91676726f18b3e38d5a0a2463628829a511358856df125c8b51af6d1a671d", func := "loop.example/g00178/laws.FnAcked", spec := "fnAcked", inPlace := ["slices.overlaps[int]"], apart := false, narrowed := true }
def FnAckedUptoSaid : Prop := fnAckedUptoRow.holds Try.pinned (OpenSpec.upto fnAckedSpec)

/-- 'laws.FnExactWriterAck', WHERE WHAT IT READS IS OF BULK AT MOST 1048576: true; the input reads as it did. -/
def fnExactWriterAckUptoRow : OpenClaim := { program := "ytllmifioelbleab", sum := "2eb91676726f18b3e38d5a0a2463628829a511358856df125c8b51af6d1a671d", func := "loop.example/g00178/laws.FnExactWriterAck", spec := "fnExactWriterAck", inPlace := ["slices.overlaps[int]"], apart := false, narrowed := true }
def FnExactWriterAckUptoSaid : Prop := fnExactWriterAckUptoRow.holds Try.pinned (OpenSpec.upto fnExactWriterAckSpec)

/-- 'laws.FnExactMendPlan', WHERE WHAT IT READS IS OF BULK AT MOST 1048576: true; the input reads as it did. -/
def fnExactMendPlanUptoRow : OpenClaim := { program := "ytllmifioelbleab", sum := "2eb91676726f18b3e38d5a0a2463628829a511358856df125c8b51af6d1a671d", func := "loop.example/g00178/laws.FnExactMendPlan", spec := "fnExactMendPlan", unfollowed := true, recurses := true, apart := false, narrowed := true }
def FnExactMendPlanUptoSaid : Prop := fnExactMendPlanUptoRow.holds Try.pinned (OpenSpec.upto fnExactMendPlanSpec)

/-- 'laws.FnExactMendSeal', WHERE WHAT IT READS IS OF BULK AT MOST 1048576: true; the input reads as it did. -/
def fnExactMendSealUptoRow : OpenClaim := { program := "ytllmifioelbleab", sum := "2eb91676726f18b3e38d5a0a2463628829a511358856df125c8b51af6d1a671d", func := "loop.example/g00178/laws.FnExactMendSeal", spec := "fnExactMendSeal", inPlace := ["slices.overlaps[int]", "slices.overlaps[loop.example/g00178/impl.Entry]"], unfollowed := true, recurses := true, apart := false, narrowed := true }
def FnExactMendSealUptoSaid : Prop := fnExactMendSealUptoRow.holds Try.pinned (OpenSpec.upto fnExactMendSealSpec)

/-- 'laws.FnExactMendForget', WHERE WHAT IT READS IS OF BULK AT MOST 1048576: true; the input reads as it did. -/
def fnExactMendForgetUptoRow : OpenClaim := { program := "ytllmifioelbleab", sum := "2eb91676726f18b3e38d5a0a2463628829a511358856df125c8b51af6d1a671d", func := "loop.example/g00178/laws.FnExactMendForget", spec := "fnExactMendForget", unfollowed := true, recurses := true, apart := false, narrowed := true }
def FnExactMendForgetUptoSaid : Prop := fnExactMendForgetUptoRow.holds Try.pinned (OpenSpec.upto fnExactMendForgetSpec)

end Rows
end Go.Proofs.Ytllmifioelbleab
