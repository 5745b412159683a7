/-
  No cell of these rows narrows 'for every input' (looked for: loops, veiled, ifaces, maps, wideKeys, modest, calm, conditions, laid).
  DERIVED. THE GIVEN ROWS OF THIS SEAT. 6 by the template 'for every input the law returns true; each argument reads behind the call as it read before'; 0 by the template 'total and deterministic' (their statements: YthgnikafeamidaaTotals.lean).
  GIVEN WITH THE SEED: the statements are not yours to turn. If you find one false, say at which input.
  Laid BY PROGRAM, IN A SANDBOX (cutbox-rows.mjs): the forced cells as the released guide's own fill.sh prints them over the translation 7c061e2fcb44be7f… (all of the seat's roots in one cut). By AI agents, Wed Nov 11 2026. No macro, syntax, notation, axiom, sorry.
-/
import Derived.Test.YthgnikafeamidaaChecked
import GoSem.Claim
import GoSem.ClaimJoined
import GoSem.ClaimMapViews
import Derived.JoinedTies
import Derived.KernelRfl
namespace Go.Proofs.Ythgnikafeamidaa
/- THE CELL 'sum', in the pinned program and in every row, IS THE sha256 OF THE DUMP (.gsa) THAT YthgnikafeamidaaProg.lean LOADS. Nothing in Lean hashes anything: it is a label: what it is worth is what the hold of that sum in a sandbox is worth. -/
noncomputable def Try.pinned : Pinned := { name := "ythgnikafeamidaa", sum := "7c061e2fcb44be7f466183d1cc9c6c6eae1a5f80aa17de212266f515eeabdb93", checked := Try.checked }
namespace Rows
def none {H : Type} : Left H := { results := [], args := [] }

/-- 'laws.FnExactUnion': WHATEVER THE INPUT: true; the input reads as it did. -/
def fnExactUnionSpec : ChangeSpec := { name := "fnExactUnion", fn := fun _ => fun
  | [d] => { results := [.lit (.bool true)], args := [d] }
  | _ => none }
def fnExactUnionRow : OpenClaim := { program := "ythgnikafeamidaa", sum := "7c061e2fcb44be7f466183d1cc9c6c6eae1a5f80aa17de212266f515eeabdb93", func := "loop.example/g00178/laws.FnExactUnion", spec := "fnExactUnion", inPlace := ["slices.overlaps[loop.example/g00178/impl.Entry]"], unfollowed := true, recurses := true, apart := false }
def FnExactUnionSaid : Prop := fnExactUnionRow.holds Try.pinned (OpenSpec.ofChange fnExactUnionSpec)

/-- ITS FALSE NEIGHBOUR: 'it returns false'. Refute it at one input. -/
def fnExactUnionWrong : ChangeSpec := { name := "fnExactUnion", fn := fun _ => fun
  | [d] => { results := [.lit (.bool false)], args := [d] }
  | _ => none }
def FnExactUnionWrongFalsely : Prop := fnExactUnionRow.holds Try.pinned (OpenSpec.ofChange fnExactUnionWrong)

/-- 'laws.FnUnion': WHATEVER THE INPUT: true; the input reads as it did. -/
def fnUnionSpec : ChangeSpec := { name := "fnUnion", fn := fun _ => fun
  | [d] => { results := [.lit (.bool true)], args := [d] }
  | _ => none }
def fnUnionRow : OpenClaim := { program := "ythgnikafeamidaa", sum := "7c061e2fcb44be7f466183d1cc9c6c6eae1a5f80aa17de212266f515eeabdb93", func := "loop.example/g00178/laws.FnUnion", spec := "fnUnion", inPlace := ["slices.overlaps[loop.example/g00178/impl.Entry]"], unfollowed := true, recurses := true, apart := false }
def FnUnionSaid : Prop := fnUnionRow.holds Try.pinned (OpenSpec.ofChange fnUnionSpec)

/-- ITS FALSE NEIGHBOUR: 'it returns false'. Refute it at one input. -/
def fnUnionWrong : ChangeSpec := { name := "fnUnion", fn := fun _ => fun
  | [d] => { results := [.lit (.bool false)], args := [d] }
  | _ => none }
def FnUnionWrongFalsely : Prop := fnUnionRow.holds Try.pinned (OpenSpec.ofChange fnUnionWrong)

/-- 'laws.FnFilled': WHATEVER THE INPUT: true; the input reads as it did. -/
def fnFilledSpec : ChangeSpec := { name := "fnFilled", fn := fun _ => fun
  | [d] => { results := [.lit (.bool true)], args := [d] }
  | _ => none }
def fnFilledRow : OpenClaim := { program := "ythgnikafeamidaa", sum := "7c061e2fcb44be7f466183d1cc9c6c6eae1a5f80aa17de212266f515eeabdb93", func := "loop.example/g00178/laws.FnFilled", spec := "fnFilled", inPlace := ["slices.overlaps[loop.example/g00178/impl.Entry]"], unfollowed := true, recurses := true, apart := false }
def FnFilledSaid : Prop := fnFilledRow.holds Try.pinned (OpenSpec.ofChange fnFilledSpec)

/-- ITS FALSE NEIGHBOUR: 'it returns false'. Refute it at one input. -/
def fnFilledWrong : ChangeSpec := { name := "fnFilled", fn := fun _ => fun
  | [d] => { results := [.lit (.bool false)], args := [d] }
  | _ => none }
def FnFilledWrongFalsely : Prop := fnFilledRow.holds Try.pinned (OpenSpec.ofChange fnFilledWrong)

/-- 'laws.FnExactFill': WHATEVER THE INPUT: true; the input reads as it did. -/
def fnExactFillSpec : ChangeSpec := { name := "fnExactFill", fn := fun _ => fun
  | [d1, d2, d3, d4, d5] => { results := [.lit (.bool true)], args := [d1, d2, d3, d4, d5] }
  | _ => none }
def fnExactFillRow : OpenClaim := { program := "ythgnikafeamidaa", sum := "7c061e2fcb44be7f466183d1cc9c6c6eae1a5f80aa17de212266f515eeabdb93", func := "loop.example/g00178/laws.FnExactFill", spec := "fnExactFill", inPlace := ["slices.overlaps[loop.example/g00178/impl.Entry]"], unfollowed := true, recurses := true, apart := false }
def FnExactFillSaid : Prop := fnExactFillRow.holds Try.pinned (OpenSpec.ofChange fnExactFillSpec)

/-- ITS FALSE NEIGHBOUR: 'it returns false'. Refute it at one input. -/
def fnExactFillWrong : ChangeSpec := { name := "fnExactFill", fn := fun _ => fun
  | [d1, d2, d3, d4, d5] => { results := [.lit (.bool false)], args := [d1, d2, d3, d4, d5] }
  | _ => none }
def FnExactFillWrongFalsely : Prop := fnExactFillRow.holds Try.pinned (OpenSpec.ofChange fnExactFillWrong)

/-- 'laws.FnExactMendAck': WHATEVER THE INPUT: true; the input reads as it did. -/
def fnExactMendAckSpec : ChangeSpec := { name := "fnExactMendAck", fn := fun _ => fun
  | [d1, d2, d3, d4] => { results := [.lit (.bool true)], args := [d1, d2, d3, d4] }
  | _ => none }
def fnExactMendAckRow : OpenClaim := { program := "ythgnikafeamidaa", sum := "7c061e2fcb44be7f466183d1cc9c6c6eae1a5f80aa17de212266f515eeabdb93", func := "loop.example/g00178/laws.FnExactMendAck", spec := "fnExactMendAck", inPlace := ["slices.overlaps[int]"], apart := false }
def FnExactMendAckSaid : Prop := fnExactMendAckRow.holds Try.pinned (OpenSpec.ofChange fnExactMendAckSpec)

/-- ITS FALSE NEIGHBOUR: 'it returns false'. Refute it at one input. -/
def fnExactMendAckWrong : ChangeSpec := { name := "fnExactMendAck", fn := fun _ => fun
  | [d1, d2, d3, d4] => { results := [.lit (.bool false)], args := [d1, d2, d3, d4] }
  | _ => none }
def FnExactMendAckWrongFalsely : Prop := fnExactMendAckRow.holds Try.pinned (OpenSpec.ofChange fnExactMendAckWrong)

/-- 'laws.FnPlanned': WHATEVER THE INPUT: true; the input reads as it did. -/
def fnPlannedSpec : ChangeSpec := { name := "fnPlanned", fn := fun _ => fun
  | [d] => { results := [.lit (.bool true)], args := [d] }
  | _ => none }
def fnPlannedRow : OpenClaim := { program := "ythgnikafeamidaa", sum := "7c061e2fcb44be7f466183d1cc9c6c6eae1a5f80aa17de212266f515eeabdb93", func := "loop.example/g00178/laws.FnPlanned", spec := "fnPlanned", unfollowed := true, recurses := true, apart := false }
def FnPlannedSaid : Prop := fnPlannedRow.holds Try.pinned (OpenSpec.ofChange fnPlannedSpec)

/-- ITS FALSE NEIGHBOUR: 'it returns false'. Refute it at one input. -/
def fnPlannedWrong : ChangeSpec := { name := "fnPlanned", fn := fun _ => fun
  | [d] => { results := [.lit (.bool false)], args := [d] }
  | _ => none }
def FnPlannedWrongFalsely : Prop := fnPlannedRow.holds Try.pinned (OpenSpec.ofChange fnPlannedWrong)

/- THE SECOND FORM. 'bulk': how many values and letters a reading holds, each counted each time it is reached (what is shared counts as often as it is met; a slice's spare places count too). A statement '..UptoSaid' is the law's where the arguments, and the package variables that the reading takes, are together of bulk at most 1048576: NARROWER than '..Said'. Prove '..Said' where nothing that the law and all that it calls make is longer than what came in: it says more and counts as full. Else prove '..UptoSaid'. A law counts once. -/
mutual
def uptoBulk {H : Type} : DataW H → Nat
  | .lit (.string bytes) => bytes.length + 1
  | .lit _ => 1
  | .nil => 1
  | .ptr d => uptoBulk d + 1
  | .slice elems spare => uptoBulkAll elems + uptoBulkAll spare + 1
  | .agg parts => uptoBulkAll parts + 1
  | .iface _ d => uptoBulk d + 1
  | .map entries => uptoBulkEntries entries + 1
  | .held _ => 1
def uptoBulkAll {H : Type} : List (DataW H) → Nat
  | [] => 0
  | d :: r => uptoBulk d + uptoBulkAll r
def uptoBulkEntries {H : Type} : List (Lit × DataW H) → Nat
  | [] => 0
  | x :: r => uptoBulkEntry x + uptoBulkEntries r
def uptoBulkEntry {H : Type} : Lit × DataW H → Nat
  | (.string bytes, d) => bytes.length + uptoBulk d + 1
  | (_, d) => uptoBulk d + 1
 end
def uptoSmall : (H : Type) → List (DataW H) → Bool := fun _ ds => decide (uptoBulkAll ds ≤ 1048576)
def OpenSpec.upto (s : _root_.Go.ChangeSpec) : _root_.Go.OpenSpec := { _root_.Go.OpenSpec.ofChange s with cond := some uptoSmall }

/-- 'laws.FnExactUnion', WHERE WHAT IT READS IS OF BULK AT MOST 1048576: true; the input reads as it did. -/
def fnExactUnionUptoRow : OpenClaim := { program := "ythgnikafeamidaa", sum := "7c061e2fcb44be7f466183d1cc9c6c6eae1a5f80aa17de212266f515eeabdb93", func := "loop.example/g00178/laws.FnExactUnion", spec := "fnExactUnion", inPlace := ["slices.overlaps[loop.example/g00178/impl.Entry]"], unfollowed := true, recurses := true, apart := false, narrowed := true }
def FnExactUnionUptoSaid : Prop := fnExactUnionUptoRow.holds Try.pinned (OpenSpec.upto fnExactUnionSpec)

/-- 'laws.FnUnion', WHERE WHAT IT READS IS OF BULK AT MOST 1048576: true; the input reads as it did. -/
def fnUnionUptoRow : OpenClaim := { program := "ythgnikafeamidaa", sum := "7c061e2fcb44be7f466183d1cc9c6c6eae1a5f80aa17de212266f515eeabdb93", func := "loop.example/g00178/laws.FnUnion", spec := "fnUnion", inPlace := ["slices.overlaps[loop.example/g00178/impl.Entry]"], unfollowed := true, recurses := true, apart := false, narrowed := true }
def FnUnionUptoSaid : Prop := fnUnionUptoRow.holds Try.pinned (OpenSpec.upto fnUnionSpec)

/-- 'laws.FnFilled', WHERE WHAT IT READS IS OF BULK AT MOST 1048576: true; the input reads as it did. -/
def fnFilledUptoRow : OpenClaim := { program := "ythgnikafeamidaa", sum := "7c061e2fcb44be7f466183d1cc9c6c6eae1a5f80aa17de212266f515eeabdb93", func := "loop.example/g00178/laws.FnFilled", spec := "fnFilled", inPlace := ["slices.overlaps[loop.example/g00178/impl.Entry]"], unfollowed := true, recurses := true, apart := false, narrowed := true }
def FnFilledUptoSaid : Prop := fnFilledUptoRow.holds Try.pinned (OpenSpec.upto fnFilledSpec)

/-- 'laws.FnExactFill', WHERE WHAT IT READS IS OF BULK AT MOST 1048576: true; the input reads as it did. -/
def fnExactFillUptoRow : OpenClaim := { program := "ythgnikafeamidaa", sum := "7c061e2fcb44be7f466183d1cc9c6c6eae1a5f80aa17de212266f515eeabdb93", func := "loop.example/g00178/laws.FnExactFill", spec := "fnExactFill", inPlace := ["slices.overlaps[loop.example/g00178/impl.Entry]"], unfollowed := true, recurses := true, apart := false, narrowed := true }
def FnExactFillUptoSaid : Prop := fnExactFillUptoRow.holds Try.pinned (OpenSpec.upto fnExactFillSpec)

/-- 'laws.FnExactMendAck', WHERE WHAT IT READS IS OF BULK AT MOST 1048576: true; the input reads as it did. -/
def fnExactMendAckUptoRow : OpenClaim := { program := "ythgnikafeamidaa", sum := "7c061e2fcb44be7f466183d1cc9c6c6eae1a5f80aa17de212266f515eeabdb93", func := "loop.example/g00178/laws.FnExactMendAck", spec := "fnExactMendAck", inPlace := ["slices.overlaps[int]"], apart := false, narrowed := true }
def FnExactMendAckUptoSaid : Prop := fnExactMendAckUptoRow.holds Try.pinned (OpenSpec.upto fnExactMendAckSpec)

/-- 'laws.FnPlanned', WHERE WHAT IT READS IS OF BULK AT MOST 1048576: true; the input reads as it did. -/
def fnPlannedUptoRow : OpenClaim := { program := "ythgnikafeamidaa", sum := "7c061e2fcb44be7f466183d1cc9c6c6eae1a5f80aa17de212266f515eeabdb93", func := "loop.example/g00178/laws.FnPlanned", spec := "fnPlanned", unfollowed := true, recurses := true, apart := false, narrowed := true }
def FnPlannedUptoSaid : Prop := fnPlannedUptoRow.holds Try.pinned (OpenSpec.upto fnPlannedSpec)

end Rows
end Go.Proofs.Ythgnikafeamidaa
