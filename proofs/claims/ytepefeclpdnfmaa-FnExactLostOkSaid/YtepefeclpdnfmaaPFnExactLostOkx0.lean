-- Written by wip/gen/xprint.py of this repo over the translation's functions. Lean checks it.
import Derived.Test.YtepefeclpdnfmaaProg
import Derived.Below
import Derived.Deep.Draws
import Derived.Deep.AppendLies
import Derived.Maps.AppendAt
import Derived.OwnWalk
import Derived.Laws.BytesArg
import Derived.Laws.MakeOwn
import Derived.Laws.OwnMore
import Derived.Deep.OwnRows
import Derived.Tactics
import Derived.Lib.ConvBytes
import Derived.Laws.Slices
import Derived.WalkKit
import Derived.KernelRfl
import Derived.RowKit3
import Derived.Deep.LoopGhost
import Derived.Deep.QuietTactic
import Derived.BigQuiet
import Derived.WideLaws
import Derived.Deep.DeepCutAuto
import Derived.Deep.CutBlock
import Derived.Deep.RegionHeld3
import Derived.Laws.Rows
import Derived.Lib.AppendStr
import Derived.ArgAppend
import Derived.Laws.IdiomCopy
import Derived.OrdersHeld
import Derived.Laws.BitsLemmas
import Derived.RowKit
import Derived.Test.YtepefeclpdnfmaaWWords
import Derived.Test.YtepefeclpdnfmaaWLast
import Derived.Test.YtepefeclpdnfmaaWTab
import Derived.Test.YtepefeclpdnfmaaWFour
import Derived.Test.YtepefeclpdnfmaaWQPut
import Derived.Test.YtepefeclpdnfmaaWApart
import Derived.Test.YtepefeclpdnfmaaWArr
import Derived.Test.YtepefeclpdnfmaaWZeros
import Derived.Test.YtepefeclpdnfmaaWFoot
import Derived.Test.YtepefeclpdnfmaaWKept
import Derived.Test.YtepefeclpdnfmaaWShare
import Derived.Test.YtepefeclpdnfmaaWN
import Derived.Test.YtepefeclpdnfmaaWFootNe
import Derived.Test.YtepefeclpdnfmaaWAt
import Derived.Test.YtepefeclpdnfmaaWEqStruct
import Derived.Test.YtepefeclpdnfmaaWRepsOne
import Derived.Test.YtepefeclpdnfmaaWInv
import Derived.Test.YtepefeclpdnfmaaWInvWords
import Derived.Test.YtepefeclpdnfmaaWGuard
import Derived.Test.YtepefeclpdnfmaaWNEv
import Derived.Test.YtepefeclpdnfmaaWMore
import Derived.Test.YtepefeclpdnfmaaWSq
namespace Go.Proofs.Ytepefeclpdnfmaa.PFnExactLostOk
open Go.RowKit Go.Proofs.YtepefeclpdnfmaaW.PrintWords Go.Proofs.YtepefeclpdnfmaaW.PrintLast Go.Proofs.YtepefeclpdnfmaaW.PrintMore Go.Proofs.YtepefeclpdnfmaaW.Sq
attribute [local go_sem] max2_int min2_int max_two min_two max_three min_three max_four min_four   -- for this text's walks alone
set_option linter.unusedVariables false
set_option linter.unusedSimpArgs false



def errW : Option Int → Value
  | none => .nilIface
  | some c => .iface 0 (.int .i64 c)
theorem errW_none : errW none = .nilIface := rfl
theorem errW_some (c : Int) : errW (some c) = .iface 0 (.int .i64 c) := rfl

theorem info3 : (Try.prog.info? 3).map (fun i => (i.zero, i.size, i.bytes)) = some (some (.int .i64 0), 1, 8) := by kernel_rfl
theorem info4 : (Try.prog.info? 4).map (fun i => (i.zero, i.size, i.bytes)) = some (some (.bool false), 1, 1) := by kernel_rfl
-- the values' own types

end Go.Proofs.Ytepefeclpdnfmaa.PFnExactLostOk
