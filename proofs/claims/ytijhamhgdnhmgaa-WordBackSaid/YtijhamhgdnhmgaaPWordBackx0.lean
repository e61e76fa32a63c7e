-- Printed by a program of this session's (wip/tools/printx.py, over the kit's print program).
import Derived.Test.YtijhamhgdnhmgaaProg
import Derived.Below
import Derived.Deep.Draws
import Derived.Deep.AppendLies
import Derived.Maps.AppendAt
import Derived.OwnWalk
import Derived.Laws.BytesArg
import Derived.Laws.MakeOwn
import Derived.Laws.OwnMore
import Derived.Deep.OwnRows
import Derived.Tactics
import Derived.Lib.ConvBytes
import Derived.Laws.Slices
import Derived.WalkKit
import Derived.KernelRfl
import Derived.RowKit3
import Derived.Deep.LoopGhost
import Derived.Deep.QuietTactic
import Derived.BigQuiet
import Derived.WideLaws
import Derived.Deep.DeepCutAuto
import Derived.Deep.CutBlock
import Derived.Deep.RegionHeld3
import Derived.Laws.Rows
import Derived.Lib.AppendStr
import Derived.ArgAppend
import Derived.Laws.IdiomCopy
import Derived.OrdersHeld
import Derived.Laws.BitsLemmas
import Derived.RowKit
import Derived.Test.YtijhamhgdnhmgaaParts
import Derived.Test.YtijhamhgdnhmgaaWWords
import Derived.Test.YtijhamhgdnhmgaaWLast
import Derived.Test.YtijhamhgdnhmgaaWTab
import Derived.Test.YtijhamhgdnhmgaaWFour
import Derived.Test.YtijhamhgdnhmgaaWQPut
import Derived.Test.YtijhamhgdnhmgaaWApart
import Derived.Test.YtijhamhgdnhmgaaWArr
import Derived.Test.YtijhamhgdnhmgaaWZeros
import Derived.Test.YtijhamhgdnhmgaaWFoot
import Derived.Test.YtijhamhgdnhmgaaWKept
import Derived.Test.YtijhamhgdnhmgaaWShare
import Derived.Test.YtijhamhgdnhmgaaWN
import Derived.Test.YtijhamhgdnhmgaaWFootNe
import Derived.Test.YtijhamhgdnhmgaaWAt
import Derived.Test.YtijhamhgdnhmgaaWEqStruct
import Derived.Test.YtijhamhgdnhmgaaWRepsOne
import Derived.Test.YtijhamhgdnhmgaaWInv
import Derived.Test.YtijhamhgdnhmgaaWInvWords
import Derived.Test.YtijhamhgdnhmgaaWGuard
import Derived.Test.YtijhamhgdnhmgaaWNEv
import Derived.Test.YtijhamhgdnhmgaaWMore
namespace Go.Proofs.Ytijhamhgdnhmgaa.PWordBack
open Go.RowKit Go.Proofs.YtijhamhgdnhmgaaW.PrintWords Go.Proofs.YtijhamhgdnhmgaaW.PrintLast Go.Proofs.YtijhamhgdnhmgaaW.PrintMore
attribute [local go_sem] max2_int min2_int max_two min_two max_three min_three max_four min_four   -- for this text's walks alone
set_option linter.unusedVariables false
set_option linter.unusedSimpArgs false



def errW : Option Int → Value
  | none => .nilIface
  | some c => .iface 0 (.int .i64 c)
theorem errW_none : errW none = .nilIface := rfl
theorem errW_some (c : Int) : errW (some c) = .iface 0 (.int .i64 c) := rfl

theorem info4 : (Try.prog.info? 4).map (fun i => (i.zero, i.size, i.bytes)) = some (some (.bool false), 1, 1) := by kernel_rfl
-- the values' own types

end Go.Proofs.Ytijhamhgdnhmgaa.PWordBack
