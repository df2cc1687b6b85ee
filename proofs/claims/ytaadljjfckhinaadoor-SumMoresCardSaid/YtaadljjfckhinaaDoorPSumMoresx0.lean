-- Written by wip/pp of this repo (over the kit's print, with additions of this session); Lean checks every line.
import Derived.Test.YtaadljjfckhinaaDoorProg
import Derived.Below
import Derived.Deep.Draws
import Derived.Deep.AppendLies
import Derived.Maps.AppendAt
import Derived.OwnWalk
import Derived.Laws.BytesArg
import Derived.Laws.MakeOwn
import Derived.Laws.OwnMore
import Derived.Deep.OwnRows
import Derived.Tactics
import Derived.Lib.ConvBytes
import Derived.Laws.Slices
import Derived.WalkKit
import Derived.KernelRfl
import Derived.RowKit3
import Derived.Deep.LoopGhost
import Derived.Deep.QuietTactic
import Derived.BigQuiet
import Derived.WideLaws
import Derived.Deep.DeepCutAuto
import Derived.Deep.CutBlock
import Derived.Deep.RegionHeld3
import Derived.Laws.Rows
import Derived.Lib.AppendStr
import Derived.ArgAppend
import Derived.Laws.IdiomCopy
import Derived.OrdersHeld
import Derived.Laws.BitsLemmas
import Derived.RowKit
import Derived.Lib.Hide
import Derived.Lib.BytesEntry
import Derived.Laws.Externs
import Derived.Lib.LaidTab
import Derived.Lib.LaidU8
import Derived.Test.YtaadljjfckhinaaDoorLdSumMores
import Derived.Test.YtaadljjfckhinaaDoorWWords
import Derived.Test.YtaadljjfckhinaaDoorWLast
import Derived.Test.YtaadljjfckhinaaDoorWTab
import Derived.Test.YtaadljjfckhinaaDoorWFour
import Derived.Test.YtaadljjfckhinaaDoorWQPut
import Derived.Test.YtaadljjfckhinaaDoorWApart
import Derived.Test.YtaadljjfckhinaaDoorWArr
import Derived.Test.YtaadljjfckhinaaDoorWZeros
import Derived.Test.YtaadljjfckhinaaDoorWFoot
import Derived.Test.YtaadljjfckhinaaDoorWKept
import Derived.Test.YtaadljjfckhinaaDoorWShare
import Derived.Test.YtaadljjfckhinaaDoorWN
import Derived.Test.YtaadljjfckhinaaDoorWFootNe
import Derived.Test.YtaadljjfckhinaaDoorWAt
import Derived.Test.YtaadljjfckhinaaDoorWEqStruct
import Derived.Test.YtaadljjfckhinaaDoorWRepsOne
import Derived.Test.YtaadljjfckhinaaDoorWInv
import Derived.Test.YtaadljjfckhinaaDoorWInvWords
import Derived.Test.YtaadljjfckhinaaDoorWGuard
import Derived.Test.YtaadljjfckhinaaDoorWNEv
import Derived.Test.YtaadljjfckhinaaDoorWMore
namespace Go.Proofs.YtaadljjfckhinaaDoor.PSumMores
open Go.RowKit Go.Proofs.YtaadljjfckhinaaDoorW.PrintWords Go.Proofs.YtaadljjfckhinaaDoorW.PrintLast Go.Proofs.YtaadljjfckhinaaDoorW.PrintMore
attribute [local go_sem] max2_int min2_int max_two min_two max_three min_three max_four min_four   -- for this text's walks alone
set_option linter.unusedVariables false
set_option linter.unusedSimpArgs false



def errW : Option Int → Value
  | none => .nilIface
  | some c => .iface 0 (.int .i64 c)
theorem errW_none : errW none = .nilIface := rfl
theorem errW_some (c : Int) : errW (some c) = .iface 0 (.int .i64 c) := rfl

theorem info3 : (Tryd.prog.info? 3).map (fun i => (i.zero, i.size, i.bytes)) = some (some (.int .i64 0), 1, 8) := by kernel_rfl
theorem info5 : (Tryd.prog.info? 5).map (fun i => (i.zero, i.size, i.bytes)) = some (some (.int .u8 0), 1, 1) := by kernel_rfl
-- the values' own types

end Go.Proofs.YtaadljjfckhinaaDoor.PSumMores
