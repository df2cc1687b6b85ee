-- Written by wip/pp of this repo (over the kit's print, with additions of this session); Lean checks every line.
import Derived.Test.YtaadljjfckhinabDoorProg
import Derived.Below
import Derived.Deep.Draws
import Derived.Deep.AppendLies
import Derived.Maps.AppendAt
import Derived.OwnWalk
import Derived.Laws.BytesArg
import Derived.Laws.MakeOwn
import Derived.Laws.OwnMore
import Derived.Deep.OwnRows
import Derived.Tactics
import Derived.Lib.ConvBytes
import Derived.Laws.Slices
import Derived.WalkKit
import Derived.KernelRfl
import Derived.RowKit3
import Derived.Deep.LoopGhost
import Derived.Deep.QuietTactic
import Derived.BigQuiet
import Derived.WideLaws
import Derived.Deep.DeepCutAuto
import Derived.Deep.CutBlock
import Derived.Deep.RegionHeld3
import Derived.Laws.Rows
import Derived.Lib.AppendStr
import Derived.ArgAppend
import Derived.Laws.IdiomCopy
import Derived.OrdersHeld
import Derived.Laws.BitsLemmas
import Derived.RowKit
import Derived.Lib.Hide
import Derived.Lib.BytesEntry
import Derived.Laws.Externs
import Derived.Deep.RegionHeld3
import Derived.IntWalk
import Derived.Laws.Cover3
import Derived.Lib.LaidTab
import Derived.Lib.LaidU8
import Derived.Lib.SliceRun
import Derived.Test.YtaadljjfckhinabDoorLdFrameSeals
import Derived.Test.YtaadljjfckhinabDoorWWords
import Derived.Test.YtaadljjfckhinabDoorWLast
import Derived.Test.YtaadljjfckhinabDoorWTab
import Derived.Test.YtaadljjfckhinabDoorWFour
import Derived.Test.YtaadljjfckhinabDoorWQPut
import Derived.Test.YtaadljjfckhinabDoorWApart
import Derived.Test.YtaadljjfckhinabDoorWArr
import Derived.Test.YtaadljjfckhinabDoorWZeros
import Derived.Test.YtaadljjfckhinabDoorWFoot
import Derived.Test.YtaadljjfckhinabDoorWKept
import Derived.Test.YtaadljjfckhinabDoorWShare
import Derived.Test.YtaadljjfckhinabDoorWN
import Derived.Test.YtaadljjfckhinabDoorWFootNe
import Derived.Test.YtaadljjfckhinabDoorWAt
import Derived.Test.YtaadljjfckhinabDoorWEqStruct
import Derived.Test.YtaadljjfckhinabDoorWRepsOne
import Derived.Test.YtaadljjfckhinabDoorWInv
import Derived.Test.YtaadljjfckhinabDoorWInvWords
import Derived.Test.YtaadljjfckhinabDoorWGuard
import Derived.Test.YtaadljjfckhinabDoorWNEv
import Derived.Test.YtaadljjfckhinabDoorWMore
namespace Go.Proofs.YtaadljjfckhinabDoor.PFrameSeals
open Go.RowKit Go.Proofs.YtaadljjfckhinabDoorW.PrintWords Go.Proofs.YtaadljjfckhinabDoorW.PrintLast Go.Proofs.YtaadljjfckhinabDoorW.PrintMore
attribute [local go_sem] max2_int min2_int max_two min_two max_three min_three max_four min_four   -- for this text's walks alone
set_option linter.unusedVariables false
set_option linter.unusedSimpArgs false



def errW : Option Int → Value
  | none => .nilIface
  | some c => .iface 0 (.int .i64 c)
theorem errW_none : errW none = .nilIface := rfl
theorem errW_some (c : Int) : errW (some c) = .iface 0 (.int .i64 c) := rfl

theorem info3 : (Tryd.prog.info? 3).map (fun i => (i.zero, i.size, i.bytes)) = some (some (.int .i64 0), 1, 8) := by kernel_rfl
theorem info5 : (Tryd.prog.info? 5).map (fun i => (i.zero, i.size, i.bytes)) = some (some (.int .u8 0), 1, 1) := by kernel_rfl
-- the values' own types

end Go.Proofs.YtaadljjfckhinabDoor.PFrameSeals
