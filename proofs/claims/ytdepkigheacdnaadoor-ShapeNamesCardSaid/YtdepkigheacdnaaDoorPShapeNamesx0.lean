-- Written by wip/pp of this repo (over the kit's print, with additions of this session); Lean checks every line.
import Derived.Test.YtdepkigheacdnaaDoorProg
import Derived.Below
import Derived.Deep.Draws
import Derived.Deep.AppendLies
import Derived.Maps.AppendAt
import Derived.OwnWalk
import Derived.Laws.BytesArg
import Derived.Laws.MakeOwn
import Derived.Laws.OwnMore
import Derived.Deep.OwnRows
import Derived.Tactics
import Derived.Lib.ConvBytes
import Derived.Laws.Slices
import Derived.WalkKit
import Derived.KernelRfl
import Derived.RowKit3
import Derived.Deep.LoopGhost
import Derived.Deep.QuietTactic
import Derived.BigQuiet
import Derived.WideLaws
import Derived.Deep.DeepCutAuto
import Derived.Deep.CutBlock
import Derived.Deep.RegionHeld3
import Derived.Laws.Rows
import Derived.Lib.AppendStr
import Derived.ArgAppend
import Derived.Laws.IdiomCopy
import Derived.OrdersHeld
import Derived.Laws.BitsLemmas
import Derived.RowKit
import Derived.Lib.Hide
import Derived.Lib.BytesEntry
import Derived.Laws.Externs
import Derived.Laws.Rows
import Derived.Lib.LaidTab
import Derived.Lib.LaidU8
import Derived.Lib.LaidU8T
import Derived.Shelf.Small.Strs
import Derived.Shelf.Unicode.ValidAny
import Derived.Test.YtdepkigheacdnaaDoorShelfV
import Derived.Test.YtdepkigheacdnaaDoorLdShapeNames
import Derived.Test.YtdepkigheacdnaaDoorWWords
import Derived.Test.YtdepkigheacdnaaDoorWLast
import Derived.Test.YtdepkigheacdnaaDoorWTab
import Derived.Test.YtdepkigheacdnaaDoorWFour
import Derived.Test.YtdepkigheacdnaaDoorWQPut
import Derived.Test.YtdepkigheacdnaaDoorWApart
import Derived.Test.YtdepkigheacdnaaDoorWArr
import Derived.Test.YtdepkigheacdnaaDoorWZeros
import Derived.Test.YtdepkigheacdnaaDoorWFoot
import Derived.Test.YtdepkigheacdnaaDoorWKept
import Derived.Test.YtdepkigheacdnaaDoorWShare
import Derived.Test.YtdepkigheacdnaaDoorWN
import Derived.Test.YtdepkigheacdnaaDoorWFootNe
import Derived.Test.YtdepkigheacdnaaDoorWAt
import Derived.Test.YtdepkigheacdnaaDoorWEqStruct
import Derived.Test.YtdepkigheacdnaaDoorWRepsOne
import Derived.Test.YtdepkigheacdnaaDoorWInv
import Derived.Test.YtdepkigheacdnaaDoorWInvWords
import Derived.Test.YtdepkigheacdnaaDoorWGuard
import Derived.Test.YtdepkigheacdnaaDoorWNEv
import Derived.Test.YtdepkigheacdnaaDoorWMore
namespace Go.Proofs.YtdepkigheacdnaaDoor.PShapeNames
open Go.RowKit Go.Proofs.YtdepkigheacdnaaDoorW.PrintWords Go.Proofs.YtdepkigheacdnaaDoorW.PrintLast Go.Proofs.YtdepkigheacdnaaDoorW.PrintMore
attribute [local go_sem] max2_int min2_int max_two min_two max_three min_three max_four min_four   -- for this text's walks alone
set_option linter.unusedVariables false
set_option linter.unusedSimpArgs false



def errW : Option Int → Value
  | none => .nilIface
  | some c => .iface 0 (.int .i64 c)
theorem errW_none : errW none = .nilIface := rfl
theorem errW_some (c : Int) : errW (some c) = .iface 0 (.int .i64 c) := rfl

-- the values' own types

end Go.Proofs.YtdepkigheacdnaaDoor.PShapeNames
