-- Written by wip/pp of this repo (over the kit's print, with additions of this session); Lean checks every line.
import Derived.Test.YtaadljjfckhinabProg
import Derived.Below
import Derived.Deep.Draws
import Derived.Deep.AppendLies
import Derived.Maps.AppendAt
import Derived.OwnWalk
import Derived.Laws.BytesArg
import Derived.Laws.MakeOwn
import Derived.Laws.OwnMore
import Derived.Deep.OwnRows
import Derived.Tactics
import Derived.Lib.ConvBytes
import Derived.Laws.Slices
import Derived.WalkKit
import Derived.KernelRfl
import Derived.RowKit3
import Derived.Deep.LoopGhost
import Derived.Deep.QuietTactic
import Derived.BigQuiet
import Derived.WideLaws
import Derived.Deep.DeepCutAuto
import Derived.Deep.CutBlock
import Derived.Deep.RegionHeld3
import Derived.Laws.Rows
import Derived.Lib.AppendStr
import Derived.ArgAppend
import Derived.Laws.IdiomCopy
import Derived.OrdersHeld
import Derived.Laws.BitsLemmas
import Derived.RowKit
import Derived.Lib.Hide
import Derived.Lib.BytesEntry
import Derived.Laws.Externs
import Derived.Test.YtaadljjfckhinabWWords
import Derived.Test.YtaadljjfckhinabWLast
import Derived.Test.YtaadljjfckhinabWTab
import Derived.Test.YtaadljjfckhinabWFour
import Derived.Test.YtaadljjfckhinabWQPut
import Derived.Test.YtaadljjfckhinabWApart
import Derived.Test.YtaadljjfckhinabWArr
import Derived.Test.YtaadljjfckhinabWZeros
import Derived.Test.YtaadljjfckhinabWFoot
import Derived.Test.YtaadljjfckhinabWKept
import Derived.Test.YtaadljjfckhinabWShare
import Derived.Test.YtaadljjfckhinabWN
import Derived.Test.YtaadljjfckhinabWFootNe
import Derived.Test.YtaadljjfckhinabWAt
import Derived.Test.YtaadljjfckhinabWEqStruct
import Derived.Test.YtaadljjfckhinabWRepsOne
import Derived.Test.YtaadljjfckhinabWInv
import Derived.Test.YtaadljjfckhinabWInvWords
import Derived.Test.YtaadljjfckhinabWGuard
import Derived.Test.YtaadljjfckhinabWNEv
import Derived.Test.YtaadljjfckhinabWMore
namespace Go.Proofs.Ytaadljjfckhinab.PKeyNexts
open Go.RowKit Go.Proofs.YtaadljjfckhinabW.PrintWords Go.Proofs.YtaadljjfckhinabW.PrintLast Go.Proofs.YtaadljjfckhinabW.PrintMore
attribute [local go_sem] max2_int min2_int max_two min_two max_three min_three max_four min_four   -- for this text's walks alone
set_option linter.unusedVariables false
set_option linter.unusedSimpArgs false



def errW : Option Int → Value
  | none => .nilIface
  | some c => .iface 0 (.int .i64 c)
theorem errW_none : errW none = .nilIface := rfl
theorem errW_some (c : Int) : errW (some c) = .iface 0 (.int .i64 c) := rfl

theorem info5 : (Try.prog.info? 5).map (fun i => (i.zero, i.size, i.bytes)) = some (some (.int .u8 0), 1, 1) := by kernel_rfl
-- the values' own types

end Go.Proofs.Ytaadljjfckhinab.PKeyNexts
