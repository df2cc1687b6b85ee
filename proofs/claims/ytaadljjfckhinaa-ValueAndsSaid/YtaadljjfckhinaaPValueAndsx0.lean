-- Written by wip/pp of this repo (over the kit's print, with additions of this session); Lean checks every line.
import Derived.Test.YtaadljjfckhinaaProg
import Derived.Below
import Derived.Deep.Draws
import Derived.Deep.AppendLies
import Derived.Maps.AppendAt
import Derived.OwnWalk
import Derived.Laws.BytesArg
import Derived.Laws.MakeOwn
import Derived.Laws.OwnMore
import Derived.Deep.OwnRows
import Derived.Tactics
import Derived.Lib.ConvBytes
import Derived.Laws.Slices
import Derived.WalkKit
import Derived.KernelRfl
import Derived.RowKit3
import Derived.Deep.LoopGhost
import Derived.Deep.QuietTactic
import Derived.BigQuiet
import Derived.WideLaws
import Derived.Deep.DeepCutAuto
import Derived.Deep.CutBlock
import Derived.Deep.RegionHeld3
import Derived.Laws.Rows
import Derived.Lib.AppendStr
import Derived.ArgAppend
import Derived.Laws.IdiomCopy
import Derived.OrdersHeld
import Derived.Laws.BitsLemmas
import Derived.RowKit
import Derived.Lib.Hide
import Derived.Test.YtaadljjfckhinaaWWords
import Derived.Test.YtaadljjfckhinaaWLast
import Derived.Test.YtaadljjfckhinaaWTab
import Derived.Test.YtaadljjfckhinaaWFour
import Derived.Test.YtaadljjfckhinaaWQPut
import Derived.Test.YtaadljjfckhinaaWApart
import Derived.Test.YtaadljjfckhinaaWArr
import Derived.Test.YtaadljjfckhinaaWZeros
import Derived.Test.YtaadljjfckhinaaWFoot
import Derived.Test.YtaadljjfckhinaaWKept
import Derived.Test.YtaadljjfckhinaaWShare
import Derived.Test.YtaadljjfckhinaaWN
import Derived.Test.YtaadljjfckhinaaWFootNe
import Derived.Test.YtaadljjfckhinaaWAt
import Derived.Test.YtaadljjfckhinaaWEqStruct
import Derived.Test.YtaadljjfckhinaaWRepsOne
import Derived.Test.YtaadljjfckhinaaWInv
import Derived.Test.YtaadljjfckhinaaWInvWords
import Derived.Test.YtaadljjfckhinaaWGuard
import Derived.Test.YtaadljjfckhinaaWNEv
import Derived.Test.YtaadljjfckhinaaWMore
namespace Go.Proofs.Ytaadljjfckhinaa.PValueAnds
open Go.RowKit Go.Proofs.YtaadljjfckhinaaW.PrintWords Go.Proofs.YtaadljjfckhinaaW.PrintLast Go.Proofs.YtaadljjfckhinaaW.PrintMore
attribute [local go_sem] max2_int min2_int max_two min_two max_three min_three max_four min_four   -- for this text's walks alone
set_option linter.unusedVariables false
set_option linter.unusedSimpArgs false



def errW : Option Int → Value
  | none => .nilIface
  | some c => .iface 0 (.int .i64 c)
theorem errW_none : errW none = .nilIface := rfl
theorem errW_some (c : Int) : errW (some c) = .iface 0 (.int .i64 c) := rfl

theorem info3 : (Try.prog.info? 3).map (fun i => (i.zero, i.size, i.bytes)) = some (some (.int .i64 0), 1, 8) := by kernel_rfl
-- the values' own types

end Go.Proofs.Ytaadljjfckhinaa.PValueAnds
