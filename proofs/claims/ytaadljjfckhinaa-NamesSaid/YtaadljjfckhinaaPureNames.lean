/- The codes, kinds and limits of package api are the documented ones. No condition beyond the statement's own. -/
import Derived.Test.YtaadljjfckhinaaPNamesx1
import Derived.OpenShut
namespace Go.Proofs.Ytaadljjfckhinaa.Pure.NamesOf
open Go Go.RowKit Go.Proofs.Ytaadljjfckhinaa.PNames Go.Proofs.YtaadljjfckhinaaW.PrintWords Go.Proofs.YtaadljjfckhinaaW.PrintLast
end Go.Proofs.Ytaadljjfckhinaa.Pure.NamesOf
namespace Go.Proofs.Ytaadljjfckhinaa.Pure
open Go Go.RowKit Go.Proofs.Ytaadljjfckhinaa.PNames Go.Proofs.YtaadljjfckhinaaW.PrintWords Go.Proofs.YtaadljjfckhinaaW.PrintLast NamesOf
theorem Names : commonholdlaw_Names.Pure := ⟨200, by decide +kernel⟩
end Go.Proofs.Ytaadljjfckhinaa.Pure
