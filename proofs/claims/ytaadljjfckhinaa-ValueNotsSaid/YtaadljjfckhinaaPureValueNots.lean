/- value.Not answers as its reference does. No condition beyond the statement's own. -/
import Derived.Test.YtaadljjfckhinaaPValueNotsx1
import Derived.OpenShut
namespace Go.Proofs.Ytaadljjfckhinaa.Pure.ValueNotsOf
open Go Go.RowKit Go.Proofs.Ytaadljjfckhinaa.PValueNots Go.Proofs.YtaadljjfckhinaaW.PrintWords Go.Proofs.YtaadljjfckhinaaW.PrintLast
end Go.Proofs.Ytaadljjfckhinaa.Pure.ValueNotsOf
namespace Go.Proofs.Ytaadljjfckhinaa.Pure
open Go Go.RowKit Go.Proofs.Ytaadljjfckhinaa.PValueNots Go.Proofs.YtaadljjfckhinaaW.PrintWords Go.Proofs.YtaadljjfckhinaaW.PrintLast ValueNotsOf
theorem ValueNots : commonholdlaw_ValueNots.Pure := by
  intro a w
  have hb := bounds_i64 w
  unfold commonholdlaw_ValueNots.f value_Not.f commonholdref_Negated.f
  by_cases h0 : a = 0
  · subst h0; decide +kernel
  by_cases h1 : a = 1
  · subst h1; decide +kernel
  by_cases h2 : a = 2
  · subst h2; decide +kernel
  rw [if_neg h0, if_neg h2, if_neg h1]
  by_cases hn : a < 0
  · rw [if_pos hn]; simp
  · rw [if_neg hn, if_pos (by omega)]; simp
end Go.Proofs.Ytaadljjfckhinaa.Pure
