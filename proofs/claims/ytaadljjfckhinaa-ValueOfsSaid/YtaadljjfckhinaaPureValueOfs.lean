/- value.Of answers as its reference does. No condition beyond the statement's own. -/
import Derived.Test.YtaadljjfckhinaaPValueOfsx2
import Derived.OpenShut
namespace Go.Proofs.Ytaadljjfckhinaa.Pure.ValueOfsOf
open Go Go.RowKit Go.Proofs.Ytaadljjfckhinaa.PValueOfs Go.Proofs.YtaadljjfckhinaaW.PrintWords Go.Proofs.YtaadljjfckhinaaW.PrintLast
end Go.Proofs.Ytaadljjfckhinaa.Pure.ValueOfsOf
namespace Go.Proofs.Ytaadljjfckhinaa.Pure
open Go Go.RowKit Go.Proofs.Ytaadljjfckhinaa.PValueOfs Go.Proofs.YtaadljjfckhinaaW.PrintWords Go.Proofs.YtaadljjfckhinaaW.PrintLast ValueOfsOf
theorem ValueOfs : commonholdlaw_ValueOfs.Pure := by
  intro a w
  refine ⟨3, ?_⟩
  unfold commonholdlaw_ValueOfs.f value_Of.f commonholdref_TruthOf.f
  by_cases h0 : a = 0
  · subst h0; decide +kernel
  by_cases h1 : a = 1
  · subst h1; decide +kernel
  by_cases h2 : a = 2
  · subst h2; decide +kernel
  have e2 : (a == 2) = false := by simpa using h2
  rw [if_neg h0, if_neg h0, if_neg h2, if_neg h1, e2]
  simp only [value_Of.j0]
  rw [if_neg (by simp), if_neg h1]
  simp
end Go.Proofs.Ytaadljjfckhinaa.Pure
