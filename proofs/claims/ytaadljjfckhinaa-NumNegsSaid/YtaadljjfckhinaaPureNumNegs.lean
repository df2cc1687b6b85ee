/- num.Neg answers as its reference does. No condition beyond the statement's own. -/
import Derived.Test.YtaadljjfckhinaaPNumNegsx1
import Derived.OpenShut
namespace Go.Proofs.Ytaadljjfckhinaa.Pure.NumNegsOf
open Go Go.RowKit Go.Proofs.Ytaadljjfckhinaa.PNumNegs Go.Proofs.YtaadljjfckhinaaW.PrintWords Go.Proofs.YtaadljjfckhinaaW.PrintLast
theorem size_eq {a : Int} (h : -9223372036854775808 ≤ a ∧ a ≤ 9223372036854775807) : commonholdref_size.f a = some (if a < 0 then -a else a) := by
  unfold commonholdref_size.f
  split <;> simp only [IntKind.wrap_u64] <;> congr 1 <;> omega
theorem size_pos {a : Int} (h : -9223372036854775808 ≤ a ∧ a ≤ 9223372036854775807) (h0 : 0 ≤ a) : commonholdref_size.f a = some a := by
  rw [size_eq h, if_neg (by omega)]
theorem size_neg {a : Int} (h : -9223372036854775808 ≤ a ∧ a ≤ 9223372036854775807) (h0 : a < 0) : commonholdref_size.f a = some (-a) := by
  rw [size_eq h, if_pos h0]
theorem signed_low {m : Int} (h0 : 0 ≤ m) (h1 : m ≤ 9223372036854775808) : commonholdref_signed.f m true = some (-m, 0) := by
  unfold commonholdref_signed.f
  rw [if_pos rfl, if_neg (by omega)]
  simp only [IntKind.wrap_u64]
  congr 2
  unfold wrap64; omega
theorem signed_low_over {m : Int} (h1 : 9223372036854775808 < m) : commonholdref_signed.f m true = some (0, 10) := by
  unfold commonholdref_signed.f
  rw [if_pos rfl, if_pos (by omega)]
theorem signed_high {m : Int} (h0 : 0 ≤ m) (h1 : m < 9223372036854775808) : commonholdref_signed.f m false = some (m, 0) := by
  unfold commonholdref_signed.f
  rw [if_neg (by simp), if_neg (by omega)]
  congr 2
  unfold wrap64; omega
theorem signed_high_over {m : Int} (h1 : 9223372036854775808 ≤ m) : commonholdref_signed.f m false = some (0, 10) := by
  unfold commonholdref_signed.f
  rw [if_neg (by simp), if_pos (by omega)]
end Go.Proofs.Ytaadljjfckhinaa.Pure.NumNegsOf
namespace Go.Proofs.Ytaadljjfckhinaa.Pure
open Go Go.RowKit Go.Proofs.Ytaadljjfckhinaa.PNumNegs Go.Proofs.YtaadljjfckhinaaW.PrintWords Go.Proofs.YtaadljjfckhinaaW.PrintLast NumNegsOf
theorem NumNegs : commonholdlaw_NumNegs.Pure := by
  intro a wa
  have ha := bounds_i64 wa
  unfold commonholdlaw_NumNegs.f num_Neg.f commonholdref_Minus1.f num_least_int.f num_told_int.f
  have el : wrap64 (1 * 9223372036854775808) = -9223372036854775808 := by decide +kernel
  simp only [el, Option.bind_some]
  by_cases hm : a = -9223372036854775808
  · subst hm; decide +kernel
  rw [if_neg hm]
  have en : wrap64 (-a) = -a := by unfold wrap64; omega
  rw [en]
  by_cases hp : 0 < a
  · rw [size_pos ha (by omega)]
    simp only [Option.bind_some]
    rw [decide_eq_true (show a > 0 from hp), signed_low (by omega) (by omega)]
    simp
  · by_cases hz : a = 0
    · subst hz; decide +kernel
    rw [size_neg ha (by omega)]
    simp only [Option.bind_some]
    rw [decide_eq_false (show ¬ a > 0 from hp), signed_high (by omega) (by omega)]
    simp
end Go.Proofs.Ytaadljjfckhinaa.Pure
