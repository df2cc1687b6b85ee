/- num.Div answers as its reference does. No condition beyond the statement's own. -/
import Derived.Test.YtaadljjfckhinaaPNumDivsx1
import Derived.OpenShut
namespace Go.Proofs.Ytaadljjfckhinaa.Pure.NumDivsOf
open Go Go.RowKit Go.Proofs.Ytaadljjfckhinaa.PNumDivs Go.Proofs.YtaadljjfckhinaaW.PrintWords Go.Proofs.YtaadljjfckhinaaW.PrintLast
theorem size_eq {a : Int} (h : -9223372036854775808 ≤ a ∧ a ≤ 9223372036854775807) : commonholdref_size.f a = some (if a < 0 then -a else a) := by
  unfold commonholdref_size.f
  split <;> simp only [IntKind.wrap_u64] <;> congr 1 <;> omega
theorem size_pos {a : Int} (h : -9223372036854775808 ≤ a ∧ a ≤ 9223372036854775807) (h0 : 0 ≤ a) : commonholdref_size.f a = some a := by
  rw [size_eq h, if_neg (by omega)]
theorem size_neg {a : Int} (h : -9223372036854775808 ≤ a ∧ a ≤ 9223372036854775807) (h0 : a < 0) : commonholdref_size.f a = some (-a) := by
  rw [size_eq h, if_pos h0]
theorem signed_low {m : Int} (h0 : 0 ≤ m) (h1 : m ≤ 9223372036854775808) : commonholdref_signed.f m true = some (-m, 0) := by
  unfold commonholdref_signed.f
  rw [if_pos rfl, if_neg (by omega)]
  simp only [IntKind.wrap_u64]
  congr 2
  unfold wrap64; omega
theorem signed_low_over {m : Int} (h1 : 9223372036854775808 < m) : commonholdref_signed.f m true = some (0, 10) := by
  unfold commonholdref_signed.f
  rw [if_pos rfl, if_pos (by omega)]
theorem signed_high {m : Int} (h0 : 0 ≤ m) (h1 : m < 9223372036854775808) : commonholdref_signed.f m false = some (m, 0) := by
  unfold commonholdref_signed.f
  rw [if_neg (by simp), if_neg (by omega)]
  congr 2
  unfold wrap64; omega
theorem signed_high_over {m : Int} (h1 : 9223372036854775808 ≤ m) : commonholdref_signed.f m false = some (0, 10) := by
  unfold commonholdref_signed.f
  rw [if_neg (by simp), if_pos (by omega)]

theorem neg_eq {a : Int} (ha : -9223372036854775808 ≤ a ∧ a ≤ 9223372036854775807) : num_Neg.f a = if a = -9223372036854775808 then some (0, 10) else some (-a, 0) := by
  unfold num_Neg.f num_least_int.f num_told_int.f
  have el : wrap64 (1 * 9223372036854775808) = -9223372036854775808 := by decide +kernel
  simp only [el, Option.bind_some]
  by_cases hm : a = -9223372036854775808
  · rw [if_pos hm, if_pos hm]; rfl
  rw [if_neg hm, if_neg hm]
  have en : wrap64 (-a) = -a := by unfold wrap64; omega
  rw [en]; rfl
/-- What Div comes to, said by quotients alone. -/
theorem div_eq {a b : Int} (ha : -9223372036854775808 ≤ a ∧ a ≤ 9223372036854775807) (h0 : b ≠ 0) (hq : b ≠ -1 → -9223372036854775808 ≤ Int.tdiv a b ∧ Int.tdiv a b ≤ 9223372036854775807) :
    num_Div.f a b = if Int.tdiv a b = 9223372036854775808 then some (0, 10) else some (Int.tdiv a b, 0) := by
  unfold num_Div.f
  rw [if_neg h0]
  by_cases h1 : b = -1
  · rw [if_pos h1, neg_eq ha, h1, Int.tdiv_neg, Int.tdiv_one]
    by_cases hm : a = -9223372036854775808
    · subst hm; rfl
    · rw [if_neg hm, if_neg (by omega)]; rfl
  · rw [if_neg h1]
    have := hq h1
    rw [if_neg (by omega)]
    congr 2
    unfold wrap64; omega
theorem tdiv_le {x y : Int} (hx : 0 ≤ x) (hy : 0 < y) : 0 ≤ Int.tdiv x y ∧ Int.tdiv x y ≤ x := by
  rw [Int.tdiv_eq_ediv_of_nonneg hx]
  exact ⟨Int.ediv_nonneg hx (by omega), Int.ediv_le_self _ hx⟩
theorem tdiv_half {x y : Int} (hx : 0 ≤ x) (hy : 2 ≤ y) : 2 * Int.tdiv x y ≤ x := by
  rw [Int.tdiv_eq_ediv_of_nonneg hx]
  have h1 : x / y ≤ x / 2 := by
    have h := Int.mul_ediv_add_emod x y
    have h2 := Int.emod_nonneg x (show y ≠ 0 by omega)
    have h3 : 0 ≤ x / y := Int.ediv_nonneg hx (by omega)
    have h4 : 2 * (x / y) ≤ y * (x / y) := Int.mul_le_mul_of_nonneg_right hy h3
    omega
  omega
end Go.Proofs.Ytaadljjfckhinaa.Pure.NumDivsOf
namespace Go.Proofs.Ytaadljjfckhinaa.Pure
open Go Go.RowKit Go.Proofs.Ytaadljjfckhinaa.PNumDivs Go.Proofs.YtaadljjfckhinaaW.PrintWords Go.Proofs.YtaadljjfckhinaaW.PrintLast NumDivsOf
theorem NumDivs : commonholdlaw_NumDivs.Pure := by
  intro a b wa wb
  have ha := bounds_i64 wa
  have hb := bounds_i64 wb
  unfold commonholdlaw_NumDivs.f commonholdref_Quotient.f
  by_cases h0 : b = 0
  · subst h0; simp [num_Div.f]
  rw [if_neg h0]
  have hsa : ∃ x, commonholdref_size.f a = some x ∧ 0 ≤ x ∧ x ≤ 9223372036854775808 ∧ ((0 ≤ a ∧ x = a) ∨ (a < 0 ∧ x = -a)) := by
    by_cases h : 0 ≤ a
    · exact ⟨a, size_pos ha h, by omega, by omega, .inl ⟨h, rfl⟩⟩
    · exact ⟨-a, size_neg ha (by omega), by omega, by omega, .inr ⟨by omega, rfl⟩⟩
  have hsb : ∃ y, commonholdref_size.f b = some y ∧ 0 < y ∧ y ≤ 9223372036854775808 ∧ ((0 ≤ b ∧ y = b) ∨ (b < 0 ∧ y = -b)) := by
    by_cases h : 0 ≤ b
    · exact ⟨b, size_pos hb h, by omega, by omega, .inl ⟨h, rfl⟩⟩
    · exact ⟨-b, size_neg hb (by omega), by omega, by omega, .inr ⟨by omega, rfl⟩⟩
  obtain ⟨x, hx, x0, x1, hxa⟩ := hsa
  obtain ⟨y, hy, y0, y1, hyb⟩ := hsb
  have hl := tdiv_le x0 y0
  have hh : 2 ≤ y → 2 * Int.tdiv x y ≤ x := fun h => tdiv_half x0 h
  have hq : (decide (a < 0) != decide (b < 0)) = false ∧ Int.tdiv a b = Int.tdiv x y ∨ (decide (a < 0) != decide (b < 0)) = true ∧ Int.tdiv a b = -Int.tdiv x y := by
    rcases hxa with ⟨p, rfl⟩ | ⟨p, rfl⟩ <;> rcases hyb with ⟨q, rfl⟩ | ⟨q, rfl⟩
    · left; exact ⟨by rw [decide_eq_false (by omega), decide_eq_false (by omega)]; rfl, rfl⟩
    · right; exact ⟨by rw [decide_eq_false (by omega), decide_eq_true (by omega)]; rfl, by rw [Int.tdiv_neg]; omega⟩
    · right; exact ⟨by rw [decide_eq_true (by omega), decide_eq_false (by omega)]; rfl, by rw [Int.neg_tdiv]; omega⟩
    · left; exact ⟨by rw [decide_eq_true (by omega), decide_eq_true (by omega)]; rfl, by rw [Int.neg_tdiv, Int.tdiv_neg]; omega⟩
  have hd : num_Div.f a b = if Int.tdiv a b = 9223372036854775808 then some (0, 10) else some (Int.tdiv a b, 0) := by
    refine div_eq ha h0 fun h1 => ?_
    have hy2 : 2 ≤ y ∨ b = 1 := by omega
    rcases hy2 with h2 | h2
    · have := hh h2; omega
    · subst h2; rw [Int.tdiv_one]; exact ha
  rw [hd, hx, hy]
  simp only [Option.bind_some]
  rw [if_neg (show ¬ y = 0 by omega)]
  have eu : IntKind.u64.wrap (Int.tdiv x y) = Int.tdiv x y := by rw [IntKind.wrap_u64]; omega
  rw [eu]
  generalize Int.tdiv x y = q at *
  generalize Int.tdiv a b = d at *
  rcases hq with ⟨e, rfl⟩ | ⟨e, rfl⟩
  · rw [e]
    by_cases hm : d = 9223372036854775808
    · rw [if_pos hm, signed_high_over (by omega)]; rfl
    · rw [if_neg hm, signed_high (by omega) (by omega)]; simp
  · rw [e, if_neg (by omega), signed_low (by omega) (by omega)]; simp
end Go.Proofs.Ytaadljjfckhinaa.Pure
