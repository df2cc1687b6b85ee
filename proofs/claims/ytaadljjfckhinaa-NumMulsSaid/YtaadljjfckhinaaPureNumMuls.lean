/- num.Mul answers as its reference does. No condition beyond the statement's own. -/
import Derived.Laws.BitsLemmas
import Derived.Test.YtaadljjfckhinaaPNumMulsx1
import Derived.OpenShut
namespace Go.Proofs.Ytaadljjfckhinaa.Pure.NumMulsOf
open Go Go.RowKit Go.Proofs.Ytaadljjfckhinaa.PNumMuls Go.Proofs.YtaadljjfckhinaaW.PrintWords Go.Proofs.YtaadljjfckhinaaW.PrintLast
theorem size_eq {a : Int} (h : -9223372036854775808 ≤ a ∧ a ≤ 9223372036854775807) : commonholdref_size.f a = some (if a < 0 then -a else a) := by
  unfold commonholdref_size.f
  split <;> simp only [IntKind.wrap_u64] <;> congr 1 <;> omega
theorem size_pos {a : Int} (h : -9223372036854775808 ≤ a ∧ a ≤ 9223372036854775807) (h0 : 0 ≤ a) : commonholdref_size.f a = some a := by
  rw [size_eq h, if_neg (by omega)]
theorem size_neg {a : Int} (h : -9223372036854775808 ≤ a ∧ a ≤ 9223372036854775807) (h0 : a < 0) : commonholdref_size.f a = some (-a) := by
  rw [size_eq h, if_pos h0]
theorem signed_low {m : Int} (h0 : 0 ≤ m) (h1 : m ≤ 9223372036854775808) : commonholdref_signed.f m true = some (-m, 0) := by
  unfold commonholdref_signed.f
  rw [if_pos rfl, if_neg (by omega)]
  simp only [IntKind.wrap_u64]
  congr 2
  unfold wrap64; omega
theorem signed_low_over {m : Int} (h1 : 9223372036854775808 < m) : commonholdref_signed.f m true = some (0, 10) := by
  unfold commonholdref_signed.f
  rw [if_pos rfl, if_pos (by omega)]
theorem signed_high {m : Int} (h0 : 0 ≤ m) (h1 : m < 9223372036854775808) : commonholdref_signed.f m false = some (m, 0) := by
  unfold commonholdref_signed.f
  rw [if_neg (by simp), if_neg (by omega)]
  congr 2
  unfold wrap64; omega
theorem signed_high_over {m : Int} (h1 : 9223372036854775808 ≤ m) : commonholdref_signed.f m false = some (0, 10) := by
  unfold commonholdref_signed.f
  rw [if_neg (by simp), if_pos (by omega)]

theorem mask32 {x : Int} (h0 : 0 ≤ x) (h1 : x < 18446744073709551616) : Go.bits .and .u64 x 4294967295 = x % 4294967296 :=
  bits_mask .u64 64 (by decide) (fun n a b => by rw [IntKind.wrap_u64]; omega) 32 (by decide) x h0 h1
theorem prod_range {a b : Int} (a0 : 0 ≤ a) (a1 : a ≤ 4294967295) (b0 : 0 ≤ b) (b1 : b ≤ 4294967295) : 0 ≤ a * b ∧ a * b ≤ 18446744065119617025 := by
  have h := Int.mul_nonneg a0 b0
  have k := Int.mul_le_mul a1 b1 b0 (by omega)
  exact ⟨h, by omega⟩
theorem parts_mul (a b c d : Int) : (4294967296 * a + b) * (4294967296 * c + d) = 18446744073709551616 * (a * c) + 4294967296 * (a * d + b * c) + b * d := by
  grind
/-- The 128 bits of a product, as math/bits reckons them out of four products of halves. -/
theorem mul64_eq {x y : Int} (hx0 : 0 ≤ x) (hx1 : x < 18446744073709551616) (hy0 : 0 ≤ y) (hy1 : y < 18446744073709551616) :
    bits_Mul64.f x y = some (x * y / 18446744073709551616, x * y % 18446744073709551616) := by
  unfold bits_Mul64.f
  rw [mask32 hx0 hx1, mask32 hy0 hy1]
  have ex : x = 4294967296 * (x / 4294967296) + x % 4294967296 := by omega
  have ey : y = 4294967296 * (y / 4294967296) + y % 4294967296 := by omega
  have exy : x * y = (4294967296 * (x / 4294967296) + x % 4294967296) * (4294967296 * (y / 4294967296) + y % 4294967296) := by rw [← ex, ← ey]
  rw [parts_mul] at exy
  have ax : 0 ≤ x / 4294967296 ∧ x / 4294967296 ≤ 4294967295 := by omega
  have ay : 0 ≤ y / 4294967296 ∧ y / 4294967296 ≤ 4294967295 := by omega
  have bx : 0 ≤ x % 4294967296 ∧ x % 4294967296 ≤ 4294967295 := by omega
  have by_ : 0 ≤ y % 4294967296 ∧ y % 4294967296 ≤ 4294967295 := by omega
  clear ex ey
  generalize x / 4294967296 = x1 at *
  generalize x % 4294967296 = xz at *
  generalize y / 4294967296 = y1 at *
  generalize y % 4294967296 = yz at *
  have p11 := prod_range ax.1 ax.2 ay.1 ay.2
  have p10 := prod_range ax.1 ax.2 by_.1 by_.2
  have p01 := prod_range bx.1 bx.2 ay.1 ay.2
  have p00 := prod_range bx.1 bx.2 by_.1 by_.2
  rw [exy]
  clear exy ax ay bx by_
  generalize x1 * y1 = m11 at *
  generalize x1 * yz = m10 at *
  generalize xz * y1 = m01 at *
  generalize xz * yz = m00 at *
  simp only [IntKind.wrap_u64]
  rw [show m11 % 18446744073709551616 = m11 from by omega, show m10 % 18446744073709551616 = m10 from by omega, show m01 % 18446744073709551616 = m01 from by omega, show m00 % 18446744073709551616 = m00 from by omega]
  have ht : (m10 + m00 / 4294967296) % 18446744073709551616 = m10 + m00 / 4294967296 := by omega
  rw [ht, mask32 (by omega) (by omega)]
  congr 1
  refine Prod.ext ?_ ?_
  · show _ = _
    omega
  · rfl
theorem neg_eq {a : Int} (ha : -9223372036854775808 ≤ a ∧ a ≤ 9223372036854775807) : num_Neg.f a = if a = -9223372036854775808 then some (0, 10) else some (-a, 0) := by
  unfold num_Neg.f num_least_int.f num_told_int.f
  have el : wrap64 (1 * 9223372036854775808) = -9223372036854775808 := by decide +kernel
  simp only [el, Option.bind_some]
  by_cases hm : a = -9223372036854775808
  · rw [if_pos hm, if_pos hm]; rfl
  rw [if_neg hm, if_neg hm]
  have en : wrap64 (-a) = -a := by unfold wrap64; omega
  rw [en]; rfl
/-- A quotient that is the one factor tells that the product did not run over. -/
theorem quot_tells {a b c : Int} (hb : b ≠ 0) (hb1 : -9223372036854775808 ≤ b ∧ b ≤ 9223372036854775807) (hc : (c - a * b) % 18446744073709551616 = 0) (hq : Int.tdiv c b = a) : c = a * b := by
  have h := Int.tmod_add_mul_tdiv c b
  rw [hq] at h
  have hr : (Int.tmod c b).natAbs < b.natAbs := by rw [Int.natAbs_tmod]; exact Nat.mod_lt _ (by omega)
  have hba : Int.natAbs b ≤ 9223372036854775808 := by omega
  have hm : Int.tmod c b = c - a * b := by rw [Int.mul_comm] at h; omega
  rw [hm] at hr
  generalize a * b = p at *
  omega
theorem quot_back {a b : Int} (hb : b ≠ 0) : Int.tdiv (a * b) b = a := Int.mul_tdiv_cancel a hb
theorem quot_half {c b : Int} (hb : 2 ≤ b ∨ b ≤ -2) (hc : -9223372036854775808 ≤ c ∧ c ≤ 9223372036854775807) : -4611686018427387904 ≤ Int.tdiv c b ∧ Int.tdiv c b ≤ 4611686018427387904 := by
  have h : 2 * (Int.tdiv c b).natAbs ≤ c.natAbs := by
    have e : (Int.tdiv c b).natAbs = c.natAbs / b.natAbs := Int.natAbs_tdiv c b
    rw [e]
    have hb2 : 2 ≤ b.natAbs := by omega
    have h1 : c.natAbs / b.natAbs ≤ c.natAbs / 2 := Nat.div_le_div_left hb2 (by omega)
    omega
  omega
theorem mul_eq {a b : Int} (ha : -9223372036854775808 ≤ a ∧ a ≤ 9223372036854775807) (hb : -9223372036854775808 ≤ b ∧ b ≤ 9223372036854775807) :
    num_Mul.f 1 a b = if -9223372036854775808 ≤ a * b ∧ a * b ≤ 9223372036854775807 then some (a * b, 0) else some (0, 10) := by
  unfold num_Mul.f
  by_cases a0 : a = 0
  · subst a0; rw [if_pos rfl]; simp [num_Mul.j0]
  rw [if_neg a0]
  by_cases b0 : b = 0
  · subst b0; simp [num_Mul.j0]
  rw [beq_false_of_ne b0]
  simp only [num_Mul.j0]
  rw [if_neg (by simp)]
  by_cases am : a = -1
  · rw [if_pos am, neg_eq hb, am, show (-1 : Int) * b = -b from by omega]
    by_cases hm : b = -9223372036854775808
    · rw [if_pos hm, if_neg (by omega)]; rfl
    · rw [if_neg hm, if_pos (by omega)]; rfl
  rw [if_neg am]
  by_cases bm : b = -1
  · rw [if_pos bm, neg_eq ha, bm, show a * (-1 : Int) = -a from by omega]
    by_cases hm : a = -9223372036854775808
    · rw [if_pos hm, if_neg (by omega)]; rfl
    · rw [if_neg hm, if_pos (by omega)]; rfl
  rw [if_neg bm, if_neg b0]
  have hc : -9223372036854775808 ≤ wrap64 (a * b) ∧ wrap64 (a * b) ≤ 9223372036854775807 := by unfold wrap64; omega
  have hcm : (wrap64 (a * b) - a * b) % 18446744073709551616 = 0 := by unfold wrap64; omega
  have hq : wrap64 (Int.tdiv (wrap64 (a * b)) b) = Int.tdiv (wrap64 (a * b)) b := by
    have hb2 : b = 1 ∨ (2 ≤ b ∨ b ≤ -2) := by omega
    rcases hb2 with h | h
    · subst h; rw [Int.tdiv_one]; generalize wrap64 (a * 1) = c at *; unfold wrap64; omega
    · have := quot_half h hc
      generalize Int.tdiv (wrap64 (a * b)) b = q at *
      unfold wrap64; omega
  rw [hq]
  by_cases hr : -9223372036854775808 ≤ a * b ∧ a * b ≤ 9223372036854775807
  · have e : wrap64 (a * b) = a * b := by unfold wrap64; omega
    rw [if_pos hr, e, quot_back b0, beq_self_eq_true]; rfl
  · rw [if_neg hr]
    have : (Int.tdiv (wrap64 (a * b)) b == a) = false := by
      refine beq_false_of_ne fun h => hr ?_
      have := quot_tells b0 hb hcm h
      omega
    rw [this]; rfl
theorem abs_mul_range {x y : Int} (x0 : 0 ≤ x) (x1 : x ≤ 9223372036854775808) (y0 : 0 ≤ y) (y1 : y ≤ 9223372036854775808) : 0 ≤ x * y ∧ x * y ≤ 85070591730234615865843651857942052864 := by
  have h := Int.mul_nonneg x0 y0
  have k := Int.mul_le_mul x1 y1 y0 (by omega)
  exact ⟨h, by omega⟩
end Go.Proofs.Ytaadljjfckhinaa.Pure.NumMulsOf
namespace Go.Proofs.Ytaadljjfckhinaa.Pure
open Go Go.RowKit Go.Proofs.Ytaadljjfckhinaa.PNumMuls Go.Proofs.YtaadljjfckhinaaW.PrintWords Go.Proofs.YtaadljjfckhinaaW.PrintLast NumMulsOf
theorem NumMuls : commonholdlaw_NumMuls.Pure := by
  intro a b wa wb
  have ha := bounds_i64 wa
  have hb := bounds_i64 wb
  refine ⟨1, ?_⟩
  unfold commonholdlaw_NumMuls.f commonholdref_Times2.f
  rw [mul_eq ha hb]
  have hsa : ∃ x, commonholdref_size.f a = some x ∧ 0 ≤ x ∧ x ≤ 9223372036854775808 ∧ ((0 ≤ a ∧ x = a) ∨ (a < 0 ∧ x = -a)) := by
    by_cases h : 0 ≤ a
    · exact ⟨a, size_pos ha h, by omega, by omega, .inl ⟨h, rfl⟩⟩
    · exact ⟨-a, size_neg ha (by omega), by omega, by omega, .inr ⟨by omega, rfl⟩⟩
  have hsb : ∃ y, commonholdref_size.f b = some y ∧ 0 ≤ y ∧ y ≤ 9223372036854775808 ∧ ((0 ≤ b ∧ y = b) ∨ (b < 0 ∧ y = -b)) := by
    by_cases h : 0 ≤ b
    · exact ⟨b, size_pos hb h, by omega, by omega, .inl ⟨h, rfl⟩⟩
    · exact ⟨-b, size_neg hb (by omega), by omega, by omega, .inr ⟨by omega, rfl⟩⟩
  obtain ⟨x, hx, x0, x1, hxa⟩ := hsa
  obtain ⟨y, hy, y0, y1, hyb⟩ := hsb
  rw [hx, hy]
  simp only [Option.bind_some]
  rw [mul64_eq x0 (by omega) y0 (by omega)]
  simp only [Option.bind_some]
  have hr := abs_mul_range x0 x1 y0 y1
  have hs : (decide (a < 0) != decide (b < 0)) = false ∧ a * b = x * y ∨ (decide (a < 0) != decide (b < 0)) = true ∧ a * b = -(x * y) := by
    rcases hxa with ⟨p, rfl⟩ | ⟨p, rfl⟩ <;> rcases hyb with ⟨q, rfl⟩ | ⟨q, rfl⟩
    · left; exact ⟨by rw [decide_eq_false (by omega), decide_eq_false (by omega)]; rfl, rfl⟩
    · right; exact ⟨by rw [decide_eq_false (by omega), decide_eq_true (by omega)]; rfl, by rw [Int.mul_neg]; omega⟩
    · right; exact ⟨by rw [decide_eq_true (by omega), decide_eq_false (by omega)]; rfl, by rw [Int.neg_mul]; omega⟩
    · left; exact ⟨by rw [decide_eq_true (by omega), decide_eq_true (by omega)]; rfl, by rw [Int.neg_mul_neg]⟩
  generalize a * b = d at *
  generalize x * y = m at *
  by_cases hi : m < 18446744073709551616
  · rw [if_pos (show m / 18446744073709551616 = 0 by omega), show m % 18446744073709551616 = m from by omega]
    rcases hs with ⟨e, rfl⟩ | ⟨e, rfl⟩
    · rw [e]
      by_cases hm : d < 9223372036854775808
      · rw [if_pos (by omega), signed_high (by omega) hm]; simp
      · rw [if_neg (by omega), signed_high_over (by omega)]; simp
    · rw [e]
      by_cases hm : m ≤ 9223372036854775808
      · rw [if_pos (by omega), signed_low (by omega) hm]; simp
      · rw [if_neg (by omega), signed_low_over (by omega)]; simp
  · rw [if_neg (show ¬ m / 18446744073709551616 = 0 by omega), if_neg (by omega)]; simp
end Go.Proofs.Ytaadljjfckhinaa.Pure
