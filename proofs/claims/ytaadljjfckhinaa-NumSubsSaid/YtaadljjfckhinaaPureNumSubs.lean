/- num.Sub answers as its reference does. No condition beyond the statement's own. -/
import Derived.Test.YtaadljjfckhinaaPNumSubsx1
import Derived.OpenShut
namespace Go.Proofs.Ytaadljjfckhinaa.Pure.NumSubsOf
open Go Go.RowKit Go.Proofs.Ytaadljjfckhinaa.PNumSubs Go.Proofs.YtaadljjfckhinaaW.PrintWords Go.Proofs.YtaadljjfckhinaaW.PrintLast
theorem size_eq {a : Int} (h : -9223372036854775808 ≤ a ∧ a ≤ 9223372036854775807) : commonholdref_size.f a = some (if a < 0 then -a else a) := by
  unfold commonholdref_size.f
  split <;> simp only [IntKind.wrap_u64] <;> congr 1 <;> omega
theorem size_pos {a : Int} (h : -9223372036854775808 ≤ a ∧ a ≤ 9223372036854775807) (h0 : 0 ≤ a) : commonholdref_size.f a = some a := by
  rw [size_eq h, if_neg (by omega)]
theorem size_neg {a : Int} (h : -9223372036854775808 ≤ a ∧ a ≤ 9223372036854775807) (h0 : a < 0) : commonholdref_size.f a = some (-a) := by
  rw [size_eq h, if_pos h0]
theorem signed_low {m : Int} (h0 : 0 ≤ m) (h1 : m ≤ 9223372036854775808) : commonholdref_signed.f m true = some (-m, 0) := by
  unfold commonholdref_signed.f
  rw [if_pos rfl, if_neg (by omega)]
  simp only [IntKind.wrap_u64]
  congr 2
  unfold wrap64; omega
theorem signed_low_over {m : Int} (h1 : 9223372036854775808 < m) : commonholdref_signed.f m true = some (0, 10) := by
  unfold commonholdref_signed.f
  rw [if_pos rfl, if_pos (by omega)]
theorem signed_high {m : Int} (h0 : 0 ≤ m) (h1 : m < 9223372036854775808) : commonholdref_signed.f m false = some (m, 0) := by
  unfold commonholdref_signed.f
  rw [if_neg (by simp), if_neg (by omega)]
  congr 2
  unfold wrap64; omega
theorem signed_high_over {m : Int} (h1 : 9223372036854775808 ≤ m) : commonholdref_signed.f m false = some (0, 10) := by
  unfold commonholdref_signed.f
  rw [if_neg (by simp), if_pos (by omega)]
theorem bv_neg (v : BitVec 64) : IntKind.i64.wrap (v.toNat : Int) < 0 ↔ v.msb = true := by
  have h := v.isLt
  rw [IntKind.wrap_i64, BitVec.msb_eq_decide]
  simp only [decide_eq_true_eq]
  omega
theorem ofInt_msb {a : Int} (h : -9223372036854775808 ≤ a ∧ a ≤ 9223372036854775807) : (BitVec.ofInt 64 a).msb = decide (a < 0) := by
  rw [BitVec.msb_eq_decide, BitVec.toNat_ofInt]
  have : ((a % ((2 ^ 64 : Nat) : Int)).toNat : Nat) = (a % 18446744073709551616).toNat := by congr 1
  rw [this]
  by_cases ha : a < 0
  · rw [decide_eq_true ha, decide_eq_true]; omega
  · rw [decide_eq_false ha, decide_eq_false]; omega
theorem wrap_range (x : Int) : -9223372036854775808 ≤ IntKind.i64.wrap x ∧ IntKind.i64.wrap x ≤ 9223372036854775807 := by
  rw [IntKind.wrap_i64]; omega
theorem xor_range (a b : Int) : -9223372036854775808 ≤ Go.bits .xor .i64 a b ∧ Go.bits .xor .i64 a b ≤ 9223372036854775807 := wrap_range _
theorem xor_neg {a b : Int} (ha : -9223372036854775808 ≤ a ∧ a ≤ 9223372036854775807) (hb : -9223372036854775808 ≤ b ∧ b ≤ 9223372036854775807) :
    Go.bits .xor .i64 a b < 0 ↔ ¬ (a < 0 ↔ b < 0) := by
  have e : Go.bits .xor .i64 a b = IntKind.i64.wrap ((BitVec.ofInt 64 a ^^^ BitVec.ofInt 64 b).toNat : Int) := rfl
  rw [e, bv_neg, BitVec.msb_xor, ofInt_msb ha, ofInt_msb hb]
  by_cases h1 : a < 0 <;> by_cases h2 : b < 0 <;> simp [h1, h2]
theorem and_neg {a b : Int} (ha : -9223372036854775808 ≤ a ∧ a ≤ 9223372036854775807) (hb : -9223372036854775808 ≤ b ∧ b ≤ 9223372036854775807) :
    Go.bits .and .i64 a b < 0 ↔ (a < 0 ∧ b < 0) := by
  have e : Go.bits .and .i64 a b = IntKind.i64.wrap ((BitVec.ofInt 64 a &&& BitVec.ofInt 64 b).toNat : Int) := rfl
  rw [e, bv_neg, BitVec.msb_and, ofInt_msb ha, ofInt_msb hb]
  by_cases h1 : a < 0 <;> by_cases h2 : b < 0 <;> simp [h1, h2]
theorem w64_range (x : Int) : -9223372036854775808 ≤ wrap64 x ∧ wrap64 x ≤ 9223372036854775807 := by
  unfold wrap64; omega
theorem sub_eq {a b : Int} (ha : -9223372036854775808 ≤ a ∧ a ≤ 9223372036854775807) (hb : -9223372036854775808 ≤ b ∧ b ≤ 9223372036854775807) :
    num_Sub.f a b = if -9223372036854775808 ≤ a - b ∧ a - b ≤ 9223372036854775807 then some (a - b, 0) else some (0, 10) := by
  unfold num_Sub.f num_told_int.f
  have hc := w64_range (a - b)
  have h1 := xor_neg ha hb
  have h2 := xor_neg ha hc
  have h3 := and_neg (xor_range a b) (xor_range a (wrap64 (a - b)))
  rw [h1, h2] at h3
  generalize Go.bits .and .i64 (Go.bits .xor .i64 a b) (Go.bits .xor .i64 a (wrap64 (a - b))) = t at h3
  by_cases hr : -9223372036854775808 ≤ a - b ∧ a - b ≤ 9223372036854775807
  · have e : wrap64 (a - b) = a - b := by unfold wrap64; omega
    rw [e] at h3 ⊢
    rw [if_pos hr, decide_eq_true (by omega)]; rfl
  · have e : wrap64 (a - b) = a - b - 18446744073709551616 ∧ 0 < a - b ∨ wrap64 (a - b) = a - b + 18446744073709551616 ∧ a - b < 0 := by unfold wrap64; omega
    rw [if_neg hr, decide_eq_false (by omega)]; rfl
end Go.Proofs.Ytaadljjfckhinaa.Pure.NumSubsOf
namespace Go.Proofs.Ytaadljjfckhinaa.Pure
open Go Go.RowKit Go.Proofs.Ytaadljjfckhinaa.PNumSubs Go.Proofs.YtaadljjfckhinaaW.PrintWords Go.Proofs.YtaadljjfckhinaaW.PrintLast NumSubsOf
theorem NumSubs : commonholdlaw_NumSubs.Pure := by
  intro a b wa wb
  have ha := bounds_i64 wa
  have hb := bounds_i64 wb
  unfold commonholdlaw_NumSubs.f commonholdref_Minus2.f
  rw [sub_eq ha hb]
  by_cases pa : 0 ≤ a <;> by_cases pb : 0 ≤ b
  · rw [size_pos ha pa, size_pos hb pb, decide_eq_false (show ¬ a < 0 by omega), decide_eq_false (show ¬ b < 0 by omega), decide_eq_true (show a ≥ 0 by omega)]
    simp only [Option.bind_some, IntKind.wrap_u64]
    rw [if_neg (show ¬ (false != false) = true by simp), if_pos (show -9223372036854775808 ≤ a - b ∧ a - b ≤ 9223372036854775807 by omega)]
    by_cases h : a ≥ b
    · rw [if_pos h, show (a - b) % 18446744073709551616 = a - b from by omega, signed_high (by omega) (by omega)]; simp
    · rw [if_neg h, show (b - a) % 18446744073709551616 = -(a - b) from by omega, signed_low (by omega) (by omega)]; simp
  · rw [size_pos ha pa, size_neg hb (by omega), decide_eq_false (show ¬ a < 0 by omega), decide_eq_true (show b < 0 by omega)]
    simp only [Option.bind_some, IntKind.wrap_u64]
    rw [if_pos (show (false != true) = true from rfl), if_neg (show ¬ (a + -b) % 18446744073709551616 < a by omega)]
    rw [show (a + -b) % 18446744073709551616 = a - b from by omega]
    by_cases h : a - b ≤ 9223372036854775807
    · rw [if_pos (show -9223372036854775808 ≤ a - b ∧ a - b ≤ 9223372036854775807 by omega), signed_high (by omega) (by omega)]; simp
    · rw [if_neg (show ¬ (-9223372036854775808 ≤ a - b ∧ a - b ≤ 9223372036854775807) by omega), signed_high_over (by omega)]; simp
  · rw [size_neg ha (by omega), size_pos hb pb, decide_eq_true (show a < 0 by omega), decide_eq_false (show ¬ b < 0 by omega)]
    simp only [Option.bind_some, IntKind.wrap_u64]
    rw [if_pos (show (true != false) = true from rfl), if_neg (show ¬ (-a + b) % 18446744073709551616 < -a by omega), show (-a + b) % 18446744073709551616 = -(a - b) from by omega]
    by_cases h : -9223372036854775808 ≤ a - b
    · rw [if_pos (show -9223372036854775808 ≤ a - b ∧ a - b ≤ 9223372036854775807 by omega), signed_low (by omega) (by omega)]; simp
    · rw [if_neg (show ¬ (-9223372036854775808 ≤ a - b ∧ a - b ≤ 9223372036854775807) by omega), signed_low_over (by omega)]; simp
  · rw [size_neg ha (by omega), size_neg hb (by omega), decide_eq_true (show a < 0 by omega), decide_eq_true (show b < 0 by omega), decide_eq_false (show ¬ a ≥ 0 by omega)]
    simp only [Option.bind_some, IntKind.wrap_u64]
    rw [if_neg (show ¬ (true != true) = true by simp), if_pos (show -9223372036854775808 ≤ a - b ∧ a - b ≤ 9223372036854775807 by omega)]
    by_cases h : -a ≥ -b
    · rw [if_pos h, show (-a - -b) % 18446744073709551616 = -(a - b) from by omega, signed_low (by omega) (by omega)]; simp
    · rw [if_neg h, show (-b - -a) % 18446744073709551616 = a - b from by omega, signed_high (by omega) (by omega)]; simp
end Go.Proofs.Ytaadljjfckhinaa.Pure
