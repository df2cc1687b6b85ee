/- num.Mod answers as its reference does. No condition beyond the statement's own. -/
import Derived.Test.YtaadljjfckhinaaPNumModsx1
import Derived.OpenShut
namespace Go.Proofs.Ytaadljjfckhinaa.Pure.NumModsOf
open Go Go.RowKit Go.Proofs.Ytaadljjfckhinaa.PNumMods Go.Proofs.YtaadljjfckhinaaW.PrintWords Go.Proofs.YtaadljjfckhinaaW.PrintLast
theorem size_eq {a : Int} (h : -9223372036854775808 ≤ a ∧ a ≤ 9223372036854775807) : commonholdref_size.f a = some (if a < 0 then -a else a) := by
  unfold commonholdref_size.f
  split <;> simp only [IntKind.wrap_u64] <;> congr 1 <;> omega
theorem size_pos {a : Int} (h : -9223372036854775808 ≤ a ∧ a ≤ 9223372036854775807) (h0 : 0 ≤ a) : commonholdref_size.f a = some a := by
  rw [size_eq h, if_neg (by omega)]
theorem size_neg {a : Int} (h : -9223372036854775808 ≤ a ∧ a ≤ 9223372036854775807) (h0 : a < 0) : commonholdref_size.f a = some (-a) := by
  rw [size_eq h, if_pos h0]
theorem signed_low {m : Int} (h0 : 0 ≤ m) (h1 : m ≤ 9223372036854775808) : commonholdref_signed.f m true = some (-m, 0) := by
  unfold commonholdref_signed.f
  rw [if_pos rfl, if_neg (by omega)]
  simp only [IntKind.wrap_u64]
  congr 2
  unfold wrap64; omega
theorem signed_low_over {m : Int} (h1 : 9223372036854775808 < m) : commonholdref_signed.f m true = some (0, 10) := by
  unfold commonholdref_signed.f
  rw [if_pos rfl, if_pos (by omega)]
theorem signed_high {m : Int} (h0 : 0 ≤ m) (h1 : m < 9223372036854775808) : commonholdref_signed.f m false = some (m, 0) := by
  unfold commonholdref_signed.f
  rw [if_neg (by simp), if_neg (by omega)]
  congr 2
  unfold wrap64; omega
theorem signed_high_over {m : Int} (h1 : 9223372036854775808 ≤ m) : commonholdref_signed.f m false = some (0, 10) := by
  unfold commonholdref_signed.f
  rw [if_neg (by simp), if_pos (by omega)]
end Go.Proofs.Ytaadljjfckhinaa.Pure.NumModsOf
namespace Go.Proofs.Ytaadljjfckhinaa.Pure
open Go Go.RowKit Go.Proofs.Ytaadljjfckhinaa.PNumMods Go.Proofs.YtaadljjfckhinaaW.PrintWords Go.Proofs.YtaadljjfckhinaaW.PrintLast NumModsOf
theorem NumMods : commonholdlaw_NumMods.Pure := by
  intro a b wa wb
  have ha := bounds_i64 wa
  have hb := bounds_i64 wb
  unfold commonholdlaw_NumMods.f num_Mod.f commonholdref_RestOf.f
  by_cases h0 : b = 0
  · rw [if_pos h0, if_pos h0]; simp
  rw [if_neg h0, if_neg h0]
  have hs : ∃ y, commonholdref_size.f b = some y ∧ 0 < y ∧ y ≤ 9223372036854775808 ∧ (y = b ∨ y = -b) := by
    by_cases h : 0 ≤ b
    · exact ⟨b, size_pos hb h, by omega, by omega, .inl rfl⟩
    · exact ⟨-b, size_neg hb (by omega), by omega, by omega, .inr rfl⟩
  obtain ⟨y, hy, y0, y1, hyb⟩ := hs
  have ey : ∀ x : Int, Int.tmod x y = Int.tmod x b := by
    intro x
    rcases hyb with h | h
    · rw [h]
    · rw [h, Int.tmod_neg]
  rw [hy]
  have em : b = -1 → Int.tmod a b = 0 := by
    intro h; rw [h, Int.tmod_neg]; simp
  have e1 : (if b = -1 then some ((0 : Int), (0 : Int)) else some (Int.tmod a b, 0)) = some (Int.tmod a b, 0) := by
    split
    · rename_i h; rw [em h]
    · rfl
  rw [e1]
  by_cases hp : 0 ≤ a
  · rw [size_pos ha hp]
    simp only [Option.bind_some]
    rw [if_neg (by omega), ey, decide_eq_false (by omega)]
    have l1 := Int.tmod_lt_of_pos a y0
    have l0 := Int.tmod_nonneg b hp
    rw [ey] at l1
    rw [signed_high l0 (by omega)]
    simp
  · rw [size_neg ha (by omega)]
    simp only [Option.bind_some]
    rw [if_neg (by omega), ey, decide_eq_true (by omega)]
    have l1 := Int.tmod_lt_of_pos (-a) y0
    have l0 := Int.tmod_nonneg b (show 0 ≤ -a by omega)
    rw [ey] at l1
    rw [signed_low l0 (by omega), Int.neg_tmod]
    simp
end Go.Proofs.Ytaadljjfckhinaa.Pure
