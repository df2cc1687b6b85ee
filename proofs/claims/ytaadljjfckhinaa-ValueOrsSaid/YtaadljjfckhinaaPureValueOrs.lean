/- value.Or answers as its reference does, at every list. No condition beyond the statement's own. -/
import Derived.Test.YtaadljjfckhinaaPValueOrsx1
namespace Go.Proofs.Ytaadljjfckhinaa.Pure.ValueOrsOf
open Go.RowKit Go.Proofs.Ytaadljjfckhinaa.PValueOrs Go.Proofs.YtaadljjfckhinaaW.PrintWords Go.Proofs.YtaadljjfckhinaaW.PrintLast Go.Proofs.YtaadljjfckhinaaW.PrintMore
theorem step (l : List Int) : ∀ (m : Int) (b : Bool), ((l.foldl (fun (s : Int × Bool) t => (mx s.1 t, s.2 || (decide (t < 0) || decide (t > 2)))) (m, b)).2 = (b || commonholdref_AnyOf.bad l)) ∧
    (commonholdref_AnyOf.bad l = false → (m = 0 ∨ m = 1 ∨ m = 2) → (l.foldl (fun (s : Int × Bool) t => (mx s.1 t, s.2 || (decide (t < 0) || decide (t > 2)))) (m, b)).1 = if m = 2 ∨ 0 < l.count 2 then 2 else if m = 1 ∨ 0 < l.count 1 then 1 else 0) := by
  induction l with
  | nil =>
    intro m b
    refine ⟨by simp [commonholdref_AnyOf.bad], fun _ hm => ?_⟩
    simp
    rcases hm with rfl | rfl | rfl <;> simp
  | cons t l ih =>
    intro m b
    obtain ⟨h1, h2⟩ := ih (mx m t) (b || (decide (t < 0) || decide (t > 2)))
    simp only [List.foldl_cons]
    refine ⟨by rw [h1]; simp [commonholdref_AnyOf.bad, Bool.or_assoc], fun hb hm => ?_⟩
    have hb' : commonholdref_AnyOf.bad l = false ∧ ¬ t < 0 ∧ ¬ t > 2 := by
      simp only [commonholdref_AnyOf.bad, List.any_cons, Bool.or_eq_false_iff, decide_eq_false_iff_not] at hb
      exact ⟨hb.2, hb.1.1, hb.1.2⟩
    obtain ⟨hb1, ht0, ht2⟩ := hb'
    have ht : t = 0 ∨ t = 1 ∨ t = 2 := by omega
    rw [h2 hb1 (by unfold mx; split <;> omega)]
    simp only [List.count_cons]
    rcases hm with rfl | rfl | rfl <;> rcases ht with rfl | rfl | rfl <;> simp [mx]
theorem same (l : List Int) : value_Or.f l = commonholdref_AnyOf.f l := by
  obtain ⟨h1, h2⟩ := step l 0 false
  unfold value_Or.f commonholdref_AnyOf.f value_Or.st
  rw [h1, Bool.false_or]
  cases hb : commonholdref_AnyOf.bad l with
  | true => simp
  | false =>
    rw [h2 hb (by decide)]
    by_cases p : 0 < l.count 2
    · simp [p]
    · by_cases q : 0 < l.count 1
      · simp [p, q]
      · simp [p, q]
end Go.Proofs.Ytaadljjfckhinaa.Pure.ValueOrsOf
namespace Go.Proofs.Ytaadljjfckhinaa.Pure
open Go.RowKit Go.Proofs.Ytaadljjfckhinaa.PValueOrs Go.Proofs.YtaadljjfckhinaaW.PrintWords Go.Proofs.YtaadljjfckhinaaW.PrintLast ValueOrsOf
theorem ValueOrs : commonholdlaw_ValueOrs.Pure := by
  intro l hm hl _
  unfold commonholdlaw_ValueOrs.f
  rw [if_pos (by simp; omega), List.nil_append, same]
  unfold commonholdref_AnyOf.f
  simp
end Go.Proofs.Ytaadljjfckhinaa.Pure
