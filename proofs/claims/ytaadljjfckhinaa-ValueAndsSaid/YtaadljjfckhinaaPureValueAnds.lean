/- value.And answers as its reference does, at every list. No condition beyond the statement's own. -/
import Derived.Test.YtaadljjfckhinaaPValueAndsx1
namespace Go.Proofs.Ytaadljjfckhinaa.Pure.ValueAndsOf
open Go.RowKit Go.Proofs.Ytaadljjfckhinaa.PValueAnds Go.Proofs.YtaadljjfckhinaaW.PrintWords Go.Proofs.YtaadljjfckhinaaW.PrintLast Go.Proofs.YtaadljjfckhinaaW.PrintMore
theorem step (l : List Int) : ∀ (m : Int) (b : Bool), ((l.foldl (fun (s : Int × Bool) t => (mn s.1 t, s.2 || (decide (t < 0) || decide (t > 2)))) (m, b)).2 = (b || commonholdref_AllOf.bad l)) ∧
    (commonholdref_AllOf.bad l = false → (m = 0 ∨ m = 1 ∨ m = 2) → (l.foldl (fun (s : Int × Bool) t => (mn s.1 t, s.2 || (decide (t < 0) || decide (t > 2)))) (m, b)).1 = if m = 0 ∨ 0 < l.count 0 then 0 else if m = 1 ∨ 0 < l.count 1 then 1 else 2) := by
  induction l with
  | nil =>
    intro m b
    refine ⟨by simp [commonholdref_AllOf.bad], fun _ hm => ?_⟩
    simp
    rcases hm with rfl | rfl | rfl <;> simp
  | cons t l ih =>
    intro m b
    obtain ⟨h1, h2⟩ := ih (mn m t) (b || (decide (t < 0) || decide (t > 2)))
    simp only [List.foldl_cons]
    refine ⟨by rw [h1]; simp [commonholdref_AllOf.bad, Bool.or_assoc], fun hb hm => ?_⟩
    have hb' : commonholdref_AllOf.bad l = false ∧ ¬ t < 0 ∧ ¬ t > 2 := by
      simp only [commonholdref_AllOf.bad, List.any_cons, Bool.or_eq_false_iff, decide_eq_false_iff_not] at hb
      exact ⟨hb.2, hb.1.1, hb.1.2⟩
    obtain ⟨hb1, ht0, ht2⟩ := hb'
    have ht : t = 0 ∨ t = 1 ∨ t = 2 := by omega
    rw [h2 hb1 (by unfold mn; split <;> omega)]
    simp only [List.count_cons]
    rcases hm with rfl | rfl | rfl <;> rcases ht with rfl | rfl | rfl <;> simp [mn]
theorem same (l : List Int) : value_And.f l = commonholdref_AllOf.f l := by
  obtain ⟨h1, h2⟩ := step l 2 false
  unfold value_And.f commonholdref_AllOf.f value_And.st
  rw [h1, Bool.false_or]
  cases hb : commonholdref_AllOf.bad l with
  | true => simp
  | false =>
    rw [h2 hb (by decide)]
    by_cases p : 0 < l.count 0
    · simp [p]
    · by_cases q : 0 < l.count 1
      · simp [p, q]
      · simp [p, q]
end Go.Proofs.Ytaadljjfckhinaa.Pure.ValueAndsOf
namespace Go.Proofs.Ytaadljjfckhinaa.Pure
open Go.RowKit Go.Proofs.Ytaadljjfckhinaa.PValueAnds Go.Proofs.YtaadljjfckhinaaW.PrintWords Go.Proofs.YtaadljjfckhinaaW.PrintLast ValueAndsOf
theorem ValueAnds : commonholdlaw_ValueAnds.Pure := by
  intro l hm hl _
  unfold commonholdlaw_ValueAnds.f
  rw [if_pos (by simp; omega), List.nil_append, same]
  unfold commonholdref_AllOf.f
  simp
end Go.Proofs.Ytaadljjfckhinaa.Pure
