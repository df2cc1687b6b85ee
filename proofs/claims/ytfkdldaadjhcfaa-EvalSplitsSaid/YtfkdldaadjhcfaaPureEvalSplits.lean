/- eval.Split answers as its reference does, at every expression. No condition beyond the statement's own. -/
import Derived.Test.YtfkdldaadjhcfaaPEvalSplitsx2
import Derived.Test.YtfkdldaadjhcfaaBig
namespace Go.Proofs.Ytfkdldaadjhcfaa.Pure.EvalSplitsOf
open Go Go.RowKit Go.Proofs.Ytfkdldaadjhcfaa.PEvalSplits Go.Proofs.YtfkdldaadjhcfaaW.PrintWords Go.Proofs.YtfkdldaadjhcfaaW.PrintLast Go.Proofs.Ytfkdldaadjhcfaa.Bg
abbrev fits := eval_Split.fits
abbrev parts := eval_Split.parts
abbrev deep := commonholdlaw_sameExprs.deep
theorem selfE (e : S26) : (⟨e.f0, (⟨e.f1.f0, e.f1.f1, e.f1.f2⟩ : S23), e.f2, e.f3, e.f4, e.f5⟩ : S26) = e := by
  obtain ⟨a0, ⟨a1, a2, a3⟩, a4, a5, a6, a7⟩ := e
  rfl
theorem fits_le {e : S26} {k : Nat} (h : fits k e = true) : ∀ {m : Nat}, k ≤ m → fits m e = true := by
  intro m hm
  induction hm with
  | refl => exact h
  | step _ ih => exact eval_Split.fits_more _ _ ih
theorem fits_all (l : List S26) (h : ∀ y ∈ l, ∃ k, fits k y = true) : ∃ k, ∀ y ∈ l, fits k y = true := by
  induction l with
  | nil => exact ⟨0, fun y hy => by simp at hy⟩
  | cons x r ih =>
    obtain ⟨k1, h1⟩ := h x (by simp)
    obtain ⟨k2, h2⟩ := ih (fun y hy => h y (by simp [hy]))
    refine ⟨max k1 k2, fun y hy => ?_⟩
    rcases List.mem_cons.1 hy with rfl | hy
    · exact fits_le h1 (Nat.le_max_left _ _)
    · exact fits_le (h2 y hy) (Nat.le_max_right _ _)
theorem fits_of {e : S26} (h : zd26 e) : ∃ k, fits k e = true := by
  induction h with
  | mk x _ _ _ _ _ hl _ ih =>
    obtain ⟨k, hk⟩ := fits_all x.f5 ih
    refine ⟨k + 1, ?_⟩
    show eval_Split.fits (k + 1) x = true
    unfold eval_Split.fits
    simp only [Bool.and_eq_true, decide_eq_true_eq, List.all_eq_true]
    exact ⟨by omega, hk⟩
theorem deep_of : ∀ (k : Nat) (e : S26), fits k e = true → deep k e
  | 0, _, h => by simp [fits, eval_Split.fits] at h
  | k + 1, e, h => by
    have h' : eval_Split.fits (k + 1) e = true := h
    unfold eval_Split.fits at h'
    simp only [Bool.and_eq_true, List.all_eq_true] at h'
    exact fun s hs => deep_of k s (h'.2 s hs)
theorem deep_up : ∀ (k : Nat) (e : S26), deep k e → deep (k + 1) e
  | 0, _, h => h.elim
  | k + 1, _, h => fun s hs => deep_up k s (h s hs)
set_option linter.unusedVariables false
theorem part_deep : ∀ (n k : Nat) (e : S26), deep k e → ∀ x ∈ parts n e, deep k x
  | 0, k, e, h, x, hx => by
    have : x = e := by simpa [parts, eval_Split.parts] using hx
    exact this ▸ h
  | n + 1, k, e, h, x, hx => by
    have hx' : x ∈ eval_Split.parts (n + 1) e := hx
    rw [eval_Split.parts] at hx'
    split at hx'
    · rename_i hc
      cases k with
      | zero => exact h.elim
      | succ k =>
        have m0 : rd_T26 e.f5 0 ∈ e.f5 := by
          rw [show rd_T26 e.f5 0 = e.f5[0]'(by omega) from by simp [rd_T26, List.getD_eq_getElem?_getD, hc.2]]
          exact List.getElem_mem _
        have m1 : rd_T26 e.f5 1 ∈ e.f5 := by
          rw [show rd_T26 e.f5 1 = e.f5[1]'(by omega) from by simp [rd_T26, List.getD_eq_getElem?_getD, hc.2]]
          exact List.getElem_mem _
        rcases List.mem_append.1 hx' with hx' | hx'
        · exact deep_up k x (part_deep n k _ (h _ m0) x hx')
        · exact deep_up k x (part_deep n k _ (h _ m1) x hx')
    · have : x = e := by simpa using hx'
      exact this ▸ h
theorem split_at : ∀ (n : Nat) (e : S26), n ≤ 11 → Big (fun k => commonholdref_splitAt.f k e.f0 e.f1.f0 e.f1.f1 e.f1.f2 e.f2 e.f3 e.f4 e.f5 ((n + 1 : Nat) : Int)) (parts n e)
  | n, e, hn => by
    have self : (⟨e.f0, (⟨e.f1.f0, e.f1.f1, e.f1.f2⟩ : S23), e.f2, e.f3, e.f4, e.f5⟩ : S26) = e := selfE e
    have no : ∀ a1 : Int, Big (fun k => commonholdref_splitAt.j0 k a1 false e.f0 e.f1.f0 e.f1.f1 e.f1.f2 e.f2 e.f3 e.f4 e.f5) [e] := fun a1 => by
      refine Big.succ ?_
      simp only [commonholdref_splitAt.j0, if_neg (show ¬ (false = true) by decide), self]
      exact Big.of _
    refine Big.succ ?_
    simp only [commonholdref_splitAt.f]
    cases n with
    | zero =>
      simp only [if_neg (show ¬ ((0 + 1 : Nat) : Int) > 1 by omega)]
      exact no _
    | succ n =>
      simp only [if_pos (show ((n + 1 + 1 : Nat) : Int) > 1 by omega)]
      show Big _ (eval_Split.parts (n + 1) e)
      rw [eval_Split.parts]
      by_cases h1 : e.f0 = 19
      · simp only [if_pos h1]
        by_cases h2 : e.f5.length = 2
        · simp only [show ((e.f5.length : Int) == 2) = true from by rw [beq_iff_eq]; omega, if_pos (And.intro h1 h2)]
          refine Big.succ ?_
          simp only [commonholdref_splitAt.j0, if_true, if_pos (show (0 : Int) < (e.f5.length : Int) by omega), if_pos (show (1 : Int) < (e.f5.length : Int) by omega), show wrap64 (((n + 1 + 1 : Nat) : Int) - 1) = ((n + 1 : Nat) : Int) from by rw [w64 (by omega) (by omega)]; omega]
          refine Big.bind (split_at n (rd_T26 e.f5 0) (by omega)) ?_
          refine Big.bind (split_at n (rd_T26 e.f5 1) (by omega)) ?_
          have l0 := eval_Split.parts_len n (rd_T26 e.f5 0)
          have l1 := eval_Split.parts_len n (rd_T26 e.f5 1)
          have lp : 2 ^ n ≤ 2 ^ 11 := Nat.pow_le_pow_right (by decide) (by omega)
          rw [if_pos (show (parts n (rd_T26 e.f5 0)).length + (parts n (rd_T26 e.f5 1)).length < 1353245080339 by show (eval_Split.parts n _).length + (eval_Split.parts n _).length < _; omega)]
          exact Big.of _
        · simp only [show ((e.f5.length : Int) == 2) = false from by rw [beq_eq_false_iff_ne]; omega, if_neg (show ¬ (e.f0 = 19 ∧ e.f5.length = 2) from fun q => h2 q.2)]
          exact no _
      · simp only [if_neg h1, if_neg (show ¬ (e.f0 = 19 ∧ e.f5.length = 2) from fun q => h1 q.1)]
        exact no _
end Go.Proofs.Ytfkdldaadjhcfaa.Pure.EvalSplitsOf
namespace Go.Proofs.Ytfkdldaadjhcfaa.Pure
open Go Go.RowKit Go.Proofs.Ytfkdldaadjhcfaa.PEvalSplits Go.Proofs.YtfkdldaadjhcfaaW.PrintWords Go.Proofs.YtfkdldaadjhcfaaW.PrintLast Go.Proofs.Ytfkdldaadjhcfaa.Bg EvalSplitsOf
theorem EvalSplits : commonholdlaw_EvalSplits.Pure := by
  intro e _ hz
  obtain ⟨k0, hk0⟩ := fits_of hz
  refine Big.to ?_
  simp only [commonholdlaw_EvalSplits.f]
  have same : ∀ l : List S26, (∀ x ∈ l, deep k0 x) → Big (fun k => commonholdlaw_sameExprs.f k l l) true := fun l hl => by
    refine ⟨k0, fun k hk => ?_⟩
    unfold commonholdlaw_sameExprs.f
    dsimp only
    have up : ∀ m, k0 ≤ m → ∀ x ∈ l, deep m x := fun m hm => by
      induction hm with
      | refl => exact hl
      | step _ ih => exact fun x hx => deep_up _ x (ih x hx)
    rw [if_pos (commonholdlaw_sameExprs.eqs_self l (fun x hx => commonholdlaw_sameExprs.eqN_self k x (up k hk x hx)))]
  by_cases h0 : e.f0 = 0
  · refine Big.bind (r := []) ⟨0, fun k _ => by unfold eval_Split.f; dsimp only; rw [if_pos h0]⟩ ?_
    refine Big.bind (r := []) ⟨0, fun k _ => by unfold commonholdref_Conjuncts.f; dsimp only; rw [if_pos h0]⟩ ?_
    exact Big.bind (same [] (by simp)) (Big.of true)
  · refine Big.bind (r := parts 11 e) ⟨k0, fun k hk => by unfold eval_Split.f; dsimp only; rw [if_neg h0, show eval_Split.expr e.f0 e.f1.f0 e.f1.f1 e.f1.f2 e.f2 e.f3 e.f4 e.f5 = e from selfE e, if_pos (show eval_Split.fits k e = true from fits_le hk0 hk)]⟩ ?_
    refine Big.bind (r := parts 11 e) ?_ ?_
    · refine Big.congr (g' := fun k => (commonholdref_splitAt.f k e.f0 e.f1.f0 e.f1.f1 e.f1.f2 e.f2 e.f3 e.f4 e.f5 ((11 + 1 : Nat) : Int)).bind fun t => some t) (Big.bind (split_at 11 e (by omega)) (Big.of _)) (fun k => by unfold commonholdref_Conjuncts.f; rw [if_neg h0]; rfl)
    · exact Big.bind (same _ (part_deep 11 k0 e (deep_of k0 e hk0))) (Big.of true)
end Go.Proofs.Ytfkdldaadjhcfaa.Pure
