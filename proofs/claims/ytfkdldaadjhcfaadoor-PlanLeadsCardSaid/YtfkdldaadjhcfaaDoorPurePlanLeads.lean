/- plan.Lead answers as its reference does, at every list of expressions. No condition beyond the statement's own. -/
import Derived.Test.YtfkdldaadjhcfaaDoorPPlanLeadsx8
import Derived.Test.YtfkdldaadjhcfaaDoorBig
import Derived.Lib.ValidLaws
import Derived.Lib.BytesEntry
import Derived.Laws.Strings
namespace Go.Proofs.YtfkdldaadjhcfaaDoor.Pure.PlanLeadsOf
open Go Go.RowKit Go.Proofs.YtfkdldaadjhcfaaDoor.PPlanLeads Go.Proofs.YtfkdldaadjhcfaaDoorW.PrintWords Go.Proofs.YtfkdldaadjhcfaaDoorW.PrintLast Go.Proofs.YtfkdldaadjhcfaaDoor.Bg
set_option linter.unusedVariables false
set_option linter.unusedSimpArgs false
/-- A byte of a text. -/
def by8 (t : ByteArray) (i : Nat) : Nat := (t.data.toList.getD i 0).toNat
theorem by8_lt (t : ByteArray) (i : Nat) : by8 t i < 256 := (t.data.toList.getD i 0).toNat_lt
theorem bt_by8 (t : ByteArray) (i : Nat) (h : i < t.size) : bt t (i : Int) = (by8 t i : Int) := by
  rw [bt_at' t i h]
  unfold by8
  have : t.data.toList.getD i 0 = t[i] := by
    rw [List.getD_eq_getElem?_getD, List.getElem?_eq_getElem (by simpa using h)]
    simp
    rfl
  rw [this]
/-- What follows the bytes of a sign. -/
def fin3 (code : Int) : Int := if code < 2048 then 0 else if 55296 ≤ code ∧ code ≤ 57343 then 0 else 3
def fin4 (code : Int) : Int := if code < 65536 then 0 else if code > 1114111 then 0 else 4
theorem rs_end2 (t : ByteArray) (code : Int) : Big (fun k => commonholdref_runeSize.l0 k t 2 code 2) 2 := by
  refine Big.succ ?_
  simp only [commonholdref_runeSize.l0]
  simp only [if_neg (show ¬ (2 : Int) < 2 by omega), if_neg (show ¬ (2 : Int) = 3 by omega), if_neg (show ¬ (2 : Int) = 4 by omega)]
  exact Big.of _
theorem rs_end3 (t : ByteArray) (code : Int) : Big (fun k => commonholdref_runeSize.l0 k t 3 code 3) (fin3 code) := by
  refine Big.succ ?_
  simp only [commonholdref_runeSize.l0]
  simp only [if_neg (show ¬ (3 : Int) < 3 by omega), if_true, if_neg (show ¬ (3 : Int) = 4 by omega)]
  unfold fin3
  by_cases h1 : code < 2048
  · simp only [if_pos h1]; exact Big.of _
  · simp only [if_neg h1]
    by_cases h2 : code ≥ 55296
    · simp only [if_pos h2]
      by_cases h3 : code ≤ 57343
      · simp only [if_pos h3, if_pos (show 55296 ≤ code ∧ code ≤ 57343 from ⟨h2, h3⟩)]; exact Big.of _
      · simp only [if_neg h3, if_neg (show ¬ (55296 ≤ code ∧ code ≤ 57343) by omega)]; exact Big.of _
    · simp only [if_neg h2, if_neg (show ¬ (55296 ≤ code ∧ code ≤ 57343) by omega)]; exact Big.of _
theorem rs_end4 (t : ByteArray) (code : Int) : Big (fun k => commonholdref_runeSize.l0 k t 4 code 4) (fin4 code) := by
  refine Big.succ ?_
  simp only [commonholdref_runeSize.l0]
  simp only [if_neg (show ¬ (4 : Int) < 4 by omega), if_neg (show ¬ (4 : Int) = 3 by omega), if_true]
  unfold fin4
  by_cases h1 : code < 65536
  · simp only [if_pos h1]; exact Big.of _
  · simp only [if_neg h1]
    by_cases h2 : code > 1114111
    · simp only [if_pos h2]; exact Big.of _
    · simp only [if_neg h2]; exact Big.of _
theorem and63 : ∀ b : Nat, b < 256 → Go.bits .and .u8 (b : Int) 63 = ((b % 64 : Nat) : Int) := by decide +kernel
theorem and31 : ∀ b : Nat, b < 256 → Go.bits .and .i64 (b : Int) 31 = ((b % 32 : Nat) : Int) := by decide +kernel
theorem and15 : ∀ b : Nat, b < 256 → Go.bits .and .i64 (b : Int) 15 = ((b % 16 : Nat) : Int) := by decide +kernel
theorem and7 : ∀ b : Nat, b < 256 → Go.bits .and .i64 (b : Int) 7 = ((b % 8 : Nat) : Int) := by decide +kernel
theorem rs_step (t : ByteArray) (n i code : Nat) (r : Int) (hi : i < n) (h4 : n ≤ 4) (hs : i < t.size) (hc : code ≤ 16777216)
    (h : Big (fun k => commonholdref_runeSize.l0 k t (n : Int) ((code * 64 + by8 t i % 64 : Nat) : Int) ((i + 1 : Nat) : Int)) r) :
    Big (fun k => commonholdref_runeSize.l0 k t (n : Int) (code : Int) (i : Int)) (if by8 t i < 128 ∨ 191 < by8 t i then 0 else r) := by
  refine Big.succ ?_
  simp only [commonholdref_runeSize.l0]
  have hb := by8_lt t i
  simp only [if_pos (show (i : Int) < (n : Int) by omega), if_pos (show (0 : Int) ≤ (i : Int) by omega), if_pos (show (i : Int) < (t.size : Int) by omega), bt_by8 t i hs, and63 _ hb]
  have e1 : wrap64 ((by8 t i % 64 : Nat) : Int) = ((by8 t i % 64 : Nat) : Int) := w64 (by omega) (by omega)
  have e2 : wrap64 ((code : Int) * 64) = (code : Int) * 64 := w64 (by omega) (by omega)
  have e3 : wrap64 ((code : Int) * 64 + ((by8 t i % 64 : Nat) : Int)) = ((code * 64 + by8 t i % 64 : Nat) : Int) := by rw [w64 (by omega) (by omega)]; omega
  have e4 : wrap64 ((i : Int) + 1) = ((i + 1 : Nat) : Int) := by rw [w64 (by omega) (by omega)]; omega
  simp only [e1, e2, e3, e4]
  by_cases h1 : ((by8 t i : Nat) : Int) < 128
  · simp only [if_pos h1]
    refine (Big.of 0).cast ?_
    rw [if_pos (.inl (by omega))]
  by_cases h2 : ((by8 t i : Nat) : Int) > 191
  · simp only [if_neg h1, if_pos h2]
    refine (Big.of 0).cast ?_
    rw [if_pos (.inr (by omega))]
  · simp only [if_neg h1, if_neg h2]
    refine h.cast ?_
    rw [if_neg (by omega)]
/-- How wide is the sign that begins a text; 0: there is none. -/
def rsz (n b0 b1 b2 b3 : Nat) : Int :=
  if b0 < 128 then 1
  else if 194 ≤ b0 ∧ b0 < 224 then (if n < 2 then 0 else if b1 < 128 ∨ 191 < b1 then 0 else 2)
  else if 224 ≤ b0 ∧ b0 < 240 then (if n < 3 then 0 else if b1 < 128 ∨ 191 < b1 then 0 else if b2 < 128 ∨ 191 < b2 then 0 else fin3 (((b0 % 16 * 64 + b1 % 64) * 64 + b2 % 64 : Nat) : Int))
  else if 240 ≤ b0 ∧ b0 < 245 then (if n < 4 then 0 else if b1 < 128 ∨ 191 < b1 then 0 else if b2 < 128 ∨ 191 < b2 then 0 else if b3 < 128 ∨ 191 < b3 then 0 else fin4 ((((b0 % 8 * 64 + b1 % 64) * 64 + b2 % 64) * 64 + b3 % 64 : Nat) : Int))
  else 0
theorem rs_j3 (t : ByteArray) (n code : Nat) (hn : n ≤ 4) (h2 : 2 ≤ n) (r : Int) (h : n ≤ t.size → Big (fun k => commonholdref_runeSize.l0 k t (n : Int) (code : Int) 1) r) :
    Big (fun k => commonholdref_runeSize.j2 k t (n : Int) (code : Int)) (if t.size < n then 0 else r) := by
  refine Big.succ (Big.succ ?_)
  simp only [commonholdref_runeSize.j2, commonholdref_runeSize.j3]
  simp only [if_neg (show ¬ (n : Int) = 0 by omega)]
  by_cases hs : (t.size : Int) < (n : Int)
  · simp only [decide_eq_true hs, if_true]
    refine (Big.of 0).cast ?_
    rw [if_pos (by omega)]
  · simp only [decide_eq_false hs, if_neg (show ¬ (false = true) by decide)]
    refine (h (by omega)).cast ?_
    rw [if_neg (by omega)]
theorem rs_none (t : ByteArray) : Big (fun k => commonholdref_runeSize.j2 k t 0 0) 0 := by
  refine Big.succ (Big.succ ?_)
  simp only [commonholdref_runeSize.j2, commonholdref_runeSize.j3, if_true]
  exact Big.of _
set_option maxRecDepth 100000 in
theorem rs_law (t : ByteArray) (h0 : 0 < t.size) : Big (fun k => commonholdref_runeSize.f k t) (rsz t.size (by8 t 0) (by8 t 1) (by8 t 2) (by8 t 3)) := by
  have hb := by8_lt t 0
  have ew : wrap64 (bt t 0) = (by8 t 0 : Int) := by rw [show (0 : Int) = ((0 : Nat) : Int) from rfl, bt_by8 t 0 h0, w64 (by omega) (by omega)]
  simp only [commonholdref_runeSize.f, if_neg (show ¬ (t.size : Int) = 0 by omega), if_pos (show (0 : Int) < (t.size : Int) by omega), ew]
  unfold rsz
  by_cases c1 : by8 t 0 < 128
  · simp only [if_pos (show ((by8 t 0 : Nat) : Int) < 128 by omega), if_pos c1]
    exact Big.of _
  simp only [if_neg (show ¬ ((by8 t 0 : Nat) : Int) < 128 by omega), if_neg c1]
  by_cases c2 : 194 ≤ by8 t 0 ∧ by8 t 0 < 224
  · simp only [if_pos (show ((by8 t 0 : Nat) : Int) ≥ 194 by omega), decide_eq_true (show ((by8 t 0 : Nat) : Int) < 224 by omega), if_pos c2]
    refine Big.succ ?_
    simp only [commonholdref_runeSize.j0, if_true, and31 _ hb]
    refine rs_j3 t 2 _ (by omega) (by omega) _ (fun hs => ?_)
    exact rs_step t 2 1 _ _ (by omega) (by omega) (by omega) (by omega) (rs_end2 t _)
  simp only [if_neg c2]
  by_cases c3 : 224 ≤ by8 t 0 ∧ by8 t 0 < 240
  · simp only [if_pos (show ((by8 t 0 : Nat) : Int) ≥ 194 by omega), decide_eq_false (show ¬ ((by8 t 0 : Nat) : Int) < 224 by omega), if_pos c3]
    refine Big.succ (Big.succ ?_)
    simp only [commonholdref_runeSize.j0, commonholdref_runeSize.j1, if_neg (show ¬ (false = true) by decide), if_pos (show ((by8 t 0 : Nat) : Int) ≥ 224 by omega), decide_eq_true (show ((by8 t 0 : Nat) : Int) < 240 by omega), if_true, and15 _ hb]
    refine rs_j3 t 3 _ (by omega) (by omega) _ (fun hs => ?_)
    exact rs_step t 3 1 _ _ (by omega) (by omega) (by omega) (by omega) (rs_step t 3 2 _ _ (by omega) (by omega) (by omega) (by omega) (rs_end3 t _))
  simp only [if_neg c3]
  by_cases c4 : 240 ≤ by8 t 0 ∧ by8 t 0 < 245
  · simp only [if_pos (show ((by8 t 0 : Nat) : Int) ≥ 194 by omega), decide_eq_false (show ¬ ((by8 t 0 : Nat) : Int) < 224 by omega), if_pos c4]
    refine Big.succ (Big.succ ?_)
    simp only [commonholdref_runeSize.j0, commonholdref_runeSize.j1, if_neg (show ¬ (false = true) by decide), if_pos (show ((by8 t 0 : Nat) : Int) ≥ 224 by omega), decide_eq_false (show ¬ ((by8 t 0 : Nat) : Int) < 240 by omega), if_pos (show ((by8 t 0 : Nat) : Int) ≥ 240 by omega), if_pos (show ((by8 t 0 : Nat) : Int) < 245 by omega), and7 _ hb]
    refine rs_j3 t 4 _ (by omega) (by omega) _ (fun hs => ?_)
    exact rs_step t 4 1 _ _ (by omega) (by omega) (by omega) (by omega) (rs_step t 4 2 _ _ (by omega) (by omega) (by omega) (by omega) (rs_step t 4 3 _ _ (by omega) (by omega) (by omega) (by omega) (rs_end4 t _)))
  simp only [if_neg c4]
  by_cases c5 : ((by8 t 0 : Nat) : Int) ≥ 194
  · simp only [if_pos c5, decide_eq_false (show ¬ ((by8 t 0 : Nat) : Int) < 224 by omega)]
    refine Big.succ (Big.succ ?_)
    simp only [commonholdref_runeSize.j0, commonholdref_runeSize.j1, if_neg (show ¬ (false = true) by decide), if_pos (show ((by8 t 0 : Nat) : Int) ≥ 224 by omega), decide_eq_false (show ¬ ((by8 t 0 : Nat) : Int) < 240 by omega), if_pos (show ((by8 t 0 : Nat) : Int) ≥ 240 by omega), if_neg (show ¬ ((by8 t 0 : Nat) : Int) < 245 by omega)]
    exact rs_none t
  · simp only [if_neg c5]
    refine Big.succ (Big.succ ?_)
    simp only [commonholdref_runeSize.j0, commonholdref_runeSize.j1, if_neg (show ¬ (false = true) by decide), if_neg (show ¬ ((by8 t 0 : Nat) : Int) ≥ 224 by omega), if_neg (show ¬ ((by8 t 0 : Nat) : Int) ≥ 240 by omega)]
    exact rs_none t
/-- The reference's width is what the decoder's tables say. -/
theorem rsz_check (n b0 b1 b2 b3 : Nat) (h0 : 128 ≤ b0) (h0' : b0 < 256) : Lib.checkN n b1 b2 b3 (Lib.firstT b0 % 8) (Lib.accLo (Lib.firstT b0 / 16)) (Lib.accHi (Lib.firstT b0 / 16)) = if rsz n b0 b1 b2 b3 = 0 then none else some (rsz n b0 b1 b2 b3).toNat := by
  by_cases c0 : b0 < 194
  · simp [Lib.firstT, Lib.checkN, rsz, show ¬ b0 < 128 by omega, c0, show ¬ 194 ≤ b0 by omega, show ¬ 224 ≤ b0 by omega, show ¬ 240 ≤ b0 by omega]
  by_cases c1 : b0 < 224
  · have e1 : Lib.firstT b0 = 2 := by simp [Lib.firstT, show ¬ b0 < 128 by omega, c0, c1]
    rw [e1]
    unfold rsz Lib.checkN
    simp only [show (2 : Nat) % 8 = 2 from rfl, show (2 : Nat) / 16 = 0 from rfl, show Lib.accLo 0 = 128 by decide, show Lib.accHi 0 = 191 by decide, if_true, if_neg (show ¬ b0 < 128 by omega), if_pos (show 194 ≤ b0 ∧ b0 < 224 by omega)]
    repeat' split
    all_goals first | rfl | (exfalso; omega)
  by_cases c2 : b0 < 240
  · obtain ⟨e, lo, hi, he, hlo, hhi, hcase⟩ : ∃ e lo hi, Lib.firstT b0 % 8 = 3 ∧ Lib.accLo (Lib.firstT b0 / 16) = lo ∧ Lib.accHi (Lib.firstT b0 / 16) = hi ∧ e = 0 ∧ ((b0 = 224 ∧ lo = 160 ∧ hi = 191) ∨ (b0 = 237 ∧ lo = 128 ∧ hi = 159) ∨ (b0 ≠ 224 ∧ b0 ≠ 237 ∧ lo = 128 ∧ hi = 191)) := by
      refine ⟨0, Lib.accLo (Lib.firstT b0 / 16), Lib.accHi (Lib.firstT b0 / 16), ?_, rfl, rfl, rfl, ?_⟩
      · by_cases d1 : b0 = 224
        · subst d1; decide
        by_cases d2 : b0 < 237
        · simp [Lib.firstT, show ¬ b0 < 128 by omega, c0, c1, d1, d2]
        by_cases d3 : b0 = 237
        · subst d3; decide
        · simp [Lib.firstT, show ¬ b0 < 128 by omega, c0, c1, d1, d2, d3, c2]
      · by_cases d1 : b0 = 224
        · subst d1; exact .inl ⟨rfl, by decide, by decide⟩
        by_cases d2 : b0 < 237
        · exact .inr (.inr ⟨d1, by omega, by simp [Lib.firstT, Lib.accLo, show ¬ b0 < 128 by omega, c0, c1, d1, d2], by simp [Lib.firstT, Lib.accHi, show ¬ b0 < 128 by omega, c0, c1, d1, d2]⟩)
        by_cases d3 : b0 = 237
        · subst d3; exact .inr (.inl ⟨rfl, by decide, by decide⟩)
        · exact .inr (.inr ⟨d1, d3, by simp [Lib.firstT, Lib.accLo, show ¬ b0 < 128 by omega, c0, c1, d1, d2, d3, c2], by simp [Lib.firstT, Lib.accHi, show ¬ b0 < 128 by omega, c0, c1, d1, d2, d3, c2]⟩)
    obtain ⟨he0, hcase⟩ := hcase
    rw [he, hlo, hhi]
    unfold rsz Lib.checkN fin3
    simp only [if_neg (show ¬ b0 < 128 by omega), if_neg (show ¬ (194 ≤ b0 ∧ b0 < 224) by omega), if_pos (show 224 ≤ b0 ∧ b0 < 240 by omega), if_neg (show ¬ (3 : Nat) = 2 by omega), if_true]
    repeat' split
    all_goals first | rfl | (exfalso; omega)
  by_cases c3 : b0 < 245
  · obtain ⟨lo, hi, he, hlo, hhi, hcase⟩ : ∃ lo hi, Lib.firstT b0 % 8 = 4 ∧ Lib.accLo (Lib.firstT b0 / 16) = lo ∧ Lib.accHi (Lib.firstT b0 / 16) = hi ∧ ((b0 = 240 ∧ lo = 144 ∧ hi = 191) ∨ (b0 = 244 ∧ lo = 128 ∧ hi = 143) ∨ (b0 ≠ 240 ∧ b0 ≠ 244 ∧ lo = 128 ∧ hi = 191)) := by
      refine ⟨Lib.accLo (Lib.firstT b0 / 16), Lib.accHi (Lib.firstT b0 / 16), ?_, rfl, rfl, ?_⟩
      · have : b0 = 240 ∨ b0 = 241 ∨ b0 = 242 ∨ b0 = 243 ∨ b0 = 244 := by omega
        rcases this with rfl | rfl | rfl | rfl | rfl <;> decide
      · have : b0 = 240 ∨ b0 = 241 ∨ b0 = 242 ∨ b0 = 243 ∨ b0 = 244 := by omega
        rcases this with rfl | rfl | rfl | rfl | rfl <;> decide
    rw [he, hlo, hhi]
    unfold rsz Lib.checkN fin4
    simp only [if_neg (show ¬ b0 < 128 by omega), if_neg (show ¬ (194 ≤ b0 ∧ b0 < 224) by omega), if_neg (show ¬ (224 ≤ b0 ∧ b0 < 240) by omega), if_pos (show 240 ≤ b0 ∧ b0 < 245 by omega), if_neg (show ¬ (4 : Nat) = 2 by omega), if_neg (show ¬ (4 : Nat) = 3 by omega), if_true]
    repeat' split
    all_goals first | rfl | (exfalso; omega)
  · have e1 : Lib.firstT b0 % 8 = 1 := by
      have h := h0'
      simp [Lib.firstT, show ¬ b0 < 128 by omega, c0, c1, show ¬ b0 = 224 by omega, show ¬ b0 < 237 by omega, show ¬ b0 = 237 by omega, c2, show ¬ b0 = 240 by omega, show ¬ b0 < 244 by omega, show ¬ b0 = 244 by omega]
    rw [e1]
    unfold rsz Lib.checkN
    simp only [if_neg (show ¬ b0 < 128 by omega), if_neg (show ¬ (194 ≤ b0 ∧ b0 < 224) by omega), if_neg (show ¬ (224 ≤ b0 ∧ b0 < 240) by omega), if_neg (show ¬ (240 ≤ b0 ∧ b0 < 245) by omega), if_neg (show ¬ (1 : Nat) = 2 by omega), if_neg (show ¬ (1 : Nat) = 3 by omega), if_neg (show ¬ (1 : Nat) = 4 by omega), if_true]
theorem rsz_le (n b0 b1 b2 b3 : Nat) (h1 : 1 ≤ n) : 0 ≤ rsz n b0 b1 b2 b3 ∧ rsz n b0 b1 b2 b3 ≤ n := by
  unfold rsz fin3 fin4
  repeat' split
  all_goals omega
/-- One sign on. -/
theorem valid_rsz (t : ByteArray) (h0 : 0 < t.size) : Lib.validD t.data.toList = if rsz t.size (by8 t 0) (by8 t 1) (by8 t 2) (by8 t 3) = 0 then false else Lib.validD (t.data.toList.drop (rsz t.size (by8 t 0) (by8 t 1) (by8 t 2) (by8 t 3)).toNat) := by
  have hl : t.data.toList.length = t.size := by simp
  have hne : t.data.toList ≠ [] := fun h => by rw [h] at hl; simp at hl; omega
  by_cases hb : by8 t 0 < 128
  · have e : rsz t.size (by8 t 0) (by8 t 1) (by8 t 2) (by8 t 3) = 1 := by unfold rsz; rw [if_pos hb]
    rw [e, if_neg (by omega)]
    unfold by8 at hb
    obtain ⟨b, r, hbr⟩ := List.exists_cons_of_ne_nil hne
    rw [hbr] at hb ⊢
    exact Lib.validD_cons b r (by simpa using hb)
  · rw [Lib.validD_lead _ hne (by unfold by8 at hb; omega), hl]
    have h := rsz_check t.size (by8 t 0) (by8 t 1) (by8 t 2) (by8 t 3) (by omega) (by8_lt t 0)
    unfold by8 at h ⊢
    rw [h]
    split
    · rename_i h2
      by_cases hz : rsz t.size (t.data.toList.getD 0 0).toNat (t.data.toList.getD 1 0).toNat (t.data.toList.getD 2 0).toNat (t.data.toList.getD 3 0).toNat = 0
      · rw [if_pos hz]
      · rw [if_neg hz] at h2; cases h2
    · rename_i k h2
      by_cases hz : rsz t.size (t.data.toList.getD 0 0).toNat (t.data.toList.getD 1 0).toNat (t.data.toList.getD 2 0).toNat (t.data.toList.getD 3 0).toNat = 0
      · rw [if_pos hz] at h2; cases h2
      · rw [if_neg hz] at h2 ⊢
        injection h2 with h2
        rw [h2]
theorem ext_drop (s : ByteArray) (i : Nat) : (s.extract i s.size).data.toList = s.data.toList.drop i := by
  simp [ByteArray.data_extract, Array.toList_extract, List.extract]
  rw [List.take_of_length_le (by simp)]
/-- The reference's Signs is the decoder's own answer. -/
theorem signs_law (s : ByteArray) (hs : s.size ≤ 4611686018427387904) (d : Nat) : ∀ i : Nat, i ≤ s.size → s.size - i ≤ d → Big (fun k => commonholdref_Signs.l0 k s (i : Int)) (Lib.validD (s.data.toList.drop i)) := by
  induction d with
  | zero =>
    intro i hi hd
    refine Big.succ ?_
    simp only [commonholdref_Signs.l0, if_neg (show ¬ (i : Int) < (s.size : Int) by omega)]
    refine (Big.of true).cast ?_
    rw [List.drop_eq_nil_of_le (by simp; omega)]
    rfl
  | succ d ih =>
    intro i hi hd
    by_cases hlt : i < s.size
    · refine Big.succ ?_
      simp only [commonholdref_Signs.l0, if_pos (show (i : Int) < (s.size : Int) by omega), if_pos (show (0 : Int) ≤ (i : Int) by omega), if_pos (show (i : Int) ≤ (s.size : Int) by omega), Int.toNat_natCast]
      obtain ⟨t, ht⟩ : ∃ t, s.extract i s.size = t := ⟨_, rfl⟩
      have hsz : t.size = s.size - i := by rw [← ht]; simp
      have hdr : s.data.toList.drop i = t.data.toList := by rw [← ht, ext_drop]
      rw [hdr]
      simp only [ht]
      refine Big.bind (rs_law t (by omega)) ?_
      rw [valid_rsz t (by omega)]
      have hle := rsz_le t.size (by8 t 0) (by8 t 1) (by8 t 2) (by8 t 3) (by omega)
      generalize rsz t.size (by8 t 0) (by8 t 1) (by8 t 2) (by8 t 3) = z at *
      by_cases hz : z = 0
      · simp only [if_pos hz]
        exact Big.of _
      · simp only [if_neg hz]
        obtain ⟨zn, rfl⟩ : ∃ zn : Nat, z = (zn : Int) := ⟨z.toNat, by omega⟩
        have ew : wrap64 ((i : Int) + (zn : Int)) = ((i + zn : Nat) : Int) := by rw [w64 (by omega) (by omega)]; omega
        simp only [ew]
        refine (ih (i + zn) (by omega) (by omega)).cast ?_
        rw [← hdr, List.drop_drop]
        simp
    · refine Big.succ ?_
      simp only [commonholdref_Signs.l0, if_neg (show ¬ (i : Int) < (s.size : Int) by omega)]
      refine (Big.of true).cast ?_
      rw [List.drop_eq_nil_of_le (by simp; omega)]
      rfl
theorem signs_f (s : ByteArray) (hs : s.size ≤ 4611686018427387904) : Big (fun k => commonholdref_Signs.f k s) (Lib.validD s.data.toList) := by
  simpa [commonholdref_Signs.f] using signs_law s hs s.size 0 (by omega) (by omega)
theorem or_one (x : Int) (h : -9223372036854775808 ≤ x ∧ x ≤ 9223372036854775807) : Go.bits .or .i64 x 1 = 1 ↔ (x = 0 ∨ x = 1) := by
  have key : Go.bits .or .i64 x 1 = IntKind.i64.wrap (((x % 18446744073709551616).toNat ||| 1 : Nat) : Int) := by
    show IntKind.i64.wrap ((BitVec.ofInt 64 x ||| BitVec.ofInt 64 1).toNat : Int) = _
    rw [BitVec.toNat_or, BitVec.toNat_ofInt, BitVec.toNat_ofInt]
    rfl
  rw [key, IntKind.wrap_i64]
  obtain ⟨a, ha⟩ : ∃ a, (x % 18446744073709551616).toNat = a := ⟨_, rfl⟩
  rw [ha]
  have hlt : a ||| 1 < 2 ^ 64 := Nat.or_lt_two_pow (by omega) (by omega)
  have hle : a ≤ a ||| 1 := Nat.left_le_or
  constructor
  · intro h1
    have : (a ||| 1) = 1 := by omega
    omega
  · rintro (rfl | rfl)
    · have : a = 0 := by omega
      subst this; decide
    · have : a = 1 := by omega
      subst this; decide
/-- What is the matter with a value? -/
def fault (K I : Int) (T : ByteArray) : Int :=
  if K < 0 ∨ 3 < K then 3 else if 40 < T.size then 1
  else if (K = 0 ∧ I = 0 ∧ T.toList = []) ∨ (K = 1 ∧ (I = 0 ∨ I = 1) ∧ T.toList = []) ∨ (K = 2 ∧ T.toList = []) ∨ (K = 3 ∧ I = 0 ∧ Lib.validD T.data.toList = true) then 0 else 4
theorem check_law (K I : Int) (T : ByteArray) (hI : -9223372036854775808 ≤ I ∧ I ≤ 9223372036854775807) : Big (fun k => value_Check.f k K I T) (fault K I T) := by
  have ho := or_one I hI
  simp only [value_Check.f]
  unfold fault
  by_cases h0 : K < 0
  · simp only [if_pos h0]
    refine Big.succ ?_
    simp only [value_Check.j0, if_true]
    exact (Big.of 3).cast (by rw [if_pos (.inl h0)])
  simp only [if_neg h0]
  refine Big.succ ?_
  by_cases h3 : K > 3
  · simp only [value_Check.j0, decide_eq_true h3, if_true]
    exact (Big.of 3).cast (by rw [if_pos (.inr h3)])
  simp only [value_Check.j0, decide_eq_false h3, if_neg (show ¬ (false = true) by decide)]
  rw [if_neg (show ¬ (K < 0 ∨ 3 < K) by omega)]
  by_cases h40 : (T.size : Int) > 40
  · simp only [if_pos h40]
    exact (Big.of 1).cast (by rw [if_pos (by omega)])
  simp only [if_neg h40]
  rw [if_neg (show ¬ 40 < T.size by omega)]
  by_cases k0 : K = 0
  · simp only [if_pos k0]
    by_cases hz : (K == 0 && (I == 0 && (T.toList == ([] : List UInt8)))) = true
    · simp only [if_pos hz]
      refine (Big.of 0).cast ?_
      simp only [Bool.and_eq_true, beq_iff_eq] at hz
      rw [if_pos (.inl hz)]
    · simp only [if_neg hz]
      refine (Big.of 4).cast ?_
      simp only [Bool.and_eq_true, beq_iff_eq] at hz
      rw [if_neg]
      rintro (h | ⟨h, _⟩ | ⟨h, _⟩ | ⟨h, _⟩)
      · exact hz h
      all_goals omega
  simp only [if_neg k0]
  by_cases k1 : K = 1
  · simp only [if_pos k1]
    by_cases hb : Go.bits .or .i64 I 1 = 1
    · simp only [if_pos hb]
      by_cases ht : T.toList = []
      · simp only [if_pos ht]
        exact (Big.of 0).cast (by rw [if_pos (.inr (.inl ⟨k1, ho.1 hb, ht⟩))])
      · simp only [if_neg ht]
        refine (Big.of 4).cast ?_
        rw [if_neg]
        rintro (⟨_, _, h⟩ | ⟨_, _, h⟩ | ⟨_, h⟩ | ⟨h, _⟩)
        · exact ht h
        · exact ht h
        · exact ht h
        · omega
    · simp only [if_neg hb]
      refine (Big.of 4).cast ?_
      rw [if_neg]
      rintro (⟨h, _⟩ | ⟨_, h, _⟩ | ⟨h, _⟩ | ⟨h, _⟩)
      · exact k0 h
      · exact hb (ho.2 h)
      · omega
      · omega
  simp only [if_neg k1]
  by_cases k2 : K = 2
  · simp only [if_pos k2]
    by_cases ht : T.toList = []
    · simp only [if_pos ht]
      exact (Big.of 0).cast (by rw [if_pos (.inr (.inr (.inl ⟨k2, ht⟩)))])
    · simp only [if_neg ht]
      refine (Big.of 4).cast ?_
      rw [if_neg]
      rintro (⟨_, _, h⟩ | ⟨_, _, h⟩ | ⟨_, h⟩ | ⟨h, _⟩)
      · exact ht h
      · exact ht h
      · exact ht h
      · omega
  have k3 : K = 3 := by omega
  simp only [if_neg k2, if_pos k3]
  by_cases i0 : I = 0
  · simp only [if_pos i0]
    refine Big.bind1 (r := Lib.validD T.data.toList) (by unfold utf8_ValidString.f; rw [if_pos (by omega)]) ?_
    by_cases hv : Lib.validD T.data.toList = true
    · simp only [if_pos hv]
      exact (Big.of 0).cast (by rw [if_pos (.inr (.inr (.inr ⟨k3, i0, hv⟩)))])
    · simp only [if_neg hv]
      refine (Big.of 4).cast ?_
      rw [if_neg]
      rintro (⟨h, _⟩ | ⟨h, _⟩ | ⟨h, _⟩ | ⟨_, _, h⟩)
      · omega
      · omega
      · omega
      · exact hv h
  · simp only [if_neg i0]
    refine (Big.of 4).cast ?_
    rw [if_neg]
    rintro (⟨h, _⟩ | ⟨h, _⟩ | ⟨h, _⟩ | ⟨_, h, _⟩)
    · omega
    · omega
    · omega
    · exact i0 h
theorem fault_j1 (K I : Int) (T : ByteArray) (b : Bool) (hb : b = true ↔ ((K ≠ 3 ∧ T.toList ≠ []) ∨ ((K = 0 ∨ K = 3) ∧ I ≠ 0))) (hK : 0 ≤ K ∧ K ≤ 3) (h40 : T.size ≤ 40) :
    Big (fun k => commonholdref_ValueFault.j1 k b K I T) (fault K I T) := by
  unfold fault
  rw [if_neg (show ¬ (K < 0 ∨ 3 < K) by omega), if_neg (show ¬ 40 < T.size by omega)]
  refine Big.succ ?_
  simp only [commonholdref_ValueFault.j1]
  have sg : Big (fun k => (commonholdref_Signs.f k T).bind fun t => if t = true then some (0 : Int) else some 4) (if Lib.validD T.data.toList = true then 0 else 4) := by
    refine Big.bind (signs_f T (by omega)) ?_
    by_cases hv : Lib.validD T.data.toList = true
    · simp only [if_pos hv]; exact Big.of _
    · simp only [if_neg hv]; exact Big.of _
  cases b with
  | true =>
    have hb := hb.1 rfl
    simp only [if_true]
    refine (Big.of 4).cast ?_
    rw [if_neg]
    rintro (⟨h, hi, ht⟩ | ⟨h, _, ht⟩ | ⟨h, ht⟩ | ⟨h, hi, _⟩)
    · rcases hb with ⟨_, h2⟩ | ⟨_, h2⟩
      · exact h2 ht
      · exact h2 hi
    · rcases hb with ⟨_, h2⟩ | ⟨h2, _⟩
      · exact h2 ht
      · omega
    · rcases hb with ⟨_, h2⟩ | ⟨h2, _⟩
      · exact h2 ht
      · omega
    · rcases hb with ⟨h2, _⟩ | ⟨_, h2⟩
      · exact h2 h
      · exact h2 hi
  | false =>
    have hb : ¬ ((K ≠ 3 ∧ T.toList ≠ []) ∨ ((K = 0 ∨ K = 3) ∧ I ≠ 0)) := fun h => by have := hb.2 h; cases this
    simp only [not_or, not_and, Decidable.not_not] at hb
    obtain ⟨b1, b2⟩ := hb
    simp only [if_neg (show ¬ (false = true) by decide)]
    by_cases k1 : K = 1
    · have ht : T.toList = [] := b1 (by omega)
      simp only [if_pos k1, if_neg (show ¬ K = 3 by omega)]
      by_cases i0 : I = 0
      · simp only [if_pos i0]
        exact (Big.of 0).cast (by rw [if_pos (.inr (.inl ⟨k1, .inl i0, ht⟩))])
      · by_cases i1 : I = 1
        · simp only [if_neg i0, if_pos i1]
          exact (Big.of 0).cast (by rw [if_pos (.inr (.inl ⟨k1, .inr i1, ht⟩))])
        · simp only [if_neg i0, if_neg i1]
          refine (Big.of 4).cast ?_
          rw [if_neg]
          rintro (⟨h, _⟩ | ⟨_, h, _⟩ | ⟨h, _⟩ | ⟨h, _⟩)
          · omega
          · rcases h with h | h
            · exact i0 h
            · exact i1 h
          · omega
          · omega
    · simp only [if_neg k1]
      by_cases k3 : K = 3
      · simp only [if_pos k3]
        refine sg.cast ?_
        have i0 := b2 (.inr k3)
        by_cases hv : Lib.validD T.data.toList = true
        · rw [if_pos hv, if_pos (.inr (.inr (.inr ⟨k3, i0, hv⟩)))]
        · rw [if_neg hv, if_neg]
          rintro (⟨h, _⟩ | ⟨h, _⟩ | ⟨h, _⟩ | ⟨_, _, h⟩)
          · omega
          · omega
          · omega
          · exact hv h
      · simp only [if_neg k3]
        have ht : T.toList = [] := b1 k3
        refine (Big.of 0).cast ?_
        rw [if_pos]
        by_cases k0 : K = 0
        · exact .inl ⟨k0, b2 (.inl k0), ht⟩
        · exact .inr (.inr (.inl ⟨by omega, ht⟩))
theorem fault_j0 (K I : Int) (T : ByteArray) (hK : 0 ≤ K ∧ K ≤ 3) : Big (fun k => commonholdref_ValueFault.j0 k false K I T) (fault K I T) := by
  refine Big.succ ?_
  simp only [commonholdref_ValueFault.j0, if_neg (show ¬ (false = true) by decide)]
  by_cases h40 : (T.size : Int) > 40
  · simp only [if_pos h40]
    refine (Big.of 1).cast ?_
    unfold fault
    rw [if_neg (show ¬ (K < 0 ∨ 3 < K) by omega), if_pos (by omega)]
  simp only [if_neg h40]
  by_cases k3 : K = 3
  · simp only [if_pos k3, if_neg (show ¬ K = 0 by omega)]
    exact fault_j1 K I T _ (by simp [k3]) hK (by omega)
  · simp only [if_neg k3]
    by_cases ht : T.toList = []
    · simp only [if_pos ht]
      by_cases k0 : K = 0
      · simp only [if_pos k0]
        exact fault_j1 K I T _ (by simp [k0, ht]) hK (by omega)
      · simp only [if_neg k0]
        exact fault_j1 K I T _ (by simp [k0, k3, ht]) hK (by omega)
    · simp only [if_neg ht]
      exact fault_j1 K I T _ (by simp [k3, ht]) hK (by omega)
theorem fault_law (K I : Int) (T : ByteArray) : Big (fun k => commonholdref_ValueFault.f k K I T) (fault K I T) := by
  simp only [commonholdref_ValueFault.f]
  by_cases k0 : K = 0
  · simp only [if_pos k0]
    exact fault_j0 K I T (by omega)
  by_cases k1 : K = 1
  · simp only [if_neg k0, if_pos k1]
    exact fault_j0 K I T (by omega)
  by_cases k2 : K = 2
  · simp only [if_neg k0, if_neg k1, if_pos k2]
    exact fault_j0 K I T (by omega)
  simp only [if_neg k0, if_neg k1, if_neg k2]
  by_cases k3 : K = 3
  · have : (K != 3) = false := by simp [k3]
    simp only [this]
    exact fault_j0 K I T (by omega)
  · have : (K != 3) = true := by simp [k3]
    simp only [this]
    refine Big.succ ?_
    simp only [commonholdref_ValueFault.j0, if_true]
    refine (Big.of 3).cast ?_
    unfold fault
    rw [if_pos (by omega)]
def eval_expr_may.parts (op : Int) : Int := if op = 1 then 0 else if 4 ≤ op ∧ op ≤ 7 then 1 else if 8 ≤ op ∧ op ≤ 20 then 2 else -1
def eval_expr_may.zeroV (v : S39) : Prop := v.f0 = 0 ∧ v.f1 = 0 ∧ v.f2.toList = []
instance (v : S39) : Decidable (eval_expr_may.zeroV v) := by unfold eval_expr_may.zeroV; infer_instance
def eval_expr_may.fine (w : Int) (e : S41) : Prop := eval_expr_may.zeroV e.f1 ∧ (e.f2 ++ e.f3).toList = [] ∧ e.f5.length = 0 ∧ 0 ≤ e.f4 ∧ e.f4 < w
instance (w : Int) (e : S41) : Decidable (eval_expr_may.fine w e) := by unfold eval_expr_may.fine; infer_instance
theorem nil_size (s : ByteArray) : s.toList = [] ↔ s.size = 0 := by
  rw [ByteArray.toList_eq]
  constructor
  · intro h
    have := congrArg List.length h
    simpa using this
  · intro h
    apply List.eq_nil_of_length_eq_zero
    simpa using h
theorem nil_append (a b : ByteArray) : (a ++ b).toList = [] ↔ a.toList = [] ∧ b.toList = [] := by
  rw [nil_size, nil_size, nil_size, ByteArray.size_append']
  omega
/-- May it be asked, being at most n deep? -/
def okE (w : Int) : Nat → S41 → Bool
  | 0, _ => false
  | n + 1, e => if e.f0 = 3 then decide (eval_expr_may.fine w e) else
      if eval_expr_may.parts e.f0 ≠ e.f5.length ∨ ¬ (e.f2 ++ e.f3).toList = [] ∨ e.f4 ≠ 0 then false else
      if e.f0 = 1 then decide (fault e.f1.f0 e.f1.f1 e.f1.f2 = 0) else e.f5.all (okE w n) && decide (eval_expr_may.zeroV e.f1)
/-- Is it at most n deep? -/
def low : Nat → S41 → Prop
  | 0, _ => False
  | n + 1, e => ∀ s ∈ e.f5, low n s
theorem gd_parts {e : S41} (h : gd41 e) : gd39 e.f1 ∧ e.f5.length ≤ 9223372036854775807 ∧ ∀ y ∈ e.f5, gd41 y := by
  cases h with
  | mk _ h0 h1 h2 h3 h4 h5 h6 => exact ⟨h1, h5, h6⟩
theorem rd0 (l : List S41) (x : S41) (r : List S41) (h : l = x :: r) : rd_T41 l 0 = x := by subst h; rfl
theorem rd1 (x y : S41) (r : List S41) : rd_T41 (x :: y :: r) 1 = y := rfl
def kid (k : Nat) (w : Int) (x : S41) : Option Bool := commonholdref_askForm.f k x.f0 x.f1.f0 x.f1.f1 x.f1.f2 x.f2 x.f3 x.f4 x.f5 w
theorem empty_law (v : S39) : commonholdref_emptyValue.f v.f0 v.f1 v.f2 = some (decide (eval_expr_may.zeroV v)) := by
  unfold commonholdref_emptyValue.f eval_expr_may.zeroV
  by_cases h0 : v.f0 = 0
  · by_cases h1 : v.f1 = 0
    · simp [h0, h1]
      cases v.f2.toList <;> simp
    · simp [h0, h1]
  · simp [h0]
theorem two_law (w : Int) (n : Nat) (b : Bool) (a0 a1 a2 : Int) (a3 a4 a5 : ByteArray) (a6 : Int) (l : List S41) (h : ∀ x ∈ l, Big (fun k => kid k w x) (okE w n x)) :
    Big (fun k => commonholdref_askForm.j2 k w b a0 a1 a2 a3 a4 a5 a6 l) (b && (decide (l.length = 2) && l.all (okE w n))) := by
  refine Big.succ ?_
  simp only [commonholdref_askForm.j2]
  cases b with
  | false => simp only [if_neg (show ¬ false = true by decide)]; exact Big.of _
  | true =>
    simp only [if_true]
    by_cases h2 : (l.length : Int) = 2
    · simp only [if_pos h2]
      match l, h2, h with
      | [x, y], _, h =>
        simp only [if_pos (show (0 : Int) < (([x, y] : List S41).length : Int) by simp), show rd_T41 [x, y] 0 = x from rfl, show rd_T41 [x, y] 1 = y from rfl, if_pos (show (1 : Int) < (([x, y] : List S41).length : Int) by simp)]
        refine Big.bind (r := okE w n x) (h x (by simp)) ?_
        cases hx : okE w n x with
        | false => simp only [if_neg (show ¬ false = true by decide)]; exact (Big.of _).cast (by simp [hx])
        | true =>
          simp only [if_true]
          refine Big.bind (r := okE w n y) (h y (by simp)) ?_
          exact (Big.of _).cast (by simp [hx])
    · simp only [if_neg h2]
      exact (Big.of _).cast (by simp [show ¬ l.length = 2 by omega])
theorem one_law (w : Int) (n : Nat) (op : Int) (b : Bool) (a0 a1 a2 : Int) (a3 a4 a5 : ByteArray) (a6 : Int) (l : List S41) (h : ∀ x ∈ l, Big (fun k => kid k w x) (okE w n x)) :
    Big (fun k => commonholdref_askForm.j1 k w op b a0 a1 a2 a3 a4 a5 a6 l) (if b = true then decide (l.length = 1) && l.all (okE w n) else decide (8 ≤ op ∧ op ≤ 20) && (decide (l.length = 2) && l.all (okE w n))) := by
  refine Big.succ ?_
  simp only [commonholdref_askForm.j1]
  cases b with
  | true =>
    simp only [if_true]
    by_cases h1 : (l.length : Int) = 1
    · simp only [if_pos h1]
      match l, h1, h with
      | [x], _, h =>
        simp only [if_pos (show (0 : Int) < (([x] : List S41).length : Int) by simp), show rd_T41 [x] 0 = x from rfl]
        refine Big.bind (r := okE w n x) (h x (by simp)) ?_
        exact (Big.of _).cast (by simp)
    · simp only [if_neg h1]
      exact (Big.of _).cast (by simp [show ¬ l.length = 1 by omega])
  | false =>
    simp only [if_neg (show ¬ false = true by decide)]
    have key : ∀ c : Int, op = c → 8 ≤ c → c ≤ 20 → Big (fun k => commonholdref_askForm.j2 k w (op == c) a0 a1 a2 a3 a4 a5 a6 l) (decide (8 ≤ op ∧ op ≤ 20) && (decide (l.length = 2) && l.all (okE w n))) := by
      intro c hc h1 h2
      exact (two_law w n (op == c) a0 a1 a2 a3 a4 a5 a6 l h).cast (by rw [hc, beq_self_eq_true, decide_eq_true (show 8 ≤ c ∧ c ≤ 20 from ⟨h1, h2⟩)])
    by_cases c8 : op = 8
    · simp only [if_pos c8]; exact key 8 c8 (by decide) (by decide)
    simp only [if_neg c8]
    by_cases c9 : op = 9
    · simp only [if_pos c9]; exact key 9 c9 (by decide) (by decide)
    simp only [if_neg c9]
    by_cases c10 : op = 10
    · simp only [if_pos c10]; exact key 10 c10 (by decide) (by decide)
    simp only [if_neg c10]
    by_cases c11 : op = 11
    · simp only [if_pos c11]; exact key 11 c11 (by decide) (by decide)
    simp only [if_neg c11]
    by_cases c12 : op = 12
    · simp only [if_pos c12]; exact key 12 c12 (by decide) (by decide)
    simp only [if_neg c12]
    by_cases c13 : op = 13
    · simp only [if_pos c13]; exact key 13 c13 (by decide) (by decide)
    simp only [if_neg c13]
    by_cases c14 : op = 14
    · simp only [if_pos c14]; exact key 14 c14 (by decide) (by decide)
    simp only [if_neg c14]
    by_cases c15 : op = 15
    · simp only [if_pos c15]; exact key 15 c15 (by decide) (by decide)
    simp only [if_neg c15]
    by_cases c16 : op = 16
    · simp only [if_pos c16]; exact key 16 c16 (by decide) (by decide)
    simp only [if_neg c16]
    by_cases c17 : op = 17
    · simp only [if_pos c17]; exact key 17 c17 (by decide) (by decide)
    simp only [if_neg c17]
    by_cases c18 : op = 18
    · simp only [if_pos c18]; exact key 18 c18 (by decide) (by decide)
    simp only [if_neg c18]
    by_cases c19 : op = 19
    · simp only [if_pos c19]; exact key 19 c19 (by decide) (by decide)
    simp only [if_neg c19]
    by_cases c20 : op = 20
    · exact key 20 c20 (by decide) (by decide)
    · exact (two_law w n (op == 20) a0 a1 a2 a3 a4 a5 a6 l h).cast (by
        rw [beq_eq_false_iff_ne.2 c20, decide_eq_false (show ¬ (8 ≤ op ∧ op ≤ 20) by omega)])
theorem form_law (w : Int) : ∀ (n : Nat) (e : S41), low n e → Big (fun k => kid k w e) (okE w n e)
  | 0, _, h => h.elim
  | n + 1, e, h => by
    have hk : ∀ x ∈ e.f5, Big (fun k => kid k w x) (okE w n x) := fun x hx => form_law w n x (h x hx)
    refine Big.succ ?_
    simp only [kid, commonholdref_askForm.f]
    have bad : ¬ (e.f2 ++ e.f3).toList = [] → Big (fun k => commonholdref_askForm.j0 k w true e.f0 e.f1.f0 e.f1.f1 e.f1.f2 e.f2 e.f3 e.f4 e.f5) (okE w (n + 1) e) := by
      intro hc
      refine Big.succ ?_
      simp only [commonholdref_askForm.j0, if_true]
      refine (Big.of false).cast ?_
      unfold okE
      split
      · rw [decide_eq_false]; intro hf; exact hc hf.2.1
      · rw [if_pos (.inr (.inl hc))]
    by_cases h2 : e.f2.toList = []
    · simp only [if_pos h2]
      by_cases h3 : e.f3.toList = []
      · have hcat : (e.f2 ++ e.f3).toList = [] := (nil_append _ _).2 ⟨h2, h3⟩
        rw [show (e.f3.toList != ([] : List UInt8)) = false by rw [h3]; rfl]
        refine Big.succ ?_
        simp only [commonholdref_askForm.j0, if_neg (show ¬ false = true by decide)]
        by_cases o1 : e.f0 = 1
        · simp only [if_pos o1]
          have ho : okE w (n + 1) e = (decide (e.f5.length = 0) && (decide (e.f4 = 0) && decide (fault e.f1.f0 e.f1.f1 e.f1.f2 = 0))) := by
            unfold okE
            rw [if_neg (by omega), o1, show eval_expr_may.parts 1 = 0 from rfl]
            by_cases hl : e.f5.length = 0
            · by_cases h4 : e.f4 = 0
              · rw [if_neg (by rintro (h_ | h_ | h_) <;> first | omega | exact h_ hcat), if_pos rfl]
                simp [hl, h4]
              · rw [if_pos (.inr (.inr h4))]
                simp [h4]
            · rw [if_pos (.inl (by omega))]
              simp [hl]
          rw [ho]
          by_cases hl : (e.f5.length : Int) = 0
          · simp only [if_pos hl]
            by_cases h4 : e.f4 = 0
            · simp only [if_pos h4]
              refine Big.bind (fault_law _ _ _) ?_
              exact (Big.of _).cast (by simp [h4, show e.f5.length = 0 by omega]; rfl)
            · simp only [if_neg h4]
              exact (Big.of _).cast (by simp [h4])
          · simp only [if_neg hl]
            exact (Big.of _).cast (by simp [show ¬ e.f5.length = 0 by omega])
        · simp only [if_neg o1, empty_law, Option.bind_some]
          by_cases hz : eval_expr_may.zeroV e.f1
          · simp only [decide_eq_true hz, if_true]
            by_cases o3 : e.f0 = 3
            · simp only [if_pos o3]
              have ho : okE w (n + 1) e = decide (eval_expr_may.fine w e) := by unfold okE; rw [if_pos o3]
              rw [ho]
              by_cases hl : (e.f5.length : Int) = 0
              · simp only [if_pos hl]
                by_cases h4 : e.f4 ≥ 0
                · simp only [if_pos h4]
                  refine (Big.of _).cast ?_
                  unfold eval_expr_may.fine
                  simp [hz, hcat, show e.f5.length = 0 by omega]
                  intro _
                  omega
                · simp only [if_neg h4]
                  refine (Big.of _).cast ?_
                  rw [decide_eq_false]
                  intro hf
                  exact h4 hf.2.2.2.1
              · simp only [if_neg hl]
                refine (Big.of _).cast ?_
                rw [decide_eq_false]
                intro hf
                have := hf.2.2.1
                omega
            · simp only [if_neg o3]
              by_cases h4 : e.f4 = 0
              · simp only [if_pos h4]
                have ho : okE w (n + 1) e = (decide (eval_expr_may.parts e.f0 = e.f5.length) && e.f5.all (okE w n)) := by
                  unfold okE
                  rw [if_neg o3]
                  by_cases hp : eval_expr_may.parts e.f0 = e.f5.length
                  · rw [if_neg (by rintro (h_ | h_ | h_) <;> first | exact h_ hp | exact h_ hcat | exact h_ h4), if_neg o1]
                    simp [hp, hz]
                  · rw [if_pos (.inl hp)]
                    simp [hp]
                rw [ho]
                have four : ∀ c : Int, 4 ≤ c → c ≤ 7 → e.f0 = c → Big (fun k => commonholdref_askForm.j1 k w e.f0 (e.f0 == c) e.f0 e.f1.f0 e.f1.f1 e.f1.f2 e.f2 e.f3 e.f4 e.f5) (decide (eval_expr_may.parts e.f0 = e.f5.length) && e.f5.all (okE w n)) := by
                  intro c c1 c2 hc
                  refine (one_law w n e.f0 (e.f0 == c) e.f0 e.f1.f0 e.f1.f1 e.f1.f2 e.f2 e.f3 e.f4 e.f5 hk).cast ?_
                  rw [hc, beq_self_eq_true, if_pos rfl, eval_expr_may.parts, if_neg (by omega), if_pos ⟨c1, c2⟩]
                  congr 1
                  simp only [decide_eq_decide]
                  omega
                by_cases c4 : e.f0 = 4
                · simp only [if_pos c4]; exact four 4 (by decide) (by decide) c4
                simp only [if_neg c4]
                by_cases c5 : e.f0 = 5
                · simp only [if_pos c5]; exact four 5 (by decide) (by decide) c5
                simp only [if_neg c5]
                by_cases c6 : e.f0 = 6
                · simp only [if_pos c6]; exact four 6 (by decide) (by decide) c6
                simp only [if_neg c6]
                by_cases c7 : e.f0 = 7
                · exact four 7 (by decide) (by decide) c7
                · refine (one_law w n e.f0 (e.f0 == 7) e.f0 e.f1.f0 e.f1.f1 e.f1.f2 e.f2 e.f3 e.f4 e.f5 hk).cast ?_
                  rw [beq_eq_false_iff_ne.2 c7, if_neg (by decide), eval_expr_may.parts, if_neg o1, if_neg (by omega)]
                  by_cases hb : 8 ≤ e.f0 ∧ e.f0 ≤ 20
                  · rw [decide_eq_true hb, if_pos hb, Bool.true_and]
                    congr 1
                    simp only [decide_eq_decide]
                    omega
                  · rw [decide_eq_false hb, if_neg hb, decide_eq_false (show ¬ (-1 : Int) = e.f5.length by omega)]
                    rfl
              · simp only [if_neg h4]
                refine (Big.of _).cast ?_
                unfold okE
                rw [if_neg o3, if_pos (.inr (.inr h4))]
          · simp only [decide_eq_false hz, if_neg (show ¬ false = true by decide)]
            refine (Big.of _).cast ?_
            unfold okE
            split
            · rw [decide_eq_false]; intro hf; exact hz hf.1
            · split
              · rfl
              · first | rw [if_neg o1, decide_eq_false hz, Bool.and_false] | rw [decide_eq_false hz, Bool.and_false]
      · rw [show (e.f3.toList != ([] : List UInt8)) = true by simpa using h3]
        exact bad (fun hc => h3 ((nil_append _ _).1 hc).2)
    · simp only [if_neg h2]
      exact bad (fun hc => h2 ((nil_append _ _).1 hc).1)
theorem zd_len {e : S41} (h : zd41 e) : e.f5.length * 104 ≤ 140737488351232 ∧ e.f2.size ≤ 140737488351232 ∧ e.f3.size ≤ 140737488351232 ∧ ∀ y ∈ e.f5, zd41 y := by
  cases h with
  | mk _ h0 h1 h2 h3 h4 h5 h6 => exact ⟨h5, h2, h3, h6⟩
theorem low_up : ∀ (n : Nat) (e : S41), low n e → low (n + 1) e
  | 0, _, h => h.elim
  | n + 1, e, h => fun s hs => low_up n s (h s hs)
theorem low_le {n m : Nat} (h : n ≤ m) (e : S41) (hl : low n e) : low m e := by
  induction h with
  | refl => exact hl
  | step _ ih => exact low_up _ _ ih
theorem low_list (l : List S41) (h : ∀ x ∈ l, ∃ n, low n x) : ∃ n, ∀ x ∈ l, low n x := by
  induction l with
  | nil => exact ⟨0, fun _ h => (List.not_mem_nil h).elim⟩
  | cons x r ih =>
    obtain ⟨a, ha⟩ := h x List.mem_cons_self
    obtain ⟨b, hb⟩ := ih (fun y hy => h y (List.mem_cons_of_mem _ hy))
    refine ⟨max a b, fun y hy => ?_⟩
    rcases List.mem_cons.1 hy with rfl | hy
    · exact low_le (by omega) _ ha
    · exact low_le (by omega) _ (hb y hy)
theorem low_ex {e : S41} (h : zd41 e) : ∃ n, low n e := by
  induction h with
  | mk x h0 h1 h2 h3 h4 h5 h6 ih =>
    obtain ⟨n, hn⟩ := low_list x.f5 ih
    exact ⟨n + 1, hn⟩
/-- Each place that is more than nothing becomes the first one. -/
def fst : Nat → S41 → S41
  | 0, e => e
  | n + 1, e => ⟨e.f0, e.f1, e.f2, e.f3, if e.f0 = 3 ∧ e.f4 > 0 then 0 else e.f4, e.f5.map (fst n)⟩
theorem fst_low : ∀ (n : Nat) (e : S41), low n e → low n (fst n e)
  | 0, _, h => h
  | n + 1, e, h => by
    intro s hs
    obtain ⟨x, hx, rfl⟩ := List.mem_map.1 (show s ∈ e.f5.map (fst n) from hs)
    exact fst_low n x (h x hx)
abbrev Tup := Int × Int × Int × ByteArray × ByteArray × ByteArray × Int × List S41
def tup (e : S41) : Tup := (e.f0, e.f1.f0, e.f1.f1, e.f1.f2, e.f2, e.f3, e.f4, e.f5)
theorem tup_back (e : S41) : (⟨(tup e).1, (⟨(tup e).2.1, (tup e).2.2.1, (tup e).2.2.2.1⟩ : S39), (tup e).2.2.2.2.1, (tup e).2.2.2.2.2.1, (tup e).2.2.2.2.2.2.1, (tup e).2.2.2.2.2.2.2⟩ : S41) = e := by
  cases e
  rfl
def fs (k : Nat) (e : S41) : Option Tup := commonholdref_first.f k e.f0 e.f1.f0 e.f1.f1 e.f1.f2 e.f2 e.f3 e.f4 e.f5
theorem rdX (l : List S41) (i : Nat) (h : i < l.length) : rd_T41 l (i : Int) = l[i] := by simp [rd_T41, List.getD_eq_getElem?_getD, h]
theorem first_row (n : Nat) (l : List S41) (hl : l.length * 104 ≤ 140737488351232) (h : ∀ x ∈ l, Big (fun k => fs k x) (tup (fst n x))) (b0 b1 b2 : Int) (b3 b4 b5 : ByteArray) (b6 : Int) (d : Nat) : ∀ (i : Nat) (acc : List S41), i + d = l.length → acc.length ≤ i →
    Big (fun k => commonholdref_first.l0 k l (l.length : Int) (i : Int) b0 b1 b2 b3 b4 b5 b6 acc) ((b0, b1, b2, b3, b4, b5, b6, acc ++ (l.drop i).map (fst n)) : Tup) := by
  induction d with
  | zero =>
    intro i acc hi _
    refine Big.succ ?_
    simp only [commonholdref_first.l0]
    simp only [if_neg (show ¬ (i : Int) < (l.length : Int) by omega)]
    refine (Big.of _).cast ?_
    rw [List.drop_eq_nil_of_le (by omega)]; simp
  | succ d ih =>
    intro i acc hi ha
    refine Big.succ ?_
    simp only [commonholdref_first.l0]
    have ew : wrap64 ((i : Int) + 1) = ((i + 1 : Nat) : Int) := by rw [w64 (by omega) (by omega)]; omega
    simp only [if_pos (show (i : Int) < (l.length : Int) by omega), if_pos (show (0 : Int) ≤ (i : Int) by omega), rdX l i (by omega), ew, if_pos (show acc.length < 1353245080339 by omega)]
    have hx := h (l[i]'(by omega)) (List.getElem_mem _)
    have ihh := fun a h => ih (i + 1) a (by omega) h
    rw [List.drop_eq_getElem_cons (show i < l.length by omega)]
    generalize l[i]'(by omega) = x at *
    refine Big.bind hx ?_
    simp only [tup_back]
    refine (ihh (acc ++ [fst n x]) (by simp; omega)).cast ?_
    simp
theorem first_law : ∀ (n : Nat) (e : S41), low n e → zd41 e → Big (fun k => fs k e) (tup (fst n e))
  | 0, _, h, _ => h.elim
  | n + 1, e, h, hz => by
    obtain ⟨z5, _, _, z6⟩ := zd_len hz
    have hk : ∀ x ∈ e.f5, Big (fun k => fs k x) (tup (fst n x)) := fun x hx => first_law n x (h x hx) (z6 x hx)
    have row := fun b6 => first_row n e.f5 z5 hk e.f0 e.f1.f0 e.f1.f1 e.f1.f2 e.f2 e.f3 b6 e.f5.length 0 [] (by omega) (by simp)
    refine Big.succ ?_
    simp only [fs, commonholdref_first.f]
    by_cases h3 : e.f0 = 3
    · simp only [if_pos h3]
      refine Big.succ ?_
      simp only [commonholdref_first.j0]
      by_cases h4 : e.f4 > 0
      · simp only [decide_eq_true h4, if_true]
        refine Big.succ ?_
        simp only [commonholdref_first.j1]
        exact (row 0).cast (by simp [tup, fst, h3, h4])
      · simp only [decide_eq_false h4, Bool.false_eq_true, if_false]
        refine Big.succ ?_
        simp only [commonholdref_first.j1]
        exact (row e.f4).cast (by simp [tup, fst, h4])
    · simp only [if_neg h3]
      refine Big.succ ?_
      simp only [commonholdref_first.j0, Bool.false_eq_true, if_false]
      refine Big.succ ?_
      simp only [commonholdref_first.j1]
      exact (row e.f4).cast (by simp [tup, fst, h3])
def fineP (p : S41) : Prop := p.f0 = 3 ∧ eval_expr_may.zeroV p.f1 ∧ (p.f2 ++ p.f3).toList = [] ∧ p.f5.length = 0 ∧ 0 ≤ p.f4
def fineC (c : S41) : Prop := c.f0 = 1 ∧ (c.f2 ++ c.f3).toList = [] ∧ c.f5.length = 0 ∧ c.f4 = 0 ∧ c.f1.f0 ≠ 0 ∧ fault c.f1.f0 c.f1.f1 c.f1.f2 = 0
def setO (op : Int) : Prop := op = 13 ∨ op = 15 ∨ op = 16 ∨ op = 17 ∨ op = 18
def okS (e : S41) : Prop := (setO e.f0 ∧ e.f5.length = 2 ∧ eval_expr_may.zeroV e.f1 ∧ (e.f2 ++ e.f3).toList = [] ∧ e.f4 = 0) ∧ ((fineP (rd_T41 e.f5 0) ∧ fineC (rd_T41 e.f5 1)) ∨ (fineP (rd_T41 e.f5 1) ∧ fineC (rd_T41 e.f5 0)))
theorem ask_two (w : Int) (n : Nat) (e x y : S41) (he : e.f5 = [x, y]) (hs : setO e.f0) : okE w (n + 1) e = true ↔ (e.f2 ++ e.f3).toList = [] ∧ e.f4 = 0 ∧ eval_expr_may.zeroV e.f1 ∧ okE w n x = true ∧ okE w n y = true := by
  have hp : eval_expr_may.parts e.f0 = 2 := by
    unfold eval_expr_may.parts
    rcases hs with h | h | h | h | h <;> rw [h] <;> rfl
  have h3 : ¬ e.f0 = 3 := by rcases hs with h | h | h | h | h <;> omega
  have h1 : ¬ e.f0 = 1 := by rcases hs with h | h | h | h | h <;> omega
  have hE : okE w (n + 1) e = if e.f0 = 3 then decide (eval_expr_may.fine w e) else if eval_expr_may.parts e.f0 ≠ e.f5.length ∨ ¬ (e.f2 ++ e.f3).toList = [] ∨ e.f4 ≠ 0 then false else if e.f0 = 1 then decide (fault e.f1.f0 e.f1.f1 e.f1.f2 = 0) else e.f5.all (okE w n) && decide (eval_expr_may.zeroV e.f1) := rfl
  rw [hE, if_neg h3, if_neg h1, hp, he]
  by_cases hc : (2 : Int) ≠ (([x, y] : List S41).length : Int) ∨ ¬ (e.f2 ++ e.f3).toList = [] ∨ e.f4 ≠ 0
  · rw [if_pos hc]
    constructor
    · intro h; cases h
    · rintro ⟨a, b, _⟩
      rcases hc with hc | hc | hc
      · simp at hc
      · exact absurd a hc
      · exact absurd b hc
  · rw [if_neg hc]
    have a : (e.f2 ++ e.f3).toList = [] := Decidable.not_not.1 fun q => hc (.inr (.inl q))
    have b : e.f4 = 0 := Decidable.not_not.1 fun q => hc (.inr (.inr q))
    simp only [List.all_cons, List.all_nil, Bool.and_true, Bool.and_eq_true, decide_eq_true_eq]
    constructor
    · rintro ⟨⟨c, d⟩, f⟩; exact ⟨a, b, f, c, d⟩
    · rintro ⟨_, _, f, c, d⟩; exact ⟨⟨c, d⟩, f⟩
theorem ask_place (w : Int) (n : Nat) (x : S41) (h : x.f0 = 3) : okE w (n + 1) x = true ↔ eval_expr_may.fine w x := by
  unfold okE
  rw [if_pos h, decide_eq_true_eq]
theorem ask_const (w : Int) (n : Nat) (x : S41) (h : x.f0 = 1) : okE w (n + 1) x = true ↔ (x.f2 ++ x.f3).toList = [] ∧ x.f5.length = 0 ∧ x.f4 = 0 ∧ fault x.f1.f0 x.f1.f1 x.f1.f2 = 0 := by
  unfold okE
  rw [if_neg (by omega), if_pos h, h, show eval_expr_may.parts 1 = 0 from rfl]
  by_cases hc : (0 : Int) ≠ (x.f5.length : Int) ∨ ¬ (x.f2 ++ x.f3).toList = [] ∨ x.f4 ≠ 0
  · rw [if_pos hc]
    constructor
    · intro h; cases h
    · rintro ⟨a, b, c, _⟩
      rcases hc with hc | hc | hc
      · omega
      · exact absurd a hc
      · exact absurd c hc
  · rw [if_neg hc, decide_eq_true_eq]
    have a : (x.f2 ++ x.f3).toList = [] := Decidable.not_not.1 fun q => hc (.inr (.inl q))
    have b : x.f4 = 0 := Decidable.not_not.1 fun q => hc (.inr (.inr q))
    have c : (0 : Int) = (x.f5.length : Int) := Decidable.not_not.1 fun q => hc (.inl q)
    exact ⟨fun h => ⟨a, by omega, b, h⟩, fun h => h.2.2.2⟩
/-- What the reference asks of a pair of which one is a place and the other a constant. -/
theorem pair_ask (n : Nat) (x y : S41) (hx : low n x) (hy : low n y) (h3 : x.f0 = 3) (h1 : y.f0 = 1) :
    ((okE 9223372036854775807 n x = true ∧ okE 9223372036854775807 n y = true) ∨ (okE 1 n (fst n x) = true ∧ okE 1 n (fst n y) = true)) ∧ y.f1.f0 ≠ 0 ↔ fineP x ∧ fineC y := by
  obtain ⟨m, rfl⟩ : ∃ m, n = m + 1 := by
    cases n with
    | zero => exact hx.elim
    | succ m => exact ⟨m, rfl⟩
  rw [ask_place _ m x h3, ask_const _ m y h1, ask_place 1 m (fst (m + 1) x) (by simpa [fst] using h3), ask_const 1 m (fst (m + 1) y) (by simpa [fst] using h1)]
  have e1 : (fst (m + 1) y).f4 = y.f4 := by simp [fst, h1]
  have e2 : (fst (m + 1) x).f4 = if x.f4 > 0 then 0 else x.f4 := by simp [fst, h3]
  unfold eval_expr_may.fine fineP fineC
  rw [e1, e2]
  simp only [fst, List.length_map]
  constructor
  · rintro ⟨(⟨⟨a1, a2, a3, a4, _⟩, b1, b2, b3, b4⟩ | ⟨⟨a1, a2, a3, a4, a5⟩, b1, b2, b3, b4⟩), c⟩
    · exact ⟨⟨h3, a1, a2, a3, a4⟩, h1, b1, b2, b3, c, b4⟩
    · refine ⟨⟨h3, a1, a2, a3, ?_⟩, h1, b1, b2, b3, c, b4⟩
      split at a4 <;> omega
  · rintro ⟨⟨_, a1, a2, a3, a4⟩, _, b1, b2, b3, c, b4⟩
    refine ⟨Or.inr ⟨⟨a1, a2, a3, ?_, ?_⟩, b1, b2, b3, b4⟩, c⟩
    · split <;> omega
    · split <;> omega
def sim (k : Nat) (e : S41) : Option (Int × Int × Int × Int × ByteArray × Bool) := plan_simple.f k e.f0 e.f1.f0 e.f1.f1 e.f1.f2 e.f2 e.f3 e.f4 e.f5
def lim (k : Nat) (e : S41) : Option (Int × Int × Int × Int × ByteArray × Bool) := commonholdref_limitOf.f k e.f0 e.f1.f0 e.f1.f1 e.f1.f2 e.f2 e.f3 e.f4 e.f5
theorem plain_law (p : S41) (hz : zd41 p) : plan_plain.f p.f0 p.f1.f0 p.f1.f1 p.f1.f2 p.f2 p.f3 p.f4 p.f5 = some (decide ((p.f2 ++ p.f3).toList = [] ∧ p.f5.length = 0)) := by
  obtain ⟨_, h2, h3, _⟩ := zd_len hz
  unfold plan_plain.f
  rw [if_pos (by omega)]
  by_cases h : (p.f2 ++ p.f3).toList = []
  · rw [if_pos h]
    congr 1
    rw [Bool.eq_iff_iff, decide_eq_true_eq, beq_iff_eq]
    exact ⟨fun q => ⟨h, by omega⟩, fun q => by omega⟩
  · rw [if_neg h, decide_eq_false (fun q => h q.1)]
theorem fine_law (p c : S41) (zp : zd41 p) (zc : zd41 c) (gc : gd41 c) : ∃ b, Big (fun k => plan_simple.fine k p c) b ∧ (b = true ↔ fineP p ∧ fineC c) := by
  unfold plan_simple.fine
  by_cases h1 : p.f0 ≠ 3
  · simp only [if_pos h1]
    exact ⟨false, Big.of _, by simp; intro h; exact absurd h.1 h1⟩
  simp only [if_neg h1]
  have h1' : p.f0 = 3 := Decidable.not_not.1 h1
  rw [plain_law p zp]
  by_cases h2 : (p.f2 ++ p.f3).toList = [] ∧ p.f5.length = 0
  rotate_left
  · refine ⟨false, ?_, by simp; intro h; exact absurd ⟨h.2.2.1, h.2.2.2.1⟩ h2⟩
    refine Big.bind1 rfl ?_
    simp only [decide_eq_false h2, if_true]
    exact Big.of _
  by_cases h3 : p.f4 < 0
  · refine ⟨false, ?_, by simp; intro h; have := h.2.2.2.2; omega⟩
    refine Big.bind1 rfl ?_
    simp only [decide_eq_true h2, Bool.true_eq_false, if_false, if_pos h3]
    exact Big.of _
  by_cases h4 : eval_expr_may.zeroV p.f1
  rotate_left
  · refine ⟨false, ?_, by simp; intro h; exact absurd h.2.1 h4⟩
    refine Big.bind1 rfl ?_
    simp only [decide_eq_true h2, Bool.true_eq_false, if_false, if_neg h3]
    simp only [if_pos (show ¬ plan_simple.zeroV p.f1 from h4)]
    exact Big.of _
  by_cases h5 : c.f0 ≠ 1
  · refine ⟨false, ?_, by simp; intro _ h; exact absurd h.1 h5⟩
    refine Big.bind1 rfl ?_
    simp only [decide_eq_true h2, Bool.true_eq_false, if_false, if_neg h3, if_pos h5]
    simp only [if_neg (show ¬ ¬ plan_simple.zeroV p.f1 from fun q => q h4)]
    exact Big.of _
  have h5' : c.f0 = 1 := Decidable.not_not.1 h5
  have hP : fineP p := ⟨h1', h4, h2.1, h2.2, by omega⟩
  by_cases h6 : (c.f2 ++ c.f3).toList = [] ∧ c.f5.length = 0
  rotate_left
  · refine ⟨false, ?_, by simp; intro _ h; exact absurd ⟨h.2.1, h.2.2.1⟩ h6⟩
    refine Big.bind1 rfl ?_
    simp only [decide_eq_true h2, Bool.true_eq_false, if_false, if_neg h3, if_neg h5]
    simp only [if_neg (show ¬ ¬ plan_simple.zeroV p.f1 from fun q => q h4)]
    rw [plain_law c zc]
    refine Big.bind1 rfl ?_
    simp only [decide_eq_false h6, if_true]
    exact Big.of _
  by_cases h7 : c.f4 ≠ 0
  · refine ⟨false, ?_, by simp; intro _ h; exact absurd h.2.2.2.1 h7⟩
    refine Big.bind1 rfl ?_
    simp only [decide_eq_true h2, Bool.true_eq_false, if_false, if_neg h3, if_neg h5]
    simp only [if_neg (show ¬ ¬ plan_simple.zeroV p.f1 from fun q => q h4)]
    rw [plain_law c zc]
    refine Big.bind1 rfl ?_
    simp only [decide_eq_true h6, Bool.true_eq_false, if_false, if_pos h7]
    exact Big.of _
  by_cases h8 : c.f1.f0 = 0
  · refine ⟨false, ?_, by simp; intro _ h; exact absurd h8 h.2.2.2.2.1⟩
    refine Big.bind1 rfl ?_
    simp only [decide_eq_true h2, Bool.true_eq_false, if_false, if_neg h3, if_neg h5]
    simp only [if_neg (show ¬ ¬ plan_simple.zeroV p.f1 from fun q => q h4)]
    rw [plain_law c zc]
    refine Big.bind1 rfl ?_
    simp only [decide_eq_true h6, Bool.true_eq_false, if_false, if_neg h7, if_pos h8]
    exact Big.of _
  refine ⟨fault c.f1.f0 c.f1.f1 c.f1.f2 == 0, ?_, ?_⟩
  · refine Big.bind1 rfl ?_
    simp only [decide_eq_true h2, Bool.true_eq_false, if_false, if_neg h3, if_neg h5]
    simp only [if_neg (show ¬ ¬ plan_simple.zeroV p.f1 from fun q => q h4)]
    rw [plain_law c zc]
    refine Big.bind1 rfl ?_
    simp only [decide_eq_true h6, Bool.true_eq_false, if_false, if_neg h7, if_neg h8]
    refine Big.bind (check_law _ _ _ (bounds_i64 (gd_parts gc).1.2.1)) ?_
    exact Big.of _
  · rw [beq_iff_eq]
    have h7' : c.f4 = 0 := Decidable.not_not.1 h7
    exact ⟨fun h => ⟨hP, h5', h6.1, h6.2, h7', h8, h⟩, fun h => h.2.2.2.2.2.2⟩
theorem two_of {l : List S41} (h : l.length = 2) : ∃ x y, l = [x, y] := by
  match l, h with
  | [x, y], _ => exact ⟨x, y, rfl⟩
theorem simple_law (e : S41) (hg : gd41 e) (hz : zd41 e) : ∃ r, Big (fun k => sim k e) r ∧ (r.2.2.2.2.2 = true ↔ okS e) := by
  obtain ⟨_, s2, s3, z6⟩ := zd_len hz
  have g6 := (gd_parts hg).2.2
  unfold sim plan_simple.f
  by_cases h1 : plan_simple.set e.f0 ∧ e.f5.length = 2
  rotate_left
  · simp only [if_neg h1]
    exact ⟨_, Big.of _, by simp; intro h; exact absurd ⟨h.1.1, h.1.2.1⟩ h1⟩
  simp only [if_pos h1, if_neg (show ¬ 9223372036854775807 < e.f2.size + e.f3.size by omega)]
  by_cases h2 : e.f1.f0 = 0 ∧ e.f1.f1 = 0 ∧ e.f1.f2.toList = [] ∧ (e.f2 ++ e.f3).toList = [] ∧ e.f4 = 0
  rotate_left
  · simp only [if_neg h2]
    exact ⟨_, Big.of _, by simp; intro h; exact absurd ⟨h.1.2.2.1.1, h.1.2.2.1.2.1, h.1.2.2.1.2.2, h.1.2.2.2.1, h.1.2.2.2.2⟩ h2⟩
  simp only [if_pos h2]
  obtain ⟨x, y, he⟩ := two_of h1.2
  have hb : setO e.f0 ∧ e.f5.length = 2 ∧ eval_expr_may.zeroV e.f1 ∧ (e.f2 ++ e.f3).toList = [] ∧ e.f4 = 0 := ⟨h1.1, h1.2, ⟨h2.1, h2.2.1, h2.2.2.1⟩, h2.2.2.2.1, h2.2.2.2.2⟩
  have hx : x ∈ e.f5 := by rw [he]; simp
  have hy : y ∈ e.f5 := by rw [he]; simp
  have e0 : rd_T41 e.f5 0 = x := by rw [he]; rfl
  have e1 : rd_T41 e.f5 1 = y := by rw [he]; rfl
  unfold okS
  rw [e0, e1]
  by_cases hs : x.f0 = 1
  · obtain ⟨b, hB, hb2⟩ := fine_law y x (z6 y hy) (z6 x hx) (g6 x hx)
    simp only [decide_eq_true hs, if_true]
    refine ⟨_, Big.bind hB (Big.of _), ?_⟩
    show b = true ↔ _
    rw [hb2]
    constructor
    · intro h; exact ⟨hb, Or.inr h⟩
    · rintro ⟨_, h | h⟩
      · exact absurd h.1.1 (by omega)
      · exact h
  · obtain ⟨b, hB, hb2⟩ := fine_law x y (z6 x hx) (z6 y hy) (g6 y hy)
    simp only [decide_eq_false hs, Bool.false_eq_true, if_false]
    refine ⟨_, Big.bind hB (Big.of _), ?_⟩
    show b = true ↔ _
    rw [hb2]
    constructor
    · intro h; exact ⟨hb, Or.inl h⟩
    · rintro ⟨_, h | h⟩
      · exact h
      · exact absurd h.2.1 hs
theorem ans_ok (op : Int) (x y : S41) : (commonholdref_limitOf.ans op x y).2.2.2.2.2 = true ↔ setO op ∧ ((x.f0 = 3 ∧ y.f0 = 1 ∧ y.f1.f0 ≠ 0) ∨ (y.f0 = 3 ∧ x.f0 = 1 ∧ x.f1.f0 ≠ 0)) := by
  unfold commonholdref_limitOf.ans commonholdref_limitOf.ans2
  by_cases h : x.f0 = 1 ∧ y.f0 = 3
  · rw [if_pos h]
    by_cases h2 : y.f0 = 3 ∧ x.f0 = 1 ∧ x.f1.f0 ≠ 0 ∧ commonholdref_limitOf.set op
    · rw [if_pos h2]
      exact ⟨fun _ => ⟨h2.2.2.2, Or.inr ⟨h2.1, h2.2.1, h2.2.2.1⟩⟩, fun _ => rfl⟩
    · rw [if_neg h2]
      constructor
      · intro q; cases q
      · rintro ⟨hs, q | q⟩
        · omega
        · exact absurd ⟨q.1, q.2.1, q.2.2, hs⟩ h2
  · rw [if_neg h]
    by_cases h2 : x.f0 = 3 ∧ y.f0 = 1 ∧ y.f1.f0 ≠ 0 ∧ commonholdref_limitOf.set op
    · rw [if_pos h2]
      exact ⟨fun _ => ⟨h2.2.2.2, Or.inl ⟨h2.1, h2.2.1, h2.2.2.1⟩⟩, fun _ => rfl⟩
    · rw [if_neg h2]
      constructor
      · intro q; cases q
      · rintro ⟨hs, q | q⟩
        · exact absurd ⟨q.1, q.2.1, q.2.2, hs⟩ h2
        · exact absurd ⟨q.2.1, q.1⟩ h
theorem limit_law (e : S41) (hz : zd41 e) : ∃ r, Big (fun k => lim k e) r ∧ (r.2.2.2.2.2 = true ↔ okS e) := by
  unfold lim commonholdref_limitOf.f commonholdref_limitOf.may
  by_cases h1 : e.f5.length = 2
  rotate_left
  · simp only [if_neg h1, Option.bind_some, Bool.false_eq_true, if_false]
    exact ⟨_, Big.of _, by simp; intro h; exact absurd h.1.2.1 h1⟩
  simp only [if_pos h1]
  obtain ⟨n, hn⟩ := low_ex hz
  obtain ⟨m, rfl⟩ : ∃ m, n = m + 1 := by
    cases n with
    | zero => exact hn.elim
    | succ m => exact ⟨m, rfl⟩
  obtain ⟨x, y, he⟩ := two_of h1
  have e0 : rd_T41 e.f5 0 = x := by rw [he]; rfl
  have e1 : rd_T41 e.f5 1 = y := by rw [he]; rfl
  have hx : x ∈ e.f5 := by rw [he]; simp
  have hy : y ∈ e.f5 := by rw [he]; simp
  have hB : Big (fun k => (commonholdref_askForm.f k e.f0 e.f1.f0 e.f1.f1 e.f1.f2 e.f2 e.f3 e.f4 e.f5 9223372036854775807).bind fun b => if b = true then some true else commonholdref_lastPlace.f k e.f0 e.f1.f0 e.f1.f1 e.f1.f2 e.f2 e.f3 e.f4 e.f5) (okE 9223372036854775807 (m + 1) e || okE 1 (m + 1) (fst (m + 1) e)) := by
    refine Big.bind (form_law 9223372036854775807 (m + 1) e hn) ?_
    cases okE 9223372036854775807 (m + 1) e with
    | true => simp only [if_true]; exact Big.of _
    | false =>
      simp only [Bool.false_eq_true, if_false, Bool.false_or]
      unfold commonholdref_lastPlace.f
      refine Big.bind (first_law (m + 1) e hn hz) ?_
      have := form_law 1 (m + 1) (fst (m + 1) e) (fst_low _ _ hn)
      exact (Big.bind this (Big.of _)).congr (fun k => by simp [kid, tup])
  refine ⟨if (okE 9223372036854775807 (m + 1) e || okE 1 (m + 1) (fst (m + 1) e)) = true then commonholdref_limitOf.ans e.f0 x y else (0, 0, 0, 0, ByteArray.empty, false), ?_, ?_⟩
  · refine Big.bind hB ?_
    rw [e0, e1]
    split
    · exact Big.of _
    · exact Big.of _
  unfold okS
  rw [e0, e1]
  have key : ∀ (hs : setO e.f0), ((okE 9223372036854775807 (m + 1) e || okE 1 (m + 1) (fst (m + 1) e)) = true ↔ ((e.f2 ++ e.f3).toList = [] ∧ e.f4 = 0 ∧ eval_expr_may.zeroV e.f1) ∧ ((okE 9223372036854775807 m x = true ∧ okE 9223372036854775807 m y = true) ∨ (okE 1 m (fst m x) = true ∧ okE 1 m (fst m y) = true))) := by
    intro hs
    have hf4 : (fst (m + 1) e).f4 = e.f4 := by
      have h3 : ¬ e.f0 = 3 := by rcases hs with h | h | h | h | h <;> omega
      simp [fst, h3]
    rw [Bool.or_eq_true, ask_two _ m e x y he hs, ask_two 1 m (fst (m + 1) e) (fst m x) (fst m y) (by simp [fst, he]) (by simpa [fst] using hs), hf4]
    simp only [fst]
    constructor
    · rintro (⟨a, b, c, d, f⟩ | ⟨a, b, c, d, f⟩)
      · exact ⟨⟨a, b, c⟩, Or.inl ⟨d, f⟩⟩
      · exact ⟨⟨a, b, c⟩, Or.inr ⟨d, f⟩⟩
    · rintro ⟨⟨a, b, c⟩, (⟨d, f⟩ | ⟨d, f⟩)⟩
      · exact Or.inl ⟨a, b, c, d, f⟩
      · exact Or.inr ⟨a, b, c, d, f⟩
  have hlx := hn x hx
  have hly := hn y hy
  constructor
  · intro h
    by_cases hb : (okE 9223372036854775807 (m + 1) e || okE 1 (m + 1) (fst (m + 1) e)) = true
    rotate_left
    · rw [if_neg hb] at h; cases h
    rw [if_pos hb] at h
    obtain ⟨hs, hp⟩ := (ans_ok _ _ _).1 h
    obtain ⟨⟨a, b, c⟩, d⟩ := (key hs).1 hb
    refine ⟨⟨hs, h1, c, a, b⟩, ?_⟩
    rcases hp with ⟨p1, p2, p3⟩ | ⟨p1, p2, p3⟩
    · exact Or.inl ((pair_ask m x y hlx hly p1 p2).1 ⟨d, p3⟩)
    · exact Or.inr ((pair_ask m y x hly hlx p1 p2).1 ⟨d.imp And.symm And.symm, p3⟩)
  · rintro ⟨⟨hs, _, c, a, b⟩, h⟩
    have hd : ((okE 9223372036854775807 m x = true ∧ okE 9223372036854775807 m y = true) ∨ (okE 1 m (fst m x) = true ∧ okE 1 m (fst m y) = true)) ∧ ((x.f0 = 3 ∧ y.f0 = 1 ∧ y.f1.f0 ≠ 0) ∨ (y.f0 = 3 ∧ x.f0 = 1 ∧ x.f1.f0 ≠ 0)) := by
      rcases h with h | h
      · have q := (pair_ask m x y hlx hly h.1.1 h.2.1).2 h
        exact ⟨q.1, Or.inl ⟨h.1.1, h.2.1, q.2⟩⟩
      · have q := (pair_ask m y x hly hlx h.1.1 h.2.1).2 h
        exact ⟨q.1.imp And.symm And.symm, Or.inr ⟨h.1.1, h.2.1, q.2⟩⟩
    rw [if_pos ((key hs).2 ⟨⟨a, b, c⟩, hd.1⟩)]
    exact (ans_ok _ _ _).2 ⟨hs, hd.2⟩
theorem both (l : List S41) (hl : l.length * 104 ≤ 140737488351232) (h : ∀ x ∈ l, gd41 x ∧ zd41 x) (d : Nat) : ∀ i : Nat, i + d = l.length →
    ∃ r : Int, Big (fun k => plan_Lead.l0 k l l (l.length : Int) (i : Int)) r ∧ Big (fun k => commonholdref_Leads.l0 k l (i : Int)) r := by
  induction d with
  | zero =>
    intro i hi
    refine ⟨(l.length : Int), Big.succ ?_, Big.succ ?_⟩
    · simp only [plan_Lead.l0]
      simp only [if_neg (show ¬ (i : Int) < (l.length : Int) by omega)]
      exact Big.of _
    · simp only [commonholdref_Leads.l0]
      simp only [if_neg (show ¬ (i : Int) < (l.length : Int) by omega)]
      exact (Big.of _).cast (by omega)
  | succ d ih =>
    intro i hi
    have ew : wrap64 ((i : Int) + 1) = ((i + 1 : Nat) : Int) := by rw [w64 (by omega) (by omega)]; omega
    obtain ⟨hg, hz⟩ := h (l[i]'(by omega)) (List.getElem_mem _)
    obtain ⟨r1, b1, o1⟩ := simple_law _ hg hz
    obtain ⟨r2, b2, o2⟩ := limit_law _ hz
    have e : r1.2.2.2.2.2 = r2.2.2.2.2.2 := by rw [Bool.eq_iff_iff, o1, o2]
    obtain ⟨r, h1, h2⟩ := ih (i + 1) (by omega)
    have s1 : Big (fun k => plan_Lead.l0 k l l (l.length : Int) (i : Int)) (if r1.2.2.2.2.2 = true then r else (i : Int)) := by
      refine Big.succ ?_
      simp only [plan_Lead.l0]
      simp only [if_pos (show (i : Int) < (l.length : Int) by omega), if_pos (show (0 : Int) ≤ (i : Int) by omega), rdX l i (by omega), ew]
      refine Big.bind b1 ?_
      split
      · exact h1
      · exact Big.of _
    have s2 : Big (fun k => commonholdref_Leads.l0 k l (i : Int)) (if r1.2.2.2.2.2 = true then r else (i : Int)) := by
      refine Big.succ ?_
      simp only [commonholdref_Leads.l0]
      simp only [if_pos (show (i : Int) < (l.length : Int) by omega), if_pos (show (0 : Int) ≤ (i : Int) by omega), rdX l i (by omega), ew]
      refine Big.bind b2 ?_
      rw [← e]
      split
      · exact h2
      · exact Big.of _
    exact ⟨_, s1, s2⟩
end Go.Proofs.YtfkdldaadjhcfaaDoor.Pure.PlanLeadsOf
namespace Go.Proofs.YtfkdldaadjhcfaaDoor.Pure
open Go Go.RowKit Go.Proofs.YtfkdldaadjhcfaaDoor.PPlanLeads Go.Proofs.YtfkdldaadjhcfaaDoorW.PrintWords Go.Proofs.YtfkdldaadjhcfaaDoorW.PrintLast Go.Proofs.YtfkdldaadjhcfaaDoor.Bg PlanLeadsOf
theorem PlanLeads : commonholdlaw_PlanLeads.Pure := by
  intro l hg hz
  refine Big.to ?_
  simp only [commonholdlaw_PlanLeads.f]
  obtain ⟨r, h1, h2⟩ := PlanLeadsOf.both l hz.1 (fun x hx => ⟨hg.2 x hx, hz.2 x hx⟩) l.length 0 (by omega)
  refine Big.bind h1 ?_
  refine Big.bind h2 ?_
  exact (Big.of _).cast (by simp)
end Go.Proofs.YtfkdldaadjhcfaaDoor.Pure
