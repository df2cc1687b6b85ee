/- row.Span answers as its reference does, at all numbers. No condition beyond the statement's own. -/
import Derived.Test.YtdepkigheacdnaaDoorPRowSpansx7
import Derived.Test.YtdepkigheacdnaaDoorBig
import Derived.Lib.ValidLaws
import Derived.Lib.BytesEntry
import Derived.Laws.Strings
namespace Go.Proofs.YtdepkigheacdnaaDoor.Pure.RowSpansOf
open Go Go.RowKit Go.Proofs.YtdepkigheacdnaaDoor.PRowSpans Go.Proofs.YtdepkigheacdnaaDoorW.PrintWords Go.Proofs.YtdepkigheacdnaaDoorW.PrintLast Go.Proofs.YtdepkigheacdnaaDoor.Bg
set_option linter.unusedVariables false
set_option linter.unusedSimpArgs false
/-- A byte of a text. -/
def by8 (t : ByteArray) (i : Nat) : Nat := (t.data.toList.getD i 0).toNat
theorem by8_lt (t : ByteArray) (i : Nat) : by8 t i < 256 := (t.data.toList.getD i 0).toNat_lt
theorem bt_by8 (t : ByteArray) (i : Nat) (h : i < t.size) : bt t (i : Int) = (by8 t i : Int) := by
  rw [bt_at' t i h]
  unfold by8
  have : t.data.toList.getD i 0 = t[i] := by
    rw [List.getD_eq_getElem?_getD, List.getElem?_eq_getElem (by simpa using h)]
    simp
    rfl
  rw [this]
/-- What follows the bytes of a sign. -/
def fin3 (code : Int) : Int := if code < 2048 then 0 else if 55296 ≤ code ∧ code ≤ 57343 then 0 else 3
def fin4 (code : Int) : Int := if code < 65536 then 0 else if code > 1114111 then 0 else 4
theorem rs_end2 (t : ByteArray) (code : Int) : Big (fun k => commonholdref_runeSize.l0 k t 2 code 2) 2 := by
  refine Big.succ ?_
  simp only [commonholdref_runeSize.l0]
  simp only [if_neg (show ¬ (2 : Int) < 2 by omega), if_neg (show ¬ (2 : Int) = 3 by omega), if_neg (show ¬ (2 : Int) = 4 by omega)]
  exact Big.of _
theorem rs_end3 (t : ByteArray) (code : Int) : Big (fun k => commonholdref_runeSize.l0 k t 3 code 3) (fin3 code) := by
  refine Big.succ ?_
  simp only [commonholdref_runeSize.l0]
  simp only [if_neg (show ¬ (3 : Int) < 3 by omega), if_true, if_neg (show ¬ (3 : Int) = 4 by omega)]
  unfold fin3
  by_cases h1 : code < 2048
  · simp only [if_pos h1]; exact Big.of _
  · simp only [if_neg h1]
    by_cases h2 : code ≥ 55296
    · simp only [if_pos h2]
      by_cases h3 : code ≤ 57343
      · simp only [if_pos h3, if_pos (show 55296 ≤ code ∧ code ≤ 57343 from ⟨h2, h3⟩)]; exact Big.of _
      · simp only [if_neg h3, if_neg (show ¬ (55296 ≤ code ∧ code ≤ 57343) by omega)]; exact Big.of _
    · simp only [if_neg h2, if_neg (show ¬ (55296 ≤ code ∧ code ≤ 57343) by omega)]; exact Big.of _
theorem rs_end4 (t : ByteArray) (code : Int) : Big (fun k => commonholdref_runeSize.l0 k t 4 code 4) (fin4 code) := by
  refine Big.succ ?_
  simp only [commonholdref_runeSize.l0]
  simp only [if_neg (show ¬ (4 : Int) < 4 by omega), if_neg (show ¬ (4 : Int) = 3 by omega), if_true]
  unfold fin4
  by_cases h1 : code < 65536
  · simp only [if_pos h1]; exact Big.of _
  · simp only [if_neg h1]
    by_cases h2 : code > 1114111
    · simp only [if_pos h2]; exact Big.of _
    · simp only [if_neg h2]; exact Big.of _
theorem and63 : ∀ b : Nat, b < 256 → Go.bits .and .u8 (b : Int) 63 = ((b % 64 : Nat) : Int) := by decide +kernel
theorem and31 : ∀ b : Nat, b < 256 → Go.bits .and .i64 (b : Int) 31 = ((b % 32 : Nat) : Int) := by decide +kernel
theorem and15 : ∀ b : Nat, b < 256 → Go.bits .and .i64 (b : Int) 15 = ((b % 16 : Nat) : Int) := by decide +kernel
theorem and7 : ∀ b : Nat, b < 256 → Go.bits .and .i64 (b : Int) 7 = ((b % 8 : Nat) : Int) := by decide +kernel
theorem rs_step (t : ByteArray) (n i code : Nat) (r : Int) (hi : i < n) (h4 : n ≤ 4) (hs : i < t.size) (hc : code ≤ 16777216)
    (h : Big (fun k => commonholdref_runeSize.l0 k t (n : Int) ((code * 64 + by8 t i % 64 : Nat) : Int) ((i + 1 : Nat) : Int)) r) :
    Big (fun k => commonholdref_runeSize.l0 k t (n : Int) (code : Int) (i : Int)) (if by8 t i < 128 ∨ 191 < by8 t i then 0 else r) := by
  refine Big.succ ?_
  simp only [commonholdref_runeSize.l0]
  have hb := by8_lt t i
  simp only [if_pos (show (i : Int) < (n : Int) by omega), if_pos (show (0 : Int) ≤ (i : Int) by omega), if_pos (show (i : Int) < (t.size : Int) by omega), bt_by8 t i hs, and63 _ hb]
  have e1 : wrap64 ((by8 t i % 64 : Nat) : Int) = ((by8 t i % 64 : Nat) : Int) := w64 (by omega) (by omega)
  have e2 : wrap64 ((code : Int) * 64) = (code : Int) * 64 := w64 (by omega) (by omega)
  have e3 : wrap64 ((code : Int) * 64 + ((by8 t i % 64 : Nat) : Int)) = ((code * 64 + by8 t i % 64 : Nat) : Int) := by rw [w64 (by omega) (by omega)]; omega
  have e4 : wrap64 ((i : Int) + 1) = ((i + 1 : Nat) : Int) := by rw [w64 (by omega) (by omega)]; omega
  simp only [e1, e2, e3, e4]
  by_cases h1 : ((by8 t i : Nat) : Int) < 128
  · simp only [if_pos h1]
    refine (Big.of 0).cast ?_
    rw [if_pos (.inl (by omega))]
  by_cases h2 : ((by8 t i : Nat) : Int) > 191
  · simp only [if_neg h1, if_pos h2]
    refine (Big.of 0).cast ?_
    rw [if_pos (.inr (by omega))]
  · simp only [if_neg h1, if_neg h2]
    refine h.cast ?_
    rw [if_neg (by omega)]
/-- How wide is the sign that begins a text; 0: there is none. -/
def rsz (n b0 b1 b2 b3 : Nat) : Int :=
  if b0 < 128 then 1
  else if 194 ≤ b0 ∧ b0 < 224 then (if n < 2 then 0 else if b1 < 128 ∨ 191 < b1 then 0 else 2)
  else if 224 ≤ b0 ∧ b0 < 240 then (if n < 3 then 0 else if b1 < 128 ∨ 191 < b1 then 0 else if b2 < 128 ∨ 191 < b2 then 0 else fin3 (((b0 % 16 * 64 + b1 % 64) * 64 + b2 % 64 : Nat) : Int))
  else if 240 ≤ b0 ∧ b0 < 245 then (if n < 4 then 0 else if b1 < 128 ∨ 191 < b1 then 0 else if b2 < 128 ∨ 191 < b2 then 0 else if b3 < 128 ∨ 191 < b3 then 0 else fin4 ((((b0 % 8 * 64 + b1 % 64) * 64 + b2 % 64) * 64 + b3 % 64 : Nat) : Int))
  else 0
theorem rs_j3 (t : ByteArray) (n code : Nat) (hn : n ≤ 4) (h2 : 2 ≤ n) (r : Int) (h : n ≤ t.size → Big (fun k => commonholdref_runeSize.l0 k t (n : Int) (code : Int) 1) r) :
    Big (fun k => commonholdref_runeSize.j2 k t (n : Int) (code : Int)) (if t.size < n then 0 else r) := by
  refine Big.succ (Big.succ ?_)
  simp only [commonholdref_runeSize.j2, commonholdref_runeSize.j3]
  simp only [if_neg (show ¬ (n : Int) = 0 by omega)]
  by_cases hs : (t.size : Int) < (n : Int)
  · simp only [decide_eq_true hs, if_true]
    refine (Big.of 0).cast ?_
    rw [if_pos (by omega)]
  · simp only [decide_eq_false hs, if_neg (show ¬ (false = true) by decide)]
    refine (h (by omega)).cast ?_
    rw [if_neg (by omega)]
theorem rs_none (t : ByteArray) : Big (fun k => commonholdref_runeSize.j2 k t 0 0) 0 := by
  refine Big.succ (Big.succ ?_)
  simp only [commonholdref_runeSize.j2, commonholdref_runeSize.j3, if_true]
  exact Big.of _
set_option maxRecDepth 100000 in
theorem rs_law (t : ByteArray) (h0 : 0 < t.size) : Big (fun k => commonholdref_runeSize.f k t) (rsz t.size (by8 t 0) (by8 t 1) (by8 t 2) (by8 t 3)) := by
  have hb := by8_lt t 0
  have ew : wrap64 (bt t 0) = (by8 t 0 : Int) := by rw [show (0 : Int) = ((0 : Nat) : Int) from rfl, bt_by8 t 0 h0, w64 (by omega) (by omega)]
  simp only [commonholdref_runeSize.f, if_neg (show ¬ (t.size : Int) = 0 by omega), if_pos (show (0 : Int) < (t.size : Int) by omega), ew]
  unfold rsz
  by_cases c1 : by8 t 0 < 128
  · simp only [if_pos (show ((by8 t 0 : Nat) : Int) < 128 by omega), if_pos c1]
    exact Big.of _
  simp only [if_neg (show ¬ ((by8 t 0 : Nat) : Int) < 128 by omega), if_neg c1]
  by_cases c2 : 194 ≤ by8 t 0 ∧ by8 t 0 < 224
  · simp only [if_pos (show ((by8 t 0 : Nat) : Int) ≥ 194 by omega), decide_eq_true (show ((by8 t 0 : Nat) : Int) < 224 by omega), if_pos c2]
    refine Big.succ ?_
    simp only [commonholdref_runeSize.j0, if_true, and31 _ hb]
    refine rs_j3 t 2 _ (by omega) (by omega) _ (fun hs => ?_)
    exact rs_step t 2 1 _ _ (by omega) (by omega) (by omega) (by omega) (rs_end2 t _)
  simp only [if_neg c2]
  by_cases c3 : 224 ≤ by8 t 0 ∧ by8 t 0 < 240
  · simp only [if_pos (show ((by8 t 0 : Nat) : Int) ≥ 194 by omega), decide_eq_false (show ¬ ((by8 t 0 : Nat) : Int) < 224 by omega), if_pos c3]
    refine Big.succ (Big.succ ?_)
    simp only [commonholdref_runeSize.j0, commonholdref_runeSize.j1, if_neg (show ¬ (false = true) by decide), if_pos (show ((by8 t 0 : Nat) : Int) ≥ 224 by omega), decide_eq_true (show ((by8 t 0 : Nat) : Int) < 240 by omega), if_true, and15 _ hb]
    refine rs_j3 t 3 _ (by omega) (by omega) _ (fun hs => ?_)
    exact rs_step t 3 1 _ _ (by omega) (by omega) (by omega) (by omega) (rs_step t 3 2 _ _ (by omega) (by omega) (by omega) (by omega) (rs_end3 t _))
  simp only [if_neg c3]
  by_cases c4 : 240 ≤ by8 t 0 ∧ by8 t 0 < 245
  · simp only [if_pos (show ((by8 t 0 : Nat) : Int) ≥ 194 by omega), decide_eq_false (show ¬ ((by8 t 0 : Nat) : Int) < 224 by omega), if_pos c4]
    refine Big.succ (Big.succ ?_)
    simp only [commonholdref_runeSize.j0, commonholdref_runeSize.j1, if_neg (show ¬ (false = true) by decide), if_pos (show ((by8 t 0 : Nat) : Int) ≥ 224 by omega), decide_eq_false (show ¬ ((by8 t 0 : Nat) : Int) < 240 by omega), if_pos (show ((by8 t 0 : Nat) : Int) ≥ 240 by omega), if_pos (show ((by8 t 0 : Nat) : Int) < 245 by omega), and7 _ hb]
    refine rs_j3 t 4 _ (by omega) (by omega) _ (fun hs => ?_)
    exact rs_step t 4 1 _ _ (by omega) (by omega) (by omega) (by omega) (rs_step t 4 2 _ _ (by omega) (by omega) (by omega) (by omega) (rs_step t 4 3 _ _ (by omega) (by omega) (by omega) (by omega) (rs_end4 t _)))
  simp only [if_neg c4]
  by_cases c5 : ((by8 t 0 : Nat) : Int) ≥ 194
  · simp only [if_pos c5, decide_eq_false (show ¬ ((by8 t 0 : Nat) : Int) < 224 by omega)]
    refine Big.succ (Big.succ ?_)
    simp only [commonholdref_runeSize.j0, commonholdref_runeSize.j1, if_neg (show ¬ (false = true) by decide), if_pos (show ((by8 t 0 : Nat) : Int) ≥ 224 by omega), decide_eq_false (show ¬ ((by8 t 0 : Nat) : Int) < 240 by omega), if_pos (show ((by8 t 0 : Nat) : Int) ≥ 240 by omega), if_neg (show ¬ ((by8 t 0 : Nat) : Int) < 245 by omega)]
    exact rs_none t
  · simp only [if_neg c5]
    refine Big.succ (Big.succ ?_)
    simp only [commonholdref_runeSize.j0, commonholdref_runeSize.j1, if_neg (show ¬ (false = true) by decide), if_neg (show ¬ ((by8 t 0 : Nat) : Int) ≥ 224 by omega), if_neg (show ¬ ((by8 t 0 : Nat) : Int) ≥ 240 by omega)]
    exact rs_none t
/-- The reference's width is what the decoder's tables say. -/
theorem rsz_check (n b0 b1 b2 b3 : Nat) (h0 : 128 ≤ b0) (h0' : b0 < 256) : Lib.checkN n b1 b2 b3 (Lib.firstT b0 % 8) (Lib.accLo (Lib.firstT b0 / 16)) (Lib.accHi (Lib.firstT b0 / 16)) = if rsz n b0 b1 b2 b3 = 0 then none else some (rsz n b0 b1 b2 b3).toNat := by
  by_cases c0 : b0 < 194
  · simp [Lib.firstT, Lib.checkN, rsz, show ¬ b0 < 128 by omega, c0, show ¬ 194 ≤ b0 by omega, show ¬ 224 ≤ b0 by omega, show ¬ 240 ≤ b0 by omega]
  by_cases c1 : b0 < 224
  · have e1 : Lib.firstT b0 = 2 := by simp [Lib.firstT, show ¬ b0 < 128 by omega, c0, c1]
    rw [e1]
    unfold rsz Lib.checkN
    simp only [show (2 : Nat) % 8 = 2 from rfl, show (2 : Nat) / 16 = 0 from rfl, show Lib.accLo 0 = 128 by decide, show Lib.accHi 0 = 191 by decide, if_true, if_neg (show ¬ b0 < 128 by omega), if_pos (show 194 ≤ b0 ∧ b0 < 224 by omega)]
    repeat' split
    all_goals first | rfl | (exfalso; omega)
  by_cases c2 : b0 < 240
  · obtain ⟨e, lo, hi, he, hlo, hhi, hcase⟩ : ∃ e lo hi, Lib.firstT b0 % 8 = 3 ∧ Lib.accLo (Lib.firstT b0 / 16) = lo ∧ Lib.accHi (Lib.firstT b0 / 16) = hi ∧ e = 0 ∧ ((b0 = 224 ∧ lo = 160 ∧ hi = 191) ∨ (b0 = 237 ∧ lo = 128 ∧ hi = 159) ∨ (b0 ≠ 224 ∧ b0 ≠ 237 ∧ lo = 128 ∧ hi = 191)) := by
      refine ⟨0, Lib.accLo (Lib.firstT b0 / 16), Lib.accHi (Lib.firstT b0 / 16), ?_, rfl, rfl, rfl, ?_⟩
      · by_cases d1 : b0 = 224
        · subst d1; decide
        by_cases d2 : b0 < 237
        · simp [Lib.firstT, show ¬ b0 < 128 by omega, c0, c1, d1, d2]
        by_cases d3 : b0 = 237
        · subst d3; decide
        · simp [Lib.firstT, show ¬ b0 < 128 by omega, c0, c1, d1, d2, d3, c2]
      · by_cases d1 : b0 = 224
        · subst d1; exact .inl ⟨rfl, by decide, by decide⟩
        by_cases d2 : b0 < 237
        · exact .inr (.inr ⟨d1, by omega, by simp [Lib.firstT, Lib.accLo, show ¬ b0 < 128 by omega, c0, c1, d1, d2], by simp [Lib.firstT, Lib.accHi, show ¬ b0 < 128 by omega, c0, c1, d1, d2]⟩)
        by_cases d3 : b0 = 237
        · subst d3; exact .inr (.inl ⟨rfl, by decide, by decide⟩)
        · exact .inr (.inr ⟨d1, d3, by simp [Lib.firstT, Lib.accLo, show ¬ b0 < 128 by omega, c0, c1, d1, d2, d3, c2], by simp [Lib.firstT, Lib.accHi, show ¬ b0 < 128 by omega, c0, c1, d1, d2, d3, c2]⟩)
    obtain ⟨he0, hcase⟩ := hcase
    rw [he, hlo, hhi]
    unfold rsz Lib.checkN fin3
    simp only [if_neg (show ¬ b0 < 128 by omega), if_neg (show ¬ (194 ≤ b0 ∧ b0 < 224) by omega), if_pos (show 224 ≤ b0 ∧ b0 < 240 by omega), if_neg (show ¬ (3 : Nat) = 2 by omega), if_true]
    repeat' split
    all_goals first | rfl | (exfalso; omega)
  by_cases c3 : b0 < 245
  · obtain ⟨lo, hi, he, hlo, hhi, hcase⟩ : ∃ lo hi, Lib.firstT b0 % 8 = 4 ∧ Lib.accLo (Lib.firstT b0 / 16) = lo ∧ Lib.accHi (Lib.firstT b0 / 16) = hi ∧ ((b0 = 240 ∧ lo = 144 ∧ hi = 191) ∨ (b0 = 244 ∧ lo = 128 ∧ hi = 143) ∨ (b0 ≠ 240 ∧ b0 ≠ 244 ∧ lo = 128 ∧ hi = 191)) := by
      refine ⟨Lib.accLo (Lib.firstT b0 / 16), Lib.accHi (Lib.firstT b0 / 16), ?_, rfl, rfl, ?_⟩
      · have : b0 = 240 ∨ b0 = 241 ∨ b0 = 242 ∨ b0 = 243 ∨ b0 = 244 := by omega
        rcases this with rfl | rfl | rfl | rfl | rfl <;> decide
      · have : b0 = 240 ∨ b0 = 241 ∨ b0 = 242 ∨ b0 = 243 ∨ b0 = 244 := by omega
        rcases this with rfl | rfl | rfl | rfl | rfl <;> decide
    rw [he, hlo, hhi]
    unfold rsz Lib.checkN fin4
    simp only [if_neg (show ¬ b0 < 128 by omega), if_neg (show ¬ (194 ≤ b0 ∧ b0 < 224) by omega), if_neg (show ¬ (224 ≤ b0 ∧ b0 < 240) by omega), if_pos (show 240 ≤ b0 ∧ b0 < 245 by omega), if_neg (show ¬ (4 : Nat) = 2 by omega), if_neg (show ¬ (4 : Nat) = 3 by omega), if_true]
    repeat' split
    all_goals first | rfl | (exfalso; omega)
  · have e1 : Lib.firstT b0 % 8 = 1 := by
      have h := h0'
      simp [Lib.firstT, show ¬ b0 < 128 by omega, c0, c1, show ¬ b0 = 224 by omega, show ¬ b0 < 237 by omega, show ¬ b0 = 237 by omega, c2, show ¬ b0 = 240 by omega, show ¬ b0 < 244 by omega, show ¬ b0 = 244 by omega]
    rw [e1]
    unfold rsz Lib.checkN
    simp only [if_neg (show ¬ b0 < 128 by omega), if_neg (show ¬ (194 ≤ b0 ∧ b0 < 224) by omega), if_neg (show ¬ (224 ≤ b0 ∧ b0 < 240) by omega), if_neg (show ¬ (240 ≤ b0 ∧ b0 < 245) by omega), if_neg (show ¬ (1 : Nat) = 2 by omega), if_neg (show ¬ (1 : Nat) = 3 by omega), if_neg (show ¬ (1 : Nat) = 4 by omega), if_true]
theorem rsz_le (n b0 b1 b2 b3 : Nat) (h1 : 1 ≤ n) : 0 ≤ rsz n b0 b1 b2 b3 ∧ rsz n b0 b1 b2 b3 ≤ n := by
  unfold rsz fin3 fin4
  repeat' split
  all_goals omega
/-- One sign on. -/
theorem valid_rsz (t : ByteArray) (h0 : 0 < t.size) : Lib.validD t.data.toList = if rsz t.size (by8 t 0) (by8 t 1) (by8 t 2) (by8 t 3) = 0 then false else Lib.validD (t.data.toList.drop (rsz t.size (by8 t 0) (by8 t 1) (by8 t 2) (by8 t 3)).toNat) := by
  have hl : t.data.toList.length = t.size := by simp
  have hne : t.data.toList ≠ [] := fun h => by rw [h] at hl; simp at hl; omega
  by_cases hb : by8 t 0 < 128
  · have e : rsz t.size (by8 t 0) (by8 t 1) (by8 t 2) (by8 t 3) = 1 := by unfold rsz; rw [if_pos hb]
    rw [e, if_neg (by omega)]
    unfold by8 at hb
    obtain ⟨b, r, hbr⟩ := List.exists_cons_of_ne_nil hne
    rw [hbr] at hb ⊢
    exact Lib.validD_cons b r (by simpa using hb)
  · rw [Lib.validD_lead _ hne (by unfold by8 at hb; omega), hl]
    have h := rsz_check t.size (by8 t 0) (by8 t 1) (by8 t 2) (by8 t 3) (by omega) (by8_lt t 0)
    unfold by8 at h ⊢
    rw [h]
    split
    · rename_i h2
      by_cases hz : rsz t.size (t.data.toList.getD 0 0).toNat (t.data.toList.getD 1 0).toNat (t.data.toList.getD 2 0).toNat (t.data.toList.getD 3 0).toNat = 0
      · rw [if_pos hz]
      · rw [if_neg hz] at h2; cases h2
    · rename_i k h2
      by_cases hz : rsz t.size (t.data.toList.getD 0 0).toNat (t.data.toList.getD 1 0).toNat (t.data.toList.getD 2 0).toNat (t.data.toList.getD 3 0).toNat = 0
      · rw [if_pos hz] at h2; cases h2
      · rw [if_neg hz] at h2 ⊢
        injection h2 with h2
        rw [h2]
theorem ext_drop (s : ByteArray) (i : Nat) : (s.extract i s.size).data.toList = s.data.toList.drop i := by
  simp [ByteArray.data_extract, Array.toList_extract, List.extract]
  rw [List.take_of_length_le (by simp)]
/-- The reference's Signs is the decoder's own answer. -/
theorem signs_law (s : ByteArray) (hs : s.size ≤ 4611686018427387904) (d : Nat) : ∀ i : Nat, i ≤ s.size → s.size - i ≤ d → Big (fun k => commonholdref_Signs.l0 k s (i : Int)) (Lib.validD (s.data.toList.drop i)) := by
  induction d with
  | zero =>
    intro i hi hd
    refine Big.succ ?_
    simp only [commonholdref_Signs.l0, if_neg (show ¬ (i : Int) < (s.size : Int) by omega)]
    refine (Big.of true).cast ?_
    rw [List.drop_eq_nil_of_le (by simp; omega)]
    rfl
  | succ d ih =>
    intro i hi hd
    by_cases hlt : i < s.size
    · refine Big.succ ?_
      simp only [commonholdref_Signs.l0, if_pos (show (i : Int) < (s.size : Int) by omega), if_pos (show (0 : Int) ≤ (i : Int) by omega), if_pos (show (i : Int) ≤ (s.size : Int) by omega), Int.toNat_natCast]
      obtain ⟨t, ht⟩ : ∃ t, s.extract i s.size = t := ⟨_, rfl⟩
      have hsz : t.size = s.size - i := by rw [← ht]; simp
      have hdr : s.data.toList.drop i = t.data.toList := by rw [← ht, ext_drop]
      rw [hdr]
      simp only [ht]
      refine Big.bind (rs_law t (by omega)) ?_
      rw [valid_rsz t (by omega)]
      have hle := rsz_le t.size (by8 t 0) (by8 t 1) (by8 t 2) (by8 t 3) (by omega)
      generalize rsz t.size (by8 t 0) (by8 t 1) (by8 t 2) (by8 t 3) = z at *
      by_cases hz : z = 0
      · simp only [if_pos hz]
        exact Big.of _
      · simp only [if_neg hz]
        obtain ⟨zn, rfl⟩ : ∃ zn : Nat, z = (zn : Int) := ⟨z.toNat, by omega⟩
        have ew : wrap64 ((i : Int) + (zn : Int)) = ((i + zn : Nat) : Int) := by rw [w64 (by omega) (by omega)]; omega
        simp only [ew]
        refine (ih (i + zn) (by omega) (by omega)).cast ?_
        rw [← hdr, List.drop_drop]
        simp
    · refine Big.succ ?_
      simp only [commonholdref_Signs.l0, if_neg (show ¬ (i : Int) < (s.size : Int) by omega)]
      refine (Big.of true).cast ?_
      rw [List.drop_eq_nil_of_le (by simp; omega)]
      rfl
theorem signs_f (s : ByteArray) (hs : s.size ≤ 4611686018427387904) : Big (fun k => commonholdref_Signs.f k s) (Lib.validD s.data.toList) := by
  simpa [commonholdref_Signs.f] using signs_law s hs s.size 0 (by omega) (by omega)
theorem or_one (x : Int) (h : -9223372036854775808 ≤ x ∧ x ≤ 9223372036854775807) : Go.bits .or .i64 x 1 = 1 ↔ (x = 0 ∨ x = 1) := by
  have key : Go.bits .or .i64 x 1 = IntKind.i64.wrap (((x % 18446744073709551616).toNat ||| 1 : Nat) : Int) := by
    show IntKind.i64.wrap ((BitVec.ofInt 64 x ||| BitVec.ofInt 64 1).toNat : Int) = _
    rw [BitVec.toNat_or, BitVec.toNat_ofInt, BitVec.toNat_ofInt]
    rfl
  rw [key, IntKind.wrap_i64]
  obtain ⟨a, ha⟩ : ∃ a, (x % 18446744073709551616).toNat = a := ⟨_, rfl⟩
  rw [ha]
  have hlt : a ||| 1 < 2 ^ 64 := Nat.or_lt_two_pow (by omega) (by omega)
  have hle : a ≤ a ||| 1 := Nat.left_le_or
  constructor
  · intro h1
    have : (a ||| 1) = 1 := by omega
    omega
  · rintro (rfl | rfl)
    · have : a = 0 := by omega
      subst this; decide
    · have : a = 1 := by omega
      subst this; decide
/-- What is the matter with a value? -/
def fault (K I : Int) (T : ByteArray) : Int :=
  if K < 0 ∨ 3 < K then 3 else if 40 < T.size then 1
  else if (K = 0 ∧ I = 0 ∧ T.toList = []) ∨ (K = 1 ∧ (I = 0 ∨ I = 1) ∧ T.toList = []) ∨ (K = 2 ∧ T.toList = []) ∨ (K = 3 ∧ I = 0 ∧ Lib.validD T.data.toList = true) then 0 else 4
theorem check_law (K I : Int) (T : ByteArray) (hI : -9223372036854775808 ≤ I ∧ I ≤ 9223372036854775807) : Big (fun k => value_Check.f k K I T) (fault K I T) := by
  have ho := or_one I hI
  simp only [value_Check.f]
  unfold fault
  by_cases h0 : K < 0
  · simp only [if_pos h0]
    refine Big.succ ?_
    simp only [value_Check.j0, if_true]
    exact (Big.of 3).cast (by rw [if_pos (.inl h0)])
  simp only [if_neg h0]
  refine Big.succ ?_
  by_cases h3 : K > 3
  · simp only [value_Check.j0, decide_eq_true h3, if_true]
    exact (Big.of 3).cast (by rw [if_pos (.inr h3)])
  simp only [value_Check.j0, decide_eq_false h3, if_neg (show ¬ (false = true) by decide)]
  rw [if_neg (show ¬ (K < 0 ∨ 3 < K) by omega)]
  by_cases h40 : (T.size : Int) > 40
  · simp only [if_pos h40]
    exact (Big.of 1).cast (by rw [if_pos (by omega)])
  simp only [if_neg h40]
  rw [if_neg (show ¬ 40 < T.size by omega)]
  by_cases k0 : K = 0
  · simp only [if_pos k0]
    by_cases hz : (K == 0 && (I == 0 && (T.toList == ([] : List UInt8)))) = true
    · simp only [if_pos hz]
      refine (Big.of 0).cast ?_
      simp only [Bool.and_eq_true, beq_iff_eq] at hz
      rw [if_pos (.inl hz)]
    · simp only [if_neg hz]
      refine (Big.of 4).cast ?_
      simp only [Bool.and_eq_true, beq_iff_eq] at hz
      rw [if_neg]
      rintro (h | ⟨h, _⟩ | ⟨h, _⟩ | ⟨h, _⟩)
      · exact hz h
      all_goals omega
  simp only [if_neg k0]
  by_cases k1 : K = 1
  · simp only [if_pos k1]
    by_cases hb : Go.bits .or .i64 I 1 = 1
    · simp only [if_pos hb]
      by_cases ht : T.toList = []
      · simp only [if_pos ht]
        exact (Big.of 0).cast (by rw [if_pos (.inr (.inl ⟨k1, ho.1 hb, ht⟩))])
      · simp only [if_neg ht]
        refine (Big.of 4).cast ?_
        rw [if_neg]
        rintro (⟨_, _, h⟩ | ⟨_, _, h⟩ | ⟨_, h⟩ | ⟨h, _⟩)
        · exact ht h
        · exact ht h
        · exact ht h
        · omega
    · simp only [if_neg hb]
      refine (Big.of 4).cast ?_
      rw [if_neg]
      rintro (⟨h, _⟩ | ⟨_, h, _⟩ | ⟨h, _⟩ | ⟨h, _⟩)
      · exact k0 h
      · exact hb (ho.2 h)
      · omega
      · omega
  simp only [if_neg k1]
  by_cases k2 : K = 2
  · simp only [if_pos k2]
    by_cases ht : T.toList = []
    · simp only [if_pos ht]
      exact (Big.of 0).cast (by rw [if_pos (.inr (.inr (.inl ⟨k2, ht⟩)))])
    · simp only [if_neg ht]
      refine (Big.of 4).cast ?_
      rw [if_neg]
      rintro (⟨_, _, h⟩ | ⟨_, _, h⟩ | ⟨_, h⟩ | ⟨h, _⟩)
      · exact ht h
      · exact ht h
      · exact ht h
      · omega
  have k3 : K = 3 := by omega
  simp only [if_neg k2, if_pos k3]
  by_cases i0 : I = 0
  · simp only [if_pos i0]
    refine Big.bind1 (r := Lib.validD T.data.toList) (by unfold utf8_ValidString.f; rw [if_pos (by omega)]) ?_
    by_cases hv : Lib.validD T.data.toList = true
    · simp only [if_pos hv]
      exact (Big.of 0).cast (by rw [if_pos (.inr (.inr (.inr ⟨k3, i0, hv⟩)))])
    · simp only [if_neg hv]
      refine (Big.of 4).cast ?_
      rw [if_neg]
      rintro (⟨h, _⟩ | ⟨h, _⟩ | ⟨h, _⟩ | ⟨_, _, h⟩)
      · omega
      · omega
      · omega
      · exact hv h
  · simp only [if_neg i0]
    refine (Big.of 4).cast ?_
    rw [if_neg]
    rintro (⟨h, _⟩ | ⟨h, _⟩ | ⟨h, _⟩ | ⟨_, h, _⟩)
    · omega
    · omega
    · omega
    · exact i0 h
theorem fault_j1 (K I : Int) (T : ByteArray) (b : Bool) (hb : b = true ↔ ((K ≠ 3 ∧ T.toList ≠ []) ∨ ((K = 0 ∨ K = 3) ∧ I ≠ 0))) (hK : 0 ≤ K ∧ K ≤ 3) (h40 : T.size ≤ 40) :
    Big (fun k => commonholdref_ValueFault.j1 k b K I T) (fault K I T) := by
  unfold fault
  rw [if_neg (show ¬ (K < 0 ∨ 3 < K) by omega), if_neg (show ¬ 40 < T.size by omega)]
  refine Big.succ ?_
  simp only [commonholdref_ValueFault.j1]
  have sg : Big (fun k => (commonholdref_Signs.f k T).bind fun t => if t = true then some (0 : Int) else some 4) (if Lib.validD T.data.toList = true then 0 else 4) := by
    refine Big.bind (signs_f T (by omega)) ?_
    by_cases hv : Lib.validD T.data.toList = true
    · simp only [if_pos hv]; exact Big.of _
    · simp only [if_neg hv]; exact Big.of _
  cases b with
  | true =>
    have hb := hb.1 rfl
    simp only [if_true]
    refine (Big.of 4).cast ?_
    rw [if_neg]
    rintro (⟨h, hi, ht⟩ | ⟨h, _, ht⟩ | ⟨h, ht⟩ | ⟨h, hi, _⟩)
    · rcases hb with ⟨_, h2⟩ | ⟨_, h2⟩
      · exact h2 ht
      · exact h2 hi
    · rcases hb with ⟨_, h2⟩ | ⟨h2, _⟩
      · exact h2 ht
      · omega
    · rcases hb with ⟨_, h2⟩ | ⟨h2, _⟩
      · exact h2 ht
      · omega
    · rcases hb with ⟨h2, _⟩ | ⟨_, h2⟩
      · exact h2 h
      · exact h2 hi
  | false =>
    have hb : ¬ ((K ≠ 3 ∧ T.toList ≠ []) ∨ ((K = 0 ∨ K = 3) ∧ I ≠ 0)) := fun h => by have := hb.2 h; cases this
    simp only [not_or, not_and, Decidable.not_not] at hb
    obtain ⟨b1, b2⟩ := hb
    simp only [if_neg (show ¬ (false = true) by decide)]
    by_cases k1 : K = 1
    · have ht : T.toList = [] := b1 (by omega)
      simp only [if_pos k1, if_neg (show ¬ K = 3 by omega)]
      by_cases i0 : I = 0
      · simp only [if_pos i0]
        exact (Big.of 0).cast (by rw [if_pos (.inr (.inl ⟨k1, .inl i0, ht⟩))])
      · by_cases i1 : I = 1
        · simp only [if_neg i0, if_pos i1]
          exact (Big.of 0).cast (by rw [if_pos (.inr (.inl ⟨k1, .inr i1, ht⟩))])
        · simp only [if_neg i0, if_neg i1]
          refine (Big.of 4).cast ?_
          rw [if_neg]
          rintro (⟨h, _⟩ | ⟨_, h, _⟩ | ⟨h, _⟩ | ⟨h, _⟩)
          · omega
          · rcases h with h | h
            · exact i0 h
            · exact i1 h
          · omega
          · omega
    · simp only [if_neg k1]
      by_cases k3 : K = 3
      · simp only [if_pos k3]
        refine sg.cast ?_
        have i0 := b2 (.inr k3)
        by_cases hv : Lib.validD T.data.toList = true
        · rw [if_pos hv, if_pos (.inr (.inr (.inr ⟨k3, i0, hv⟩)))]
        · rw [if_neg hv, if_neg]
          rintro (⟨h, _⟩ | ⟨h, _⟩ | ⟨h, _⟩ | ⟨_, _, h⟩)
          · omega
          · omega
          · omega
          · exact hv h
      · simp only [if_neg k3]
        have ht : T.toList = [] := b1 k3
        refine (Big.of 0).cast ?_
        rw [if_pos]
        by_cases k0 : K = 0
        · exact .inl ⟨k0, b2 (.inl k0), ht⟩
        · exact .inr (.inr (.inl ⟨by omega, ht⟩))
theorem fault_j0 (K I : Int) (T : ByteArray) (hK : 0 ≤ K ∧ K ≤ 3) : Big (fun k => commonholdref_ValueFault.j0 k false K I T) (fault K I T) := by
  refine Big.succ ?_
  simp only [commonholdref_ValueFault.j0, if_neg (show ¬ (false = true) by decide)]
  by_cases h40 : (T.size : Int) > 40
  · simp only [if_pos h40]
    refine (Big.of 1).cast ?_
    unfold fault
    rw [if_neg (show ¬ (K < 0 ∨ 3 < K) by omega), if_pos (by omega)]
  simp only [if_neg h40]
  by_cases k3 : K = 3
  · simp only [if_pos k3, if_neg (show ¬ K = 0 by omega)]
    exact fault_j1 K I T _ (by simp [k3]) hK (by omega)
  · simp only [if_neg k3]
    by_cases ht : T.toList = []
    · simp only [if_pos ht]
      by_cases k0 : K = 0
      · simp only [if_pos k0]
        exact fault_j1 K I T _ (by simp [k0, ht]) hK (by omega)
      · simp only [if_neg k0]
        exact fault_j1 K I T _ (by simp [k0, k3, ht]) hK (by omega)
    · simp only [if_neg ht]
      exact fault_j1 K I T _ (by simp [k3, ht]) hK (by omega)
theorem fault_law (K I : Int) (T : ByteArray) : Big (fun k => commonholdref_ValueFault.f k K I T) (fault K I T) := by
  simp only [commonholdref_ValueFault.f]
  by_cases k0 : K = 0
  · simp only [if_pos k0]
    exact fault_j0 K I T (by omega)
  by_cases k1 : K = 1
  · simp only [if_neg k0, if_pos k1]
    exact fault_j0 K I T (by omega)
  by_cases k2 : K = 2
  · simp only [if_neg k0, if_neg k1, if_pos k2]
    exact fault_j0 K I T (by omega)
  simp only [if_neg k0, if_neg k1, if_neg k2]
  by_cases k3 : K = 3
  · have : (K != 3) = false := by simp [k3]
    simp only [this]
    exact fault_j0 K I T (by omega)
  · have : (K != 3) = true := by simp [k3]
    simp only [this]
    refine Big.succ ?_
    simp only [commonholdref_ValueFault.j0, if_true]
    refine (Big.of 3).cast ?_
    unfold fault
    rw [if_pos (by omega)]
theorem same_from (l : List Int) (hl : (l.length : Int) ≤ 140737488355328) (d : Nat) : ∀ (k : Nat) (i : Int), 0 ≤ i → i ≤ l.length → (l.length : Int) - i = d → d < k → commonholdlaw_sameBytes.l0 k l l i = some true := by
  induction d with
  | zero =>
    intro k i h0 h1 hd hk
    obtain ⟨k, rfl⟩ : ∃ m, k = m + 1 := ⟨k - 1, by omega⟩
    simp only [commonholdlaw_sameBytes.l0]
    rw [if_neg (by omega)]
  | succ d ih =>
    intro k i h0 h1 hd hk
    obtain ⟨k, rfl⟩ : ∃ m, k = m + 1 := ⟨k - 1, by omega⟩
    simp only [commonholdlaw_sameBytes.l0]
    rw [if_pos (show i < (l.length : Int) by omega), if_pos h0, if_pos (show i < (l.length : Int) by omega)]
    simp only [if_true]
    rw [show wrap64 (i + 1) = i + 1 from by unfold wrap64; omega]
    exact ih k (i + 1) (by omega) (by omega) (by omega) (by omega)
theorem same_self (l : List Int) (hl : (l.length : Int) ≤ 140737488355328) : Big (fun k => commonholdlaw_sameBytes.f k l l) true := by
  refine ⟨l.length + 1, fun k hk => ?_⟩
  show (if (l.length : Int) = (l.length : Int) then _ else _) = some true
  rw [if_pos rfl]
  exact same_from l hl l.length k 0 (by omega) (by omega) (by omega) (by omega)
theorem esc_len (l : List Int) : (key_grow.esc l).length ≤ 2 * l.length := by
  induction l with
  | nil => exact Nat.le_refl _
  | cons x r ih =>
    have e : key_grow.esc (x :: r) = (if x = 0 then [0, 255] else [x]) ++ key_grow.esc r := by simp [key_grow.esc]
    rw [e, List.length_append, List.length_cons]
    split <;> simp <;> omega
theorem enc_len (K I : Int) (T : ByteArray) (h : fault K I T = 0) : (key_grow.enc K I T).length ≤ 90 := by
  have hT : T.size ≤ 40 := by
    unfold fault at h
    split at h
    · omega
    split at h
    · omega
    omega
  unfold key_grow.enc
  split
  · simp
  split
  · simp
  split
  · rw [List.length_cons, key_grow.bytes_length]; omega
  · have := esc_len (bytesOf T)
    rw [bytesOf_length] at this
    simp
    omega
/-- What is the matter with the first of the values that something is the matter with? -/
def bad : List S23 → Int
  | [] => 0
  | x :: r => if fault x.f0 x.f1 x.f2 = 0 then bad r else fault x.f0 x.f1 x.f2
def keyOf (l : List S23) : List Int × Int := if (l.length : Int) > 14 then ([], 1) else if bad l = 0 then (commonholdref_Keyed.encs l, 0) else ([], bad l)
theorem encs_len (l : List S23) (h : bad l = 0) : (commonholdref_Keyed.encs l).length ≤ 90 * l.length := by
  induction l with
  | nil => simp [commonholdref_Keyed.encs]
  | cons x r ih =>
    unfold bad at h
    split at h
    · rename_i h0
      have := enc_len _ _ _ h0
      have h2 := ih h
      have e : commonholdref_Keyed.encs (x :: r) = key_grow.enc x.f0 x.f1 x.f2 ++ commonholdref_Keyed.encs r := by simp [commonholdref_Keyed.encs]
      rw [e, List.length_append, List.length_cons]
      omega
    · rename_i h0
      exact absurd h h0
theorem run_law (l : List S23) (hw : ∀ x ∈ l, (Lit.int .i64 x.f1).wf = true) : ∀ ys : List Int, ys.length + 90 * l.length < 140737488355328 → Big (fun k => key_Encode.run k l ys) (if bad l = 0 then (ys ++ commonholdref_Keyed.encs l, 0) else ([], bad l)) := by
  induction l with
  | nil =>
    intro ys _
    refine Big.eq fun k => ?_
    simp [key_Encode.run, bad, commonholdref_Keyed.encs]
  | cons x r ih =>
    intro ys hl
    have hx := hw x List.mem_cons_self
    simp only [key_Encode.run]
    refine Big.bind (check_law _ _ _ (bounds_i64 hx)) ?_
    by_cases h0 : fault x.f0 x.f1 x.f2 = 0
    · have hn := enc_len _ _ _ h0
      have e : commonholdref_Keyed.encs (x :: r) = key_grow.enc x.f0 x.f1 x.f2 ++ commonholdref_Keyed.encs r := by simp [commonholdref_Keyed.encs]
      rw [List.length_cons] at hl
      have h2 := ih (fun y hy => hw y (List.mem_cons_of_mem _ hy)) (ys ++ key_grow.enc x.f0 x.f1 x.f2) (by rw [List.length_append]; omega)
      simp only [h0, if_true, bad, e]
      rw [List.append_assoc] at h2
      exact h2.congr (fun k => by rw [if_pos (by omega)])
    · simp only [if_neg h0, bad]
      exact Big.of _
theorem encode_law (l : List S23) (hw : ∀ x ∈ l, (Lit.int .i64 x.f1).wf = true) : Big (fun k => key_Encode.f k l) (keyOf l) := by
  unfold key_Encode.f keyOf
  by_cases h : (l.length : Int) > 14
  · simp only [if_pos h]
    exact Big.of _
  · simp only [if_neg h]
    exact run_law l hw [] (by simp; omega)
theorem faults_law (l : List S23) : Big (fun k => commonholdref_Keyed.faults k l) (bad l) := by
  induction l with
  | nil => exact Big.of _
  | cons x r ih =>
    simp only [commonholdref_Keyed.faults]
    refine Big.bind (fault_law _ _ _) ?_
    by_cases h0 : fault x.f0 x.f1 x.f2 = 0
    · simp only [h0, if_true, bad]
      exact ih
    · simp only [if_neg h0, bad]
      exact Big.of _
theorem keyed_law (l : List S23) : Big (fun k => commonholdref_Keyed.f k l) (keyOf l) := by
  unfold commonholdref_Keyed.f keyOf
  by_cases h : (l.length : Int) > 14
  · simp only [if_pos h]
    exact Big.of _
  · simp only [if_neg h]
    refine Big.bind (faults_law l) ?_
    by_cases h0 : bad l = 0
    · have := encs_len l h0
      simp only [h0, if_true]
      exact Big.eq fun k => by rw [if_pos (by omega)]
    · simp only [if_neg h0]
      exact Big.of _
theorem keyOf_len (l : List S23) : ((keyOf l).1.length : Int) ≤ 1260 := by
  unfold keyOf
  split
  · simp
  split
  · rename_i h0
    have := encs_len l h0
    show ((commonholdref_Keyed.encs l).length : Int) ≤ 1260
    omega
  · simp
/-- How many bytes are left when the trailing bytes 255 of the first m are struck. -/
def left (l : List Int) : Nat → Nat
  | 0 => 0
  | m + 1 => if rd l m = 255 then left l m else m + 1
theorem left_le (l : List Int) (m : Nat) : left l m ≤ m := by
  induction m with
  | zero => simp [left]
  | succ m ih => unfold left; split <;> omega
def tell (l : List Int) (n : Nat) : List Int × Int := if n = 0 then ([], 6) else (l.take (n - 1) ++ [(rd l ((n - 1 : Nat) : Int) + 1) % 256], 0)
theorem set_last (l : List Int) (n : Nat) (h : n < l.length) (v : Int) : (l.take (n + 1)).set n v = l.take n ++ [v] := by
  rw [List.take_succ_eq_append_getElem h, List.set_append_right _ _ (by simp; omega)]
  simp [Nat.min_eq_left (Nat.le_of_lt h)]
theorem rd_take (l : List Int) (n m : Nat) (h : n < m) (_hm : m ≤ l.length) : rd (l.take m) n = rd l n := by
  simp [rd, List.getD_eq_getElem?_getD, h]
theorem next_from (l : List Int) (hl : (l.length : Int) ≤ 1200) (hw : ∀ x ∈ l, (Lit.int .u8 x).wf = true) (m : Nat) : ∀ k : Nat, m ≤ l.length → m < k → key_Next.l0 k l m = some (tell l (left l m)) := by
  induction m with
  | zero =>
    intro k _ hk
    obtain ⟨k, rfl⟩ : ∃ m, k = m + 1 := ⟨k - 1, by omega⟩
    simp only [key_Next.l0]
    rw [if_neg (by omega)]
    rfl
  | succ m ih =>
    intro k hm hk
    obtain ⟨k, rfl⟩ : ∃ m, k = m + 1 := ⟨k - 1, by omega⟩
    have hb : 0 ≤ rd l m ∧ rd l m ≤ 255 := by
      have e : rd l (m : Int) = l[m] := by simp [rd, List.getD_eq_getElem?_getD, show m < l.length by omega]
      rw [e]
      have := bounds_u8 (hw l[m] (List.getElem_mem _))
      omega
    have e1 : wrap64 (((m + 1 : Nat) : Int) - 1) = m := by unfold wrap64; omega
    simp only [key_Next.l0, e1]
    rw [if_pos (show ((m + 1 : Nat) : Int) > 0 by omega), if_pos (show (0 : Int) ≤ m by omega), if_pos (show (m : Int) < l.length by omega)]
    by_cases h : rd l m = 255
    · rw [if_neg (by omega), ih k (by omega) (by omega)]
      simp only [left]
      rw [if_pos h]
    · have ht : ([] ++ l.take (m + 1) : List Int).length = m + 1 := by simp; omega
      rw [if_pos (by omega), if_pos (by omega), if_pos (by omega), show (((m + 1 : Nat) : Int)).toNat = m + 1 from by omega, if_pos (by simp; omega)]
      simp only [Option.bind_some, List.nil_append] at ht ⊢
      rw [if_pos (by omega), show ((m : Int)).toNat = m from by omega, set_last l m (by omega), rd_take l m (m + 1) (by omega) hm]
      simp only [left]
      rw [if_neg h]
      simp [tell]
theorem behind_from (l : List Int) (hl : (l.length : Int) ≤ 1200) (d : Nat) : ∀ (k i : Nat), i + d = l.length → d < k → commonholdref_Behind.l0 k l (left l i) l l.length i = some (tell l (left l l.length)) := by
  induction d with
  | zero =>
    intro k i hi hk
    obtain ⟨k, rfl⟩ : ∃ m, k = m + 1 := ⟨k - 1, by omega⟩
    obtain rfl : i = l.length := by omega
    simp only [commonholdref_Behind.l0]
    rw [if_neg (by omega)]
    have hle := left_le l l.length
    generalize left l l.length = n at *
    unfold tell
    by_cases h : n = 0
    · rw [if_pos (by omega), if_pos h]
    · have e1 : wrap64 ((n : Int) - 1) = ((n - 1 : Nat) : Int) := by unfold wrap64; omega
      rw [if_neg (by omega), if_neg h]
      simp only [Option.bind_some, e1]
      rw [if_pos (by omega), if_pos (by omega), show (((n - 1 : Nat) : Int)).toNat = n - 1 from by omega, if_pos (by simp; omega), if_pos (by omega), if_pos (by simp; omega)]
      simp
  | succ d ih =>
    intro k i hi hk
    obtain ⟨k, rfl⟩ : ∃ m, k = m + 1 := ⟨k - 1, by omega⟩
    have e1 : wrap64 ((i : Int) + 1) = ((i + 1 : Nat) : Int) := by unfold wrap64; omega
    simp only [commonholdref_Behind.l0, e1]
    rw [if_pos (by omega), if_pos (by omega), if_pos (by omega)]
    have := ih k (i + 1) (by omega) (by omega)
    by_cases h : rd l i = 255
    · rw [if_pos h]
      rw [show left l (i + 1) = left l i from by simp only [left]; rw [if_pos h]] at this
      exact this
    · rw [if_neg h]
      rw [show left l (i + 1) = i + 1 from by simp only [left]; rw [if_neg h]] at this
      exact this
theorem tell_len (l : List Int) (n : Nat) (hn : n ≤ l.length) : (tell l n).1.length ≤ l.length := by
  unfold tell
  split
  · simp
  · simp; omega

theorem bytes_u8 (n : Int) : ∀ x ∈ key_grow.bytes n 8, (Lit.int .u8 x).wf = true := by
  intro x hx
  obtain ⟨i, _, rfl⟩ := List.mem_map.1 hx
  unfold key_grow.byte
  have h1 := Int.emod_nonneg (n / 2 ^ (56 - 8 * i)) (show (256 : Int) ≠ 0 by decide)
  have h2 := Int.emod_lt_of_pos (n / 2 ^ (56 - 8 * i)) (show (0 : Int) < 256 by decide)
  generalize n / 2 ^ (56 - 8 * i) % 256 = y at *
  simp [Lit.wf, IntKind.min, IntKind.max, IntKind.signed, IntKind.bits]
  omega
def two (t i : Int) : List S23 := [⟨2, t, ⟨#[]⟩⟩, ⟨2, i, ⟨#[]⟩⟩]
theorem two_bad (t i : Int) : bad (two t i) = 0 := by
  have h : ∀ x : Int, fault 2 x ⟨#[]⟩ = 0 := by
    intro x
    unfold fault
    rw [if_neg (by omega), if_neg (by decide), if_pos (.inr (.inr (.inl ⟨rfl, by simp [ByteArray.toList, ByteArray.toList.loop, ByteArray.size]⟩)))]
  simp [two, bad, h]
theorem two_key (t i : Int) : keyOf (two t i) = (commonholdref_Keyed.encs (two t i), 0) := by
  unfold keyOf
  rw [if_neg (by simp [two]), if_pos (two_bad t i)]
theorem two_u8 (t i : Int) : ∀ x ∈ commonholdref_Keyed.encs (two t i), (Lit.int .u8 x).wf = true := by
  intro x hx
  have e : commonholdref_Keyed.encs (two t i) = (4 :: key_grow.bytes (Go.bits .xor .u64 (IntKind.u64.wrap t) 9223372036854775808) 8) ++ (4 :: key_grow.bytes (Go.bits .xor .u64 (IntKind.u64.wrap i) 9223372036854775808) 8) := by
    simp [commonholdref_Keyed.encs, two, key_grow.enc]
  rw [e] at hx
  simp only [List.mem_append, List.mem_cons] at hx
  rcases hx with (rfl | h) | (rfl | h)
  · decide
  · exact bytes_u8 _ _ h
  · decide
  · exact bytes_u8 _ _ h
theorem two_len (t i : Int) : (commonholdref_Keyed.encs (two t i)).length = 18 := by
  simp [commonholdref_Keyed.encs, two, key_grow.enc, key_grow.bytes_length]
def after (t i : Int) : List Int × Int := tell (commonholdref_Keyed.encs (two t i)) (left (commonholdref_Keyed.encs (two t i)) (commonholdref_Keyed.encs (two t i)).length)
theorem next_law (t i : Int) : Big (fun k => key_Next.f k (commonholdref_Keyed.encs (two t i))) (after t i) := by
  have hl := two_len t i
  refine ⟨19, fun k hk => ?_⟩
  show (if ((commonholdref_Keyed.encs (two t i)).length : Int) > 1200 then _ else _) = _
  rw [if_neg (by omega)]
  exact next_from _ (by omega) (two_u8 t i) _ k (Nat.le_refl _) (by omega)
theorem behind_law (t i : Int) : Big (fun k => commonholdref_Behind.f k (commonholdref_Keyed.encs (two t i))) (after t i) := by
  have hl := two_len t i
  refine ⟨19, fun k hk => ?_⟩
  show (if ((commonholdref_Keyed.encs (two t i)).length : Int) > 1200 then _ else _) = _
  rw [if_neg (by omega)]
  exact behind_from (commonholdref_Keyed.encs (two t i)) (by omega) (commonholdref_Keyed.encs (two t i)).length k 0 (by omega) (by omega)
theorem after_len (t i : Int) : ((after t i).1.length : Int) ≤ 100 := by
  have hl := two_len t i
  have hle := left_le (commonholdref_Keyed.encs (two t i)) (commonholdref_Keyed.encs (two t i)).length
  unfold after tell
  split
  · simp
  · show ((List.take _ _ ++ [_]).length : Int) ≤ 100
    rw [List.length_append, List.length_take, List.length_singleton]
    omega
def spanned (t i : Int) : List Int × List Int × Int := if (t < 0 ∨ 3 < t) ∨ (i < 0 ∨ 2 < i) then ([], [], 2) else (commonholdref_Keyed.encs (two t i), (after t i).1, 0)
theorem span_law (t i : Int) (ht : (Lit.int .i64 t).wf = true) (hi : (Lit.int .i64 i).wf = true) : Big (fun k => row_Span.f k t i) (spanned t i) := by
  have hin : ∀ x ∈ two t i, (Lit.int .i64 x.f1).wf = true := by
    intro x hx
    simp only [two, List.mem_cons, List.mem_nil_iff, or_false] at hx
    rcases hx with rfl | rfl
    · exact ht
    · exact hi
  have bad2 : (t < 0 ∨ 3 < t) ∨ (i < 0 ∨ 2 < i) → Big (fun k => row_Span.j0 k t i true) (spanned t i) := by
    intro h
    refine Big.succ ?_
    simp only [row_Span.j0, if_true]
    exact (Big.of _).cast (by rw [spanned, if_pos h])
  unfold row_Span.f
  by_cases h1 : t < 0
  · simp only [if_pos h1]; exact bad2 (.inl (.inl h1))
  by_cases h2 : t ≥ 4
  · simp only [if_neg h1, if_pos h2]; exact bad2 (.inl (.inr (by omega)))
  by_cases h3 : i < 0
  · simp only [if_neg h1, if_neg h2, if_pos h3]; exact bad2 (.inr (.inl h3))
  simp only [if_neg h1, if_neg h2, if_neg h3]
  by_cases h4 : i > 2
  · simp only [decide_eq_true h4]; exact bad2 (.inr (.inr h4))
  simp only [decide_eq_false h4]
  refine Big.succ ?_
  simp only [row_Span.j0, if_neg (show ¬ false = true by decide), row_number.f, Option.bind_some]
  refine Big.bind (encode_law (two t i) hin) ?_
  rw [two_key]
  refine Big.bind (next_law t i) ?_
  exact (Big.of _).cast (by rw [spanned, if_neg (by omega)])
theorem spanOf_law (t i : Int) : Big (fun k => commonholdref_SpanOf.f k t i) (spanned t i) := by
  have bad2 : (t < 0 ∨ 3 < t) ∨ (i < 0 ∨ 2 < i) → Big (fun k => commonholdref_SpanOf.j0 k t i true) (spanned t i) := by
    intro h
    refine Big.succ ?_
    simp only [commonholdref_SpanOf.j0, if_true]
    exact (Big.of _).cast (by rw [spanned, if_pos h])
  unfold commonholdref_SpanOf.f
  by_cases h1 : t < 0
  · simp only [if_pos h1]; exact bad2 (.inl (.inl h1))
  by_cases h2 : t > 3
  · simp only [if_neg h1, if_pos h2]; exact bad2 (.inl (.inr (by omega)))
  by_cases h3 : i < 0
  · simp only [if_neg h1, if_neg h2, if_pos h3]; exact bad2 (.inr (.inl h3))
  simp only [if_neg h1, if_neg h2, if_neg h3]
  by_cases h4 : i > 2
  · simp only [decide_eq_true h4]; exact bad2 (.inr (.inr h4))
  simp only [decide_eq_false h4]
  refine Big.succ ?_
  simp only [commonholdref_SpanOf.j0, if_neg (show ¬ false = true by decide), commonholdref_whole.f, Option.bind_some]
  refine Big.bind (r := (commonholdref_Keyed.encs (two t i), (after t i).1)) ?_ ?_
  · unfold commonholdref_prefixRange.f
    refine Big.bind (keyed_law (two t i)) ?_
    rw [two_key]
    refine Big.bind (behind_law t i) ?_
    exact Big.of _
  · exact (Big.of _).cast (by rw [spanned, if_neg (by omega)])
theorem spanned_len (t i : Int) : ((spanned t i).1.length : Int) ≤ 100 ∧ ((spanned t i).2.1.length : Int) ≤ 100 := by
  have h1 := two_len t i
  have h2 := after_len t i
  unfold spanned
  split
  · simp
  · exact ⟨by show ((commonholdref_Keyed.encs (two t i)).length : Int) ≤ 100; omega, h2⟩

end Go.Proofs.YtdepkigheacdnaaDoor.Pure.RowSpansOf
namespace Go.Proofs.YtdepkigheacdnaaDoor.Pure
open Go Go.RowKit Go.Proofs.YtdepkigheacdnaaDoor.PRowSpans Go.Proofs.YtdepkigheacdnaaDoorW.PrintWords Go.Proofs.YtdepkigheacdnaaDoorW.PrintLast Go.Proofs.YtdepkigheacdnaaDoor.Bg RowSpansOf
theorem RowSpans : commonholdlaw_RowSpans.Pure := by
  intro t i ht hi
  refine Big.to ?_
  have hl := spanned_len t i
  simp only [commonholdlaw_RowSpans.f]
  refine Big.bind (span_law t i ht hi) ?_
  refine Big.bind (spanOf_law t i) ?_
  refine Big.bind (r := true) ?_ ?_
  · unfold commonholdlaw_sameRange.f
    refine Big.bind (same_self _ (by omega)) ?_
    simp only [if_true]
    refine Big.bind (same_self _ (by omega)) ?_
    exact Big.of _
  · exact (Big.of true).congr (fun k => by simp)
end Go.Proofs.YtdepkigheacdnaaDoor.Pure
