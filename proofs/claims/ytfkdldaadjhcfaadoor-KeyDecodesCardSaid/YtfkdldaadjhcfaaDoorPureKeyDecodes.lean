/- key.Decode answers as its reference does, at all bytes. No condition beyond the statement's own. -/
import Derived.Test.YtfkdldaadjhcfaaDoorPKeyDecodesx7
import Derived.Test.YtfkdldaadjhcfaaDoorBig
import Derived.Lib.ValidLaws
import Derived.Lib.BytesEntry
import Derived.Laws.Strings
import Derived.Laws.BytesArg
import Derived.Laws.BitsAllLaws
namespace Go.Proofs.YtfkdldaadjhcfaaDoor.Pure.KeyDecodesOf
open Go Go.RowKit Go.Proofs.YtfkdldaadjhcfaaDoor.PKeyDecodes Go.Proofs.YtfkdldaadjhcfaaDoorW.PrintWords Go.Proofs.YtfkdldaadjhcfaaDoorW.PrintLast Go.Proofs.YtfkdldaadjhcfaaDoor.Bg
set_option linter.unusedVariables false
set_option linter.unusedSimpArgs false
/-- A byte of a text. -/
def by8 (t : ByteArray) (i : Nat) : Nat := (t.data.toList.getD i 0).toNat
theorem by8_lt (t : ByteArray) (i : Nat) : by8 t i < 256 := (t.data.toList.getD i 0).toNat_lt
theorem bt_by8 (t : ByteArray) (i : Nat) (h : i < t.size) : bt t (i : Int) = (by8 t i : Int) := by
  rw [bt_at' t i h]
  unfold by8
  have : t.data.toList.getD i 0 = t[i] := by
    rw [List.getD_eq_getElem?_getD, List.getElem?_eq_getElem (by simpa using h)]
    simp
    rfl
  rw [this]
/-- What follows the bytes of a sign. -/
def fin3 (code : Int) : Int := if code < 2048 then 0 else if 55296 ≤ code ∧ code ≤ 57343 then 0 else 3
def fin4 (code : Int) : Int := if code < 65536 then 0 else if code > 1114111 then 0 else 4
theorem rs_end2 (t : ByteArray) (code : Int) : Big (fun k => commonholdref_runeSize.l0 k t 2 code 2) 2 := by
  refine Big.succ ?_
  simp only [commonholdref_runeSize.l0]
  simp only [if_neg (show ¬ (2 : Int) < 2 by omega), if_neg (show ¬ (2 : Int) = 3 by omega), if_neg (show ¬ (2 : Int) = 4 by omega)]
  exact Big.of _
theorem rs_end3 (t : ByteArray) (code : Int) : Big (fun k => commonholdref_runeSize.l0 k t 3 code 3) (fin3 code) := by
  refine Big.succ ?_
  simp only [commonholdref_runeSize.l0]
  simp only [if_neg (show ¬ (3 : Int) < 3 by omega), if_true, if_neg (show ¬ (3 : Int) = 4 by omega)]
  unfold fin3
  by_cases h1 : code < 2048
  · simp only [if_pos h1]; exact Big.of _
  · simp only [if_neg h1]
    by_cases h2 : code ≥ 55296
    · simp only [if_pos h2]
      by_cases h3 : code ≤ 57343
      · simp only [if_pos h3, if_pos (show 55296 ≤ code ∧ code ≤ 57343 from ⟨h2, h3⟩)]; exact Big.of _
      · simp only [if_neg h3, if_neg (show ¬ (55296 ≤ code ∧ code ≤ 57343) by omega)]; exact Big.of _
    · simp only [if_neg h2, if_neg (show ¬ (55296 ≤ code ∧ code ≤ 57343) by omega)]; exact Big.of _
theorem rs_end4 (t : ByteArray) (code : Int) : Big (fun k => commonholdref_runeSize.l0 k t 4 code 4) (fin4 code) := by
  refine Big.succ ?_
  simp only [commonholdref_runeSize.l0]
  simp only [if_neg (show ¬ (4 : Int) < 4 by omega), if_neg (show ¬ (4 : Int) = 3 by omega), if_true]
  unfold fin4
  by_cases h1 : code < 65536
  · simp only [if_pos h1]; exact Big.of _
  · simp only [if_neg h1]
    by_cases h2 : code > 1114111
    · simp only [if_pos h2]; exact Big.of _
    · simp only [if_neg h2]; exact Big.of _
theorem and63 : ∀ b : Nat, b < 256 → Go.bits .and .u8 (b : Int) 63 = ((b % 64 : Nat) : Int) := by decide +kernel
theorem and31 : ∀ b : Nat, b < 256 → Go.bits .and .i64 (b : Int) 31 = ((b % 32 : Nat) : Int) := by decide +kernel
theorem and15 : ∀ b : Nat, b < 256 → Go.bits .and .i64 (b : Int) 15 = ((b % 16 : Nat) : Int) := by decide +kernel
theorem and7 : ∀ b : Nat, b < 256 → Go.bits .and .i64 (b : Int) 7 = ((b % 8 : Nat) : Int) := by decide +kernel
theorem rs_step (t : ByteArray) (n i code : Nat) (r : Int) (hi : i < n) (h4 : n ≤ 4) (hs : i < t.size) (hc : code ≤ 16777216)
    (h : Big (fun k => commonholdref_runeSize.l0 k t (n : Int) ((code * 64 + by8 t i % 64 : Nat) : Int) ((i + 1 : Nat) : Int)) r) :
    Big (fun k => commonholdref_runeSize.l0 k t (n : Int) (code : Int) (i : Int)) (if by8 t i < 128 ∨ 191 < by8 t i then 0 else r) := by
  refine Big.succ ?_
  simp only [commonholdref_runeSize.l0]
  have hb := by8_lt t i
  simp only [if_pos (show (i : Int) < (n : Int) by omega), if_pos (show (0 : Int) ≤ (i : Int) by omega), if_pos (show (i : Int) < (t.size : Int) by omega), bt_by8 t i hs, and63 _ hb]
  have e1 : wrap64 ((by8 t i % 64 : Nat) : Int) = ((by8 t i % 64 : Nat) : Int) := w64 (by omega) (by omega)
  have e2 : wrap64 ((code : Int) * 64) = (code : Int) * 64 := w64 (by omega) (by omega)
  have e3 : wrap64 ((code : Int) * 64 + ((by8 t i % 64 : Nat) : Int)) = ((code * 64 + by8 t i % 64 : Nat) : Int) := by rw [w64 (by omega) (by omega)]; omega
  have e4 : wrap64 ((i : Int) + 1) = ((i + 1 : Nat) : Int) := by rw [w64 (by omega) (by omega)]; omega
  simp only [e1, e2, e3, e4]
  by_cases h1 : ((by8 t i : Nat) : Int) < 128
  · simp only [if_pos h1]
    refine (Big.of 0).cast ?_
    rw [if_pos (.inl (by omega))]
  by_cases h2 : ((by8 t i : Nat) : Int) > 191
  · simp only [if_neg h1, if_pos h2]
    refine (Big.of 0).cast ?_
    rw [if_pos (.inr (by omega))]
  · simp only [if_neg h1, if_neg h2]
    refine h.cast ?_
    rw [if_neg (by omega)]
/-- How wide is the sign that begins a text; 0: there is none. -/
def rsz (n b0 b1 b2 b3 : Nat) : Int :=
  if b0 < 128 then 1
  else if 194 ≤ b0 ∧ b0 < 224 then (if n < 2 then 0 else if b1 < 128 ∨ 191 < b1 then 0 else 2)
  else if 224 ≤ b0 ∧ b0 < 240 then (if n < 3 then 0 else if b1 < 128 ∨ 191 < b1 then 0 else if b2 < 128 ∨ 191 < b2 then 0 else fin3 (((b0 % 16 * 64 + b1 % 64) * 64 + b2 % 64 : Nat) : Int))
  else if 240 ≤ b0 ∧ b0 < 245 then (if n < 4 then 0 else if b1 < 128 ∨ 191 < b1 then 0 else if b2 < 128 ∨ 191 < b2 then 0 else if b3 < 128 ∨ 191 < b3 then 0 else fin4 ((((b0 % 8 * 64 + b1 % 64) * 64 + b2 % 64) * 64 + b3 % 64 : Nat) : Int))
  else 0
theorem rs_j3 (t : ByteArray) (n code : Nat) (hn : n ≤ 4) (h2 : 2 ≤ n) (r : Int) (h : n ≤ t.size → Big (fun k => commonholdref_runeSize.l0 k t (n : Int) (code : Int) 1) r) :
    Big (fun k => commonholdref_runeSize.j2 k t (n : Int) (code : Int)) (if t.size < n then 0 else r) := by
  refine Big.succ (Big.succ ?_)
  simp only [commonholdref_runeSize.j2, commonholdref_runeSize.j3]
  simp only [if_neg (show ¬ (n : Int) = 0 by omega)]
  by_cases hs : (t.size : Int) < (n : Int)
  · simp only [decide_eq_true hs, if_true]
    refine (Big.of 0).cast ?_
    rw [if_pos (by omega)]
  · simp only [decide_eq_false hs, if_neg (show ¬ (false = true) by decide)]
    refine (h (by omega)).cast ?_
    rw [if_neg (by omega)]
theorem rs_none (t : ByteArray) : Big (fun k => commonholdref_runeSize.j2 k t 0 0) 0 := by
  refine Big.succ (Big.succ ?_)
  simp only [commonholdref_runeSize.j2, commonholdref_runeSize.j3, if_true]
  exact Big.of _
set_option maxRecDepth 100000 in
theorem rs_law (t : ByteArray) (h0 : 0 < t.size) : Big (fun k => commonholdref_runeSize.f k t) (rsz t.size (by8 t 0) (by8 t 1) (by8 t 2) (by8 t 3)) := by
  have hb := by8_lt t 0
  have ew : wrap64 (bt t 0) = (by8 t 0 : Int) := by rw [show (0 : Int) = ((0 : Nat) : Int) from rfl, bt_by8 t 0 h0, w64 (by omega) (by omega)]
  simp only [commonholdref_runeSize.f, if_neg (show ¬ (t.size : Int) = 0 by omega), if_pos (show (0 : Int) < (t.size : Int) by omega), ew]
  unfold rsz
  by_cases c1 : by8 t 0 < 128
  · simp only [if_pos (show ((by8 t 0 : Nat) : Int) < 128 by omega), if_pos c1]
    exact Big.of _
  simp only [if_neg (show ¬ ((by8 t 0 : Nat) : Int) < 128 by omega), if_neg c1]
  by_cases c2 : 194 ≤ by8 t 0 ∧ by8 t 0 < 224
  · simp only [if_pos (show ((by8 t 0 : Nat) : Int) ≥ 194 by omega), decide_eq_true (show ((by8 t 0 : Nat) : Int) < 224 by omega), if_pos c2]
    refine Big.succ ?_
    simp only [commonholdref_runeSize.j0, if_true, and31 _ hb]
    refine rs_j3 t 2 _ (by omega) (by omega) _ (fun hs => ?_)
    exact rs_step t 2 1 _ _ (by omega) (by omega) (by omega) (by omega) (rs_end2 t _)
  simp only [if_neg c2]
  by_cases c3 : 224 ≤ by8 t 0 ∧ by8 t 0 < 240
  · simp only [if_pos (show ((by8 t 0 : Nat) : Int) ≥ 194 by omega), decide_eq_false (show ¬ ((by8 t 0 : Nat) : Int) < 224 by omega), if_pos c3]
    refine Big.succ (Big.succ ?_)
    simp only [commonholdref_runeSize.j0, commonholdref_runeSize.j1, if_neg (show ¬ (false = true) by decide), if_pos (show ((by8 t 0 : Nat) : Int) ≥ 224 by omega), decide_eq_true (show ((by8 t 0 : Nat) : Int) < 240 by omega), if_true, and15 _ hb]
    refine rs_j3 t 3 _ (by omega) (by omega) _ (fun hs => ?_)
    exact rs_step t 3 1 _ _ (by omega) (by omega) (by omega) (by omega) (rs_step t 3 2 _ _ (by omega) (by omega) (by omega) (by omega) (rs_end3 t _))
  simp only [if_neg c3]
  by_cases c4 : 240 ≤ by8 t 0 ∧ by8 t 0 < 245
  · simp only [if_pos (show ((by8 t 0 : Nat) : Int) ≥ 194 by omega), decide_eq_false (show ¬ ((by8 t 0 : Nat) : Int) < 224 by omega), if_pos c4]
    refine Big.succ (Big.succ ?_)
    simp only [commonholdref_runeSize.j0, commonholdref_runeSize.j1, if_neg (show ¬ (false = true) by decide), if_pos (show ((by8 t 0 : Nat) : Int) ≥ 224 by omega), decide_eq_false (show ¬ ((by8 t 0 : Nat) : Int) < 240 by omega), if_pos (show ((by8 t 0 : Nat) : Int) ≥ 240 by omega), if_pos (show ((by8 t 0 : Nat) : Int) < 245 by omega), and7 _ hb]
    refine rs_j3 t 4 _ (by omega) (by omega) _ (fun hs => ?_)
    exact rs_step t 4 1 _ _ (by omega) (by omega) (by omega) (by omega) (rs_step t 4 2 _ _ (by omega) (by omega) (by omega) (by omega) (rs_step t 4 3 _ _ (by omega) (by omega) (by omega) (by omega) (rs_end4 t _)))
  simp only [if_neg c4]
  by_cases c5 : ((by8 t 0 : Nat) : Int) ≥ 194
  · simp only [if_pos c5, decide_eq_false (show ¬ ((by8 t 0 : Nat) : Int) < 224 by omega)]
    refine Big.succ (Big.succ ?_)
    simp only [commonholdref_runeSize.j0, commonholdref_runeSize.j1, if_neg (show ¬ (false = true) by decide), if_pos (show ((by8 t 0 : Nat) : Int) ≥ 224 by omega), decide_eq_false (show ¬ ((by8 t 0 : Nat) : Int) < 240 by omega), if_pos (show ((by8 t 0 : Nat) : Int) ≥ 240 by omega), if_neg (show ¬ ((by8 t 0 : Nat) : Int) < 245 by omega)]
    exact rs_none t
  · simp only [if_neg c5]
    refine Big.succ (Big.succ ?_)
    simp only [commonholdref_runeSize.j0, commonholdref_runeSize.j1, if_neg (show ¬ (false = true) by decide), if_neg (show ¬ ((by8 t 0 : Nat) : Int) ≥ 224 by omega), if_neg (show ¬ ((by8 t 0 : Nat) : Int) ≥ 240 by omega)]
    exact rs_none t
/-- The reference's width is what the decoder's tables say. -/
theorem rsz_check (n b0 b1 b2 b3 : Nat) (h0 : 128 ≤ b0) (h0' : b0 < 256) : Lib.checkN n b1 b2 b3 (Lib.firstT b0 % 8) (Lib.accLo (Lib.firstT b0 / 16)) (Lib.accHi (Lib.firstT b0 / 16)) = if rsz n b0 b1 b2 b3 = 0 then none else some (rsz n b0 b1 b2 b3).toNat := by
  by_cases c0 : b0 < 194
  · simp [Lib.firstT, Lib.checkN, rsz, show ¬ b0 < 128 by omega, c0, show ¬ 194 ≤ b0 by omega, show ¬ 224 ≤ b0 by omega, show ¬ 240 ≤ b0 by omega]
  by_cases c1 : b0 < 224
  · have e1 : Lib.firstT b0 = 2 := by simp [Lib.firstT, show ¬ b0 < 128 by omega, c0, c1]
    rw [e1]
    unfold rsz Lib.checkN
    simp only [show (2 : Nat) % 8 = 2 from rfl, show (2 : Nat) / 16 = 0 from rfl, show Lib.accLo 0 = 128 by decide, show Lib.accHi 0 = 191 by decide, if_true, if_neg (show ¬ b0 < 128 by omega), if_pos (show 194 ≤ b0 ∧ b0 < 224 by omega)]
    repeat' split
    all_goals first | rfl | (exfalso; omega)
  by_cases c2 : b0 < 240
  · obtain ⟨e, lo, hi, he, hlo, hhi, hcase⟩ : ∃ e lo hi, Lib.firstT b0 % 8 = 3 ∧ Lib.accLo (Lib.firstT b0 / 16) = lo ∧ Lib.accHi (Lib.firstT b0 / 16) = hi ∧ e = 0 ∧ ((b0 = 224 ∧ lo = 160 ∧ hi = 191) ∨ (b0 = 237 ∧ lo = 128 ∧ hi = 159) ∨ (b0 ≠ 224 ∧ b0 ≠ 237 ∧ lo = 128 ∧ hi = 191)) := by
      refine ⟨0, Lib.accLo (Lib.firstT b0 / 16), Lib.accHi (Lib.firstT b0 / 16), ?_, rfl, rfl, rfl, ?_⟩
      · by_cases d1 : b0 = 224
        · subst d1; decide
        by_cases d2 : b0 < 237
        · simp [Lib.firstT, show ¬ b0 < 128 by omega, c0, c1, d1, d2]
        by_cases d3 : b0 = 237
        · subst d3; decide
        · simp [Lib.firstT, show ¬ b0 < 128 by omega, c0, c1, d1, d2, d3, c2]
      · by_cases d1 : b0 = 224
        · subst d1; exact .inl ⟨rfl, by decide, by decide⟩
        by_cases d2 : b0 < 237
        · exact .inr (.inr ⟨d1, by omega, by simp [Lib.firstT, Lib.accLo, show ¬ b0 < 128 by omega, c0, c1, d1, d2], by simp [Lib.firstT, Lib.accHi, show ¬ b0 < 128 by omega, c0, c1, d1, d2]⟩)
        by_cases d3 : b0 = 237
        · subst d3; exact .inr (.inl ⟨rfl, by decide, by decide⟩)
        · exact .inr (.inr ⟨d1, d3, by simp [Lib.firstT, Lib.accLo, show ¬ b0 < 128 by omega, c0, c1, d1, d2, d3, c2], by simp [Lib.firstT, Lib.accHi, show ¬ b0 < 128 by omega, c0, c1, d1, d2, d3, c2]⟩)
    obtain ⟨he0, hcase⟩ := hcase
    rw [he, hlo, hhi]
    unfold rsz Lib.checkN fin3
    simp only [if_neg (show ¬ b0 < 128 by omega), if_neg (show ¬ (194 ≤ b0 ∧ b0 < 224) by omega), if_pos (show 224 ≤ b0 ∧ b0 < 240 by omega), if_neg (show ¬ (3 : Nat) = 2 by omega), if_true]
    repeat' split
    all_goals first | rfl | (exfalso; omega)
  by_cases c3 : b0 < 245
  · obtain ⟨lo, hi, he, hlo, hhi, hcase⟩ : ∃ lo hi, Lib.firstT b0 % 8 = 4 ∧ Lib.accLo (Lib.firstT b0 / 16) = lo ∧ Lib.accHi (Lib.firstT b0 / 16) = hi ∧ ((b0 = 240 ∧ lo = 144 ∧ hi = 191) ∨ (b0 = 244 ∧ lo = 128 ∧ hi = 143) ∨ (b0 ≠ 240 ∧ b0 ≠ 244 ∧ lo = 128 ∧ hi = 191)) := by
      refine ⟨Lib.accLo (Lib.firstT b0 / 16), Lib.accHi (Lib.firstT b0 / 16), ?_, rfl, rfl, ?_⟩
      · have : b0 = 240 ∨ b0 = 241 ∨ b0 = 242 ∨ b0 = 243 ∨ b0 = 244 := by omega
        rcases this with rfl | rfl | rfl | rfl | rfl <;> decide
      · have : b0 = 240 ∨ b0 = 241 ∨ b0 = 242 ∨ b0 = 243 ∨ b0 = 244 := by omega
        rcases this with rfl | rfl | rfl | rfl | rfl <;> decide
    rw [he, hlo, hhi]
    unfold rsz Lib.checkN fin4
    simp only [if_neg (show ¬ b0 < 128 by omega), if_neg (show ¬ (194 ≤ b0 ∧ b0 < 224) by omega), if_neg (show ¬ (224 ≤ b0 ∧ b0 < 240) by omega), if_pos (show 240 ≤ b0 ∧ b0 < 245 by omega), if_neg (show ¬ (4 : Nat) = 2 by omega), if_neg (show ¬ (4 : Nat) = 3 by omega), if_true]
    repeat' split
    all_goals first | rfl | (exfalso; omega)
  · have e1 : Lib.firstT b0 % 8 = 1 := by
      have h := h0'
      simp [Lib.firstT, show ¬ b0 < 128 by omega, c0, c1, show ¬ b0 = 224 by omega, show ¬ b0 < 237 by omega, show ¬ b0 = 237 by omega, c2, show ¬ b0 = 240 by omega, show ¬ b0 < 244 by omega, show ¬ b0 = 244 by omega]
    rw [e1]
    unfold rsz Lib.checkN
    simp only [if_neg (show ¬ b0 < 128 by omega), if_neg (show ¬ (194 ≤ b0 ∧ b0 < 224) by omega), if_neg (show ¬ (224 ≤ b0 ∧ b0 < 240) by omega), if_neg (show ¬ (240 ≤ b0 ∧ b0 < 245) by omega), if_neg (show ¬ (1 : Nat) = 2 by omega), if_neg (show ¬ (1 : Nat) = 3 by omega), if_neg (show ¬ (1 : Nat) = 4 by omega), if_true]
theorem rsz_le (n b0 b1 b2 b3 : Nat) (h1 : 1 ≤ n) : 0 ≤ rsz n b0 b1 b2 b3 ∧ rsz n b0 b1 b2 b3 ≤ n := by
  unfold rsz fin3 fin4
  repeat' split
  all_goals omega
/-- One sign on. -/
theorem valid_rsz (t : ByteArray) (h0 : 0 < t.size) : Lib.validD t.data.toList = if rsz t.size (by8 t 0) (by8 t 1) (by8 t 2) (by8 t 3) = 0 then false else Lib.validD (t.data.toList.drop (rsz t.size (by8 t 0) (by8 t 1) (by8 t 2) (by8 t 3)).toNat) := by
  have hl : t.data.toList.length = t.size := by simp
  have hne : t.data.toList ≠ [] := fun h => by rw [h] at hl; simp at hl; omega
  by_cases hb : by8 t 0 < 128
  · have e : rsz t.size (by8 t 0) (by8 t 1) (by8 t 2) (by8 t 3) = 1 := by unfold rsz; rw [if_pos hb]
    rw [e, if_neg (by omega)]
    unfold by8 at hb
    obtain ⟨b, r, hbr⟩ := List.exists_cons_of_ne_nil hne
    rw [hbr] at hb ⊢
    exact Lib.validD_cons b r (by simpa using hb)
  · rw [Lib.validD_lead _ hne (by unfold by8 at hb; omega), hl]
    have h := rsz_check t.size (by8 t 0) (by8 t 1) (by8 t 2) (by8 t 3) (by omega) (by8_lt t 0)
    unfold by8 at h ⊢
    rw [h]
    split
    · rename_i h2
      by_cases hz : rsz t.size (t.data.toList.getD 0 0).toNat (t.data.toList.getD 1 0).toNat (t.data.toList.getD 2 0).toNat (t.data.toList.getD 3 0).toNat = 0
      · rw [if_pos hz]
      · rw [if_neg hz] at h2; cases h2
    · rename_i k h2
      by_cases hz : rsz t.size (t.data.toList.getD 0 0).toNat (t.data.toList.getD 1 0).toNat (t.data.toList.getD 2 0).toNat (t.data.toList.getD 3 0).toNat = 0
      · rw [if_pos hz] at h2; cases h2
      · rw [if_neg hz] at h2 ⊢
        injection h2 with h2
        rw [h2]
theorem ext_drop (s : ByteArray) (i : Nat) : (s.extract i s.size).data.toList = s.data.toList.drop i := by
  simp [ByteArray.data_extract, Array.toList_extract, List.extract]
  rw [List.take_of_length_le (by simp)]
/-- The reference's Signs is the decoder's own answer. -/
theorem signs_law (s : ByteArray) (hs : s.size ≤ 4611686018427387904) (d : Nat) : ∀ i : Nat, i ≤ s.size → s.size - i ≤ d → Big (fun k => commonholdref_Signs.l0 k s (i : Int)) (Lib.validD (s.data.toList.drop i)) := by
  induction d with
  | zero =>
    intro i hi hd
    refine Big.succ ?_
    simp only [commonholdref_Signs.l0, if_neg (show ¬ (i : Int) < (s.size : Int) by omega)]
    refine (Big.of true).cast ?_
    rw [List.drop_eq_nil_of_le (by simp; omega)]
    rfl
  | succ d ih =>
    intro i hi hd
    by_cases hlt : i < s.size
    · refine Big.succ ?_
      simp only [commonholdref_Signs.l0, if_pos (show (i : Int) < (s.size : Int) by omega), if_pos (show (0 : Int) ≤ (i : Int) by omega), if_pos (show (i : Int) ≤ (s.size : Int) by omega), Int.toNat_natCast]
      obtain ⟨t, ht⟩ : ∃ t, s.extract i s.size = t := ⟨_, rfl⟩
      have hsz : t.size = s.size - i := by rw [← ht]; simp
      have hdr : s.data.toList.drop i = t.data.toList := by rw [← ht, ext_drop]
      rw [hdr]
      simp only [ht]
      refine Big.bind (rs_law t (by omega)) ?_
      rw [valid_rsz t (by omega)]
      have hle := rsz_le t.size (by8 t 0) (by8 t 1) (by8 t 2) (by8 t 3) (by omega)
      generalize rsz t.size (by8 t 0) (by8 t 1) (by8 t 2) (by8 t 3) = z at *
      by_cases hz : z = 0
      · simp only [if_pos hz]
        exact Big.of _
      · simp only [if_neg hz]
        obtain ⟨zn, rfl⟩ : ∃ zn : Nat, z = (zn : Int) := ⟨z.toNat, by omega⟩
        have ew : wrap64 ((i : Int) + (zn : Int)) = ((i + zn : Nat) : Int) := by rw [w64 (by omega) (by omega)]; omega
        simp only [ew]
        refine (ih (i + zn) (by omega) (by omega)).cast ?_
        rw [← hdr, List.drop_drop]
        simp
    · refine Big.succ ?_
      simp only [commonholdref_Signs.l0, if_neg (show ¬ (i : Int) < (s.size : Int) by omega)]
      refine (Big.of true).cast ?_
      rw [List.drop_eq_nil_of_le (by simp; omega)]
      rfl
theorem signs_f (s : ByteArray) (hs : s.size ≤ 4611686018427387904) : Big (fun k => commonholdref_Signs.f k s) (Lib.validD s.data.toList) := by
  simpa [commonholdref_Signs.f] using signs_law s hs s.size 0 (by omega) (by omega)
theorem xor63 (m : Nat) (h : m < 9223372036854775808) : 9223372036854775808 + m = 9223372036854775808 ^^^ m := by
  have e := Nat.two_pow_add_eq_or_of_lt (i := 63) (b := m) (by simpa using h)
  have e1 := e 1
  rw [show (2 : Nat) ^ 63 = 9223372036854775808 from rfl, Nat.mul_one] at e1
  rw [e1]
  apply Nat.eq_of_testBit_eq
  intro i
  rw [Nat.testBit_or, Nat.testBit_xor, show (9223372036854775808 : Nat) = 2 ^ 63 from rfl, Nat.testBit_two_pow]
  by_cases hi : 63 = i
  · subst hi
    rw [Nat.testBit_lt_two_pow (by simpa using h)]
    simp
  · simp [hi]
theorem xor_add (m : Int) (h0 : 0 ≤ m) (h1 : m < 18446744073709551616) : Go.bits .xor .u64 m 9223372036854775808 = IntKind.u64.wrap (m + 9223372036854775808) := by
  rw [IntKind.wrap_u64 (m + 9223372036854775808)]
  obtain ⟨n, rfl⟩ := Int.eq_ofNat_of_zero_le h0
  show IntKind.u64.wrap ((BitVec.ofInt 64 ((n : Nat) : Int) ^^^ BitVec.ofInt 64 ((9223372036854775808 : Nat) : Int)).toNat : Int) = _
  rw [BitVec.ofInt_natCast, BitVec.ofInt_natCast, BitVec.toNat_xor, BitVec.toNat_ofNat, BitVec.toNat_ofNat, Nat.mod_eq_of_lt (by omega), Nat.mod_eq_of_lt (by omega)]
  by_cases hn : n < 9223372036854775808
  · rw [Nat.xor_comm, ← xor63 n hn, IntKind.wrap_u64]
    omega
  · obtain ⟨m, rfl⟩ : ∃ m, n = 9223372036854775808 + m := ⟨n - 9223372036854775808, by omega⟩
    rw [xor63 m (by omega), Nat.xor_comm, ← Nat.xor_assoc, Nat.xor_self, Nat.zero_xor, ← xor63 m (by omega), IntKind.wrap_u64]
    omega

def b8 (l : List Int) : Prop := ∀ x ∈ l, 0 ≤ x ∧ x ≤ 255
theorem rd_b8 {l : List Int} (h : b8 l) (i : Nat) (hi : i < l.length) : 0 ≤ rd l (i : Int) ∧ rd l (i : Int) ≤ 255 := by rw [rd_at l i hi]; exact h _ (List.getElem_mem hi)
theorem rd_drop (l : List Int) (a j : Nat) : rd (l.drop a) (j : Int) = rd l ((a + j : Nat) : Int) := by rw [rd, rd, Int.toNat_natCast, Int.toNat_natCast]; simp [List.getD_eq_getElem?_getD]
/-- One byte more. -/
theorem next_at (l : List Int) (a : Nat) (hn : l.length ≤ 1200) (ha : a < l.length) : key_reader_next.f l (a : Int) = some (rd l (a : Int), true, ((a + 1 : Nat) : Int)) := by
  have e1 : wrap64 ((a : Int) + 1) = ((a + 1 : Nat) : Int) := by rw [w64 (by omega) (by omega)]; omega
  have e2 : wrap64 (((a + 1 : Nat) : Int) - 1) = (a : Int) := by rw [w64 (by omega) (by omega)]; omega
  unfold key_reader_next.f
  rw [if_neg (by omega), e1, e2, if_pos (by omega), if_pos (by omega)]
theorem next_end (l : List Int) : key_reader_next.f l (l.length : Int) = some (0, false, (l.length : Int)) := by
  unfold key_reader_next.f
  rw [if_pos rfl]
/-- The two readers tell the same of the value at a place: an error, or a value and how long it is. -/
def Alike (l : List Int) (a : Nat) (g f : Nat → Option (Int × Int × ByteArray × Int × Int)) : Prop :=
  (∃ e : Int, e ≠ 0 ∧ (∃ x0 x1 x2 x3, Big g (x0, x1, x2, e, x3)) ∧ ∃ y0 y1 y2 y3, Big f (y0, y1, y2, y3, e)) ∨
  ∃ (v0 v1 : Int) (v2 : ByteArray) (c : Nat), 0 < c ∧ a + c ≤ l.length ∧ Big g (v0, v1, v2, 0, ((a + c : Nat) : Int)) ∧ Big f (v0, v1, v2, (c : Int), 0)
theorem Alike.bad {l : List Int} {a : Nat} {g f : Nat → Option (Int × Int × ByteArray × Int × Int)} (e : Int) (he : e ≠ 0) {x0 x1 : Int} {x2 : ByteArray} {x3 : Int} {y0 y1 : Int} {y2 : ByteArray} {y3 : Int} (hg : Big g (x0, x1, x2, e, x3)) (hf : Big f (y0, y1, y2, y3, e)) : Alike l a g f := .inl ⟨e, he, ⟨_, _, _, _, hg⟩, ⟨_, _, _, _, hf⟩⟩
theorem Alike.step {l : List Int} {a : Nat} {g f g' f' : Nat → Option (Int × Int × ByteArray × Int × Int)} (hg : ∀ k, g (k + 1) = g' k) (hf : ∀ k, f (k + 1) = f' k) (h : Alike l a g' f') : Alike l a g f := by
  have G : ∀ {r}, Big g' r → Big g r := fun hr => Big.succ (Big.congr hr hg)
  have F : ∀ {r}, Big f' r → Big f r := fun hr => Big.succ (Big.congr hr hf)
  rcases h with ⟨e, he, ⟨_, _, _, _, h1⟩, _, _, _, _, h2⟩ | ⟨v0, v1, v2, c, hc, hl, h1, h2⟩
  · exact .inl ⟨e, he, ⟨_, _, _, _, G h1⟩, _, _, _, _, F h2⟩
  · exact .inr ⟨v0, v1, v2, c, hc, hl, G h1, F h2⟩
theorem Alike.stepf {l : List Int} {a : Nat} {g f f' : Nat → Option (Int × Int × ByteArray × Int × Int)} (hf : ∀ k, f (k + 1) = f' k) (h : Alike l a g f') : Alike l a g f := by
  have F : ∀ {r}, Big f' r → Big f r := fun hr => Big.succ (Big.congr hr hf)
  rcases h with ⟨e, he, h1, _, _, _, _, h2⟩ | ⟨v0, v1, v2, c, hc, hl, h1, h2⟩
  · exact .inl ⟨e, he, h1, _, _, _, _, F h2⟩
  · exact .inr ⟨v0, v1, v2, c, hc, hl, h1, F h2⟩
theorem str_snoc (acc : List Int) (x : Int) : strOfNums acc ++ strOfNums [x] = strOfNums (acc ++ [x]) := by
  apply ByteArray.ext
  simp [strOfNums]
theorem one_of (m : List Int) (i : Nat) (h : i < m.length) : (m.take (i + 1)).drop i = [rd m (i : Int)] := by
  rw [rd_at m i h, List.drop_take, show i + 1 - i = 1 by omega, List.take_one, List.head?_drop, List.getElem?_eq_getElem h]
  rfl
theorem l1_end (m : List Int) (s : ByteArray) (i : Nat) (h : m.length ≤ i) (k : Nat) : commonholdref_oneValue.l1 (k + 1 + 1) m s (i : Int) = some (0, 0, (⟨#[]⟩ : ByteArray), 0, 5) := by
  simp only [commonholdref_oneValue.l1, commonholdref_oneValue.j2, if_pos (show (i : Int) ≥ (m.length : Int) by omega), if_true]
theorem l1_put (m : List Int) (acc : List Int) (i : Nat) (hn : m.length ≤ 1200) (ha : acc.length ≤ 1200) (h : i < m.length) (hz : rd m (i : Int) ≠ 0) (k : Nat) : commonholdref_oneValue.l1 (k + 1 + 1) m (strOfNums acc) (i : Int) = commonholdref_oneValue.l1 k m (strOfNums (acc ++ [rd m (i : Int)])) ((i + 1 : Nat) : Int) := by
  have e1 : wrap64 ((i : Int) + 1) = ((i + 1 : Nat) : Int) := by rw [w64 (by omega) (by omega)]; omega
  have hs : (strOfNums acc).size = acc.length := strOfNums_size acc
  have hs1 : (strOfNums [rd m (i : Int)]).size = 1 := strOfNums_size _
  simp only [commonholdref_oneValue.l1, commonholdref_oneValue.j2, if_neg (show ¬ ((i : Int) ≥ (m.length : Int)) by omega), if_pos (show (0 : Int) ≤ (i : Int) by omega), if_pos (show (i : Int) < (m.length : Int) by omega), if_neg hz, if_neg (show ¬ (false = true) by decide), e1, Int.toNat_natCast, one_of m i h, if_pos (show (i : Int) ≤ ((i + 1 : Nat) : Int) by omega), if_pos (show ((i + 1 : Nat) : Int) ≤ (m.length : Int) by omega), hs, hs1, if_pos (show acc.length + 1 ≤ 9223372036854775807 by omega), str_snoc]
theorem l1_last (m : List Int) (s : ByteArray) (i : Nat) (hn : m.length ≤ 1200) (h : i + 1 = m.length) (hz : rd m (i : Int) = 0) (k : Nat) : commonholdref_oneValue.l1 (k + 1 + 1) m s (i : Int) = some (0, 0, (⟨#[]⟩ : ByteArray), 0, 5) := by
  have e1 : wrap64 ((i : Int) + 1) = ((i + 1 : Nat) : Int) := by rw [w64 (by omega) (by omega)]; omega
  simp only [commonholdref_oneValue.l1, commonholdref_oneValue.j2, if_neg (show ¬ ((i : Int) ≥ (m.length : Int)) by omega), if_pos (show (0 : Int) ≤ (i : Int) by omega), if_pos (show (i : Int) < (m.length : Int) by omega), if_pos hz, e1, show decide (((i + 1 : Nat) : Int) ≥ (m.length : Int)) = true from decide_eq_true (by omega), if_true]
theorem l1_zero (m : List Int) (acc : List Int) (i : Nat) (hn : m.length ≤ 1200) (ha : acc.length ≤ 1200) (h : i + 1 < m.length) (hz : rd m (i : Int) = 0) (k : Nat) : commonholdref_oneValue.l1 (k + 1 + 1) m (strOfNums acc) (i : Int) = if rd m ((i + 1 : Nat) : Int) = 1 then (if ((strOfNums acc).size : Int) > 40 then some (0, 0, (⟨#[]⟩ : ByteArray), 0, 1) else (commonholdref_Signs.f k (strOfNums acc)).bind fun t => if t = true then some (3, 0, strOfNums acc, ((i + 2 : Nat) : Int), 0) else some (0, 0, (⟨#[]⟩ : ByteArray), 0, 4)) else if rd m ((i + 1 : Nat) : Int) = 255 then commonholdref_oneValue.l1 k m (strOfNums (acc ++ [0])) ((i + 2 : Nat) : Int) else some (0, 0, (⟨#[]⟩ : ByteArray), 0, 4) := by
  have e1 : wrap64 ((i : Int) + 1) = ((i + 1 : Nat) : Int) := by rw [w64 (by omega) (by omega)]; omega
  have e2 : wrap64 ((i : Int) + 2) = ((i + 2 : Nat) : Int) := by rw [w64 (by omega) (by omega)]; omega
  have hs : (strOfNums acc).size = acc.length := strOfNums_size acc
  have hs1 : (strOfNums [(0 : Int)]).size = 1 := strOfNums_size _
  simp only [commonholdref_oneValue.l1, commonholdref_oneValue.j2, if_neg (show ¬ ((i : Int) ≥ (m.length : Int)) by omega), if_pos (show (0 : Int) ≤ (i : Int) by omega), if_pos (show (i : Int) < (m.length : Int) by omega), if_pos hz, e1, e2, show decide (((i + 1 : Nat) : Int) ≥ (m.length : Int)) = false from decide_eq_false (by omega), if_neg (show ¬ (false = true) by decide), Int.toNat_natCast, one_of m i (by omega), hz, if_pos (show (i : Int) ≤ ((i + 1 : Nat) : Int) by omega), if_pos (show ((i + 1 : Nat) : Int) ≤ (m.length : Int) by omega), if_pos (show (0 : Int) ≤ ((i + 1 : Nat) : Int) by omega), if_pos (show ((i + 1 : Nat) : Int) < (m.length : Int) by omega), hs, hs1, if_pos (show acc.length + 1 ≤ 9223372036854775807 by omega), str_snoc, if_true]
theorem or8 (x b : Int) (hx : 0 ≤ x ∧ x < 18446744073709551616) (hb : 0 ≤ b ∧ b ≤ 255) : Go.bits .or .u64 (IntKind.u64.wrap (x * 256)) (IntKind.u64.wrap b) = IntKind.u64.wrap (IntKind.u64.wrap (x * 256) + IntKind.u64.wrap b) ∧ 0 ≤ IntKind.u64.wrap (IntKind.u64.wrap (x * 256) + IntKind.u64.wrap b) ∧ IntKind.u64.wrap (IntKind.u64.wrap (x * 256) + IntKind.u64.wrap b) < 18446744073709551616 := by
  rw [IntKind.wrap_u64 (x * 256), IntKind.wrap_u64 b, IntKind.wrap_u64 (_ + _)]
  have eb : b % 18446744073709551616 = b := by omega
  obtain ⟨m, hm, hm2⟩ : ∃ m : Nat, x * 256 % 18446744073709551616 = ((m * 256 : Nat) : Int) ∧ m * 256 < 18446744073709551616 := ⟨(x * 256 % 18446744073709551616 / 256).toNat, by omega, by omega⟩
  obtain ⟨n, rfl⟩ := Int.eq_ofNat_of_zero_le hb.1
  rw [eb, hm]
  refine ⟨?_, by omega, by omega⟩
  have e := Go.u64_or_nat (m * 256) n hm2 (by omega)
  rw [e]
  have h2 := Nat.two_pow_add_eq_or_of_lt (i := 8) (b := n) (by omega) m
  rw [show (2 : Nat) ^ 8 = 256 from rfl, Nat.mul_comm] at h2
  rw [← h2]
  omega
/-- A number of 64 bits. -/
def U64 (x : Int) : Prop := 0 ≤ x ∧ x < 18446744073709551616
theorem or8' (x b : Int) (hx : U64 x) (hb : 0 ≤ b ∧ b ≤ 255) : Go.bits .or .u64 (IntKind.u64.wrap (x * 256)) (IntKind.u64.wrap b) = IntKind.u64.wrap (IntKind.u64.wrap (x * 256) + IntKind.u64.wrap b) ∧ U64 (IntKind.u64.wrap (IntKind.u64.wrap (x * 256) + IntKind.u64.wrap b)) := by
  obtain ⟨h1, h2, h3⟩ := or8 x b hx hb
  exact ⟨h1, h2, h3⟩
theorem end8 (x : Int) (hx : U64 x) : wrap64 (Go.bits .xor .u64 x 9223372036854775808) = wrap64 (IntKind.u64.wrap (x - 9223372036854775808)) := by
  rw [xor_add x hx.1 hx.2, IntKind.wrap_u64, IntKind.wrap_u64]
  congr 1
  omega
/-- Numbers: what is left of eight bytes. -/
theorem num_short (l : List Int) (hn : l.length ≤ 1200) : ∀ (d i a : Nat) (x : Int), l.length - a = d → a ≤ l.length → i < 8 → l.length < a + (8 - i) → Big (fun k => key_reader_number.l0 k x (i : Int) l (a : Int)) (0, 0, (⟨#[]⟩ : ByteArray), 5, (l.length : Int))
  | 0, i, a, x, hd, ha, hi, hs => by
    obtain rfl : a = l.length := by omega
    refine Big.succ ?_
    simp only [key_reader_number.l0, if_pos (show (i : Int) < 8 by omega), next_end, Option.bind_some, if_neg (show ¬ (false = true) by decide)]
    exact Big.of _
  | d + 1, i, a, x, hd, ha, hi, hs => by
    refine Big.succ ?_
    have e1 : wrap64 ((i : Int) + 1) = ((i + 1 : Nat) : Int) := by rw [w64 (by omega) (by omega)]; omega
    simp only [key_reader_number.l0, if_pos (show (i : Int) < 8 by omega), next_at l a hn (by omega), Option.bind_some, if_true, e1]
    exact num_short l hn d (i + 1) (a + 1) _ (by omega) (by omega) (by omega) (by omega)
theorem num_both (l : List Int) (hb : b8 l) (hn : l.length ≤ 1200) (a0 : Nat) (h9 : a0 + 9 ≤ l.length) : ∀ (d i : Nat) (x : Int), 8 - i = d → i ≤ 8 → U64 x → ∃ v : Int, Big (fun k => key_reader_number.l0 k x (i : Int) l ((a0 + 1 + i : Nat) : Int)) (2, v, (⟨#[]⟩ : ByteArray), 0, ((a0 + 9 : Nat) : Int)) ∧ Big (fun k => commonholdref_oneValue.l0 k (l.drop a0) x ((i + 1 : Nat) : Int)) (2, v, (⟨#[]⟩ : ByteArray), 9, 0)
  | 0, i, x, hd, hi, hx => by
    obtain rfl : i = 8 := by omega
    refine ⟨wrap64 (IntKind.u64.wrap (x - 9223372036854775808)), ?_, ?_⟩
    · refine Big.succ ?_
      simp only [key_reader_number.l0, if_neg (show ¬ (((8 : Nat) : Int) < 8) by omega)]
      rw [end8 x hx]
      exact Big.of _
    · refine Big.succ ?_
      simp only [commonholdref_oneValue.l0, if_neg (show ¬ (((8 + 1 : Nat) : Int) < 9) by omega)]
      exact Big.of _
  | d + 1, i, x, hd, hi, hx => by
    have hi8 : i < 8 := by omega
    have hl : (l.drop a0).length = l.length - a0 := List.length_drop
    obtain ⟨e2, e3⟩ := or8' x (rd l ((a0 + 1 + i : Nat) : Int)) hx (rd_b8 hb _ (by omega))
    obtain ⟨v, h1, h2⟩ := num_both l hb hn a0 h9 d (i + 1) _ (by omega) (by omega) e3
    refine ⟨v, ?_, ?_⟩
    · refine Big.succ ?_
      have e1 : wrap64 ((i : Int) + 1) = ((i + 1 : Nat) : Int) := by rw [w64 (by omega) (by omega)]; omega
      simp only [key_reader_number.l0, if_pos (show (i : Int) < 8 by omega), next_at l (a0 + 1 + i) hn (by omega), Option.bind_some, if_true, e1, e2]
      exact h1
    · refine Big.succ ?_
      have e1 : wrap64 (((i + 1 : Nat) : Int) + 1) = ((i + 1 + 1 : Nat) : Int) := by rw [w64 (by omega) (by omega)]; omega
      simp only [commonholdref_oneValue.l0, if_pos (show ((i + 1 : Nat) : Int) < 9 by omega), if_pos (show (0 : Int) ≤ ((i + 1 : Nat) : Int) by omega), if_pos (show ((i + 1 : Nat) : Int) < ((l.drop a0).length : Int) by omega), e1, rd_drop, show a0 + (i + 1) = a0 + 1 + i by omega]
      exact h2
theorem valid_f (acc : List Int) (h : b8 acc) : utf8_Valid.f acc = some (Lib.validD (strOfNums acc).data.toList) := by
  unfold utf8_Valid.f
  rw [if_pos (show ∀ x ∈ acc, 0 ≤ x ∧ x ≤ 255 from h)]
  rfl
/-- Texts: from the same place with the same text so far. -/
theorem text_both (l : List Int) (hb : b8 l) (hn : l.length ≤ 1200) (a0 : Nat) : ∀ (d i : Nat) (acc : List Int), l.length - (a0 + i) ≤ d → 1 ≤ i → a0 + i ≤ l.length → acc.length ≤ i → b8 acc → Alike l a0 (fun k => key_reader_text.l0 k acc l ((a0 + i : Nat) : Int)) (fun k => commonholdref_oneValue.l1 k (l.drop a0) (strOfNums acc) (i : Int)) := by
  intro d
  induction d with
  | zero =>
    intro i acc hd h1 hi ha hab
    have hl : (l.drop a0).length = l.length - a0 := List.length_drop
    have hg : ∀ k, key_reader_text.l0 (k + 1) acc l ((a0 + i : Nat) : Int) = some (0, 0, (⟨#[]⟩ : ByteArray), 5, (l.length : Int)) := by
      intro k
      rw [show a0 + i = l.length by omega]
      simp only [key_reader_text.l0, next_end, Option.bind_some, if_neg (show ¬ (false = true) by decide)]
    exact Alike.bad 5 (by decide) (Big.succ (Big.eq hg)) (Big.succ (Big.succ (Big.eq fun k => l1_end _ _ i (by omega) k)))
  | succ d ih =>
    intro i acc hd h1 hi ha hab
    have hl : (l.drop a0).length = l.length - a0 := List.length_drop
    by_cases he : a0 + i = l.length
    · exact ih i acc (by omega) h1 hi ha hab
    · have hnx := next_at l (a0 + i) hn (by omega)
      have hdr : rd (l.drop a0) (i : Int) = rd l ((a0 + i : Nat) : Int) := rd_drop l a0 i
      have hr := rd_b8 hb (a0 + i) (by omega)
      by_cases hz : rd l ((a0 + i : Nat) : Int) = 0
      · by_cases hlast : a0 + i + 1 = l.length
        · have hg : ∀ k, key_reader_text.l0 (k + 1) acc l ((a0 + i : Nat) : Int) = some (0, 0, (⟨#[]⟩ : ByteArray), 5, (l.length : Int)) := by
            intro k
            simp only [key_reader_text.l0, hnx, Option.bind_some, if_true, if_pos hz, hlast, next_end, if_neg (show ¬ (false = true) by decide)]
          exact Alike.bad 5 (by decide) (Big.succ (Big.eq hg)) (Big.succ (Big.succ (Big.eq fun k => l1_last _ _ i (by omega) (by omega) (hdr.trans hz) k)))
        · have hnx2 := next_at l (a0 + i + 1) hn (by omega)
          have hdr2 : rd (l.drop a0) ((i + 1 : Nat) : Int) = rd l ((a0 + i + 1 : Nat) : Int) := rd_drop l a0 (i + 1)
          have hsz : (strOfNums acc).size = acc.length := strOfNums_size acc
          have hg : ∀ k, key_reader_text.l0 (k + 1) acc l ((a0 + i : Nat) : Int) = if rd l ((a0 + i + 1 : Nat) : Int) = 255 then key_reader_text.l0 k (acc ++ [0]) l ((a0 + (i + 2) : Nat) : Int) else if rd l ((a0 + i + 1 : Nat) : Int) = 1 then (if (acc.length : Int) > 40 then some (0, 0, (⟨#[]⟩ : ByteArray), 1, ((a0 + (i + 2) : Nat) : Int)) else if Lib.validD (strOfNums acc).data.toList = true then some (3, 0, strOfNums acc, 0, ((a0 + (i + 2) : Nat) : Int)) else some (0, 0, (⟨#[]⟩ : ByteArray), 4, ((a0 + (i + 2) : Nat) : Int))) else some (0, 0, (⟨#[]⟩ : ByteArray), 4, ((a0 + (i + 2) : Nat) : Int)) := by
            intro k
            simp only [key_reader_text.l0, hnx, hnx2, Option.bind_some, if_true, if_pos hz, if_pos (show acc.length < 140737488355328 by omega), valid_f acc hab, show a0 + i + 1 + 1 = a0 + (i + 2) by omega]
          refine Alike.step hg (fun _ => rfl) (Alike.stepf (fun k => l1_zero (l.drop a0) acc i (by omega) (by omega) (by omega) (hdr.trans hz) k) ?_)
          rw [hdr2, hsz]
          by_cases h255 : rd l ((a0 + i + 1 : Nat) : Int) = 255
          · simp only [if_pos h255, if_neg (show ¬ rd l ((a0 + i + 1 : Nat) : Int) = 1 by omega)]
            exact ih (i + 2) _ (by omega) (by omega) (by omega) (by rw [List.length_append]; exact Nat.le_succ_of_le (Nat.succ_le_succ ha)) (by intro x hx; rcases List.mem_append.1 hx with h | h; exact hab x h; rw [List.mem_singleton.1 h]; exact ⟨by decide, by decide⟩)
          · by_cases h01 : rd l ((a0 + i + 1 : Nat) : Int) = 1
            · simp only [if_neg h255, if_pos h01]
              by_cases h40 : (acc.length : Int) > 40
              · simp only [if_pos h40]
                exact Alike.bad 1 (by decide) (Big.of _) (Big.of _)
              · simp only [if_neg h40]
                have hsg := signs_f (strOfNums acc) (by rw [hsz]; omega)
                cases hv : Lib.validD (strOfNums acc).data.toList with
                | true =>
                  rw [hv] at hsg
                  exact .inr ⟨3, 0, strOfNums acc, i + 2, by omega, by omega, Big.of _, Big.bind hsg (Big.of _)⟩
                | false =>
                  rw [hv] at hsg
                  exact Alike.bad 4 (by decide) (Big.of _) (Big.bind hsg (Big.of _))
            · simp only [if_neg h255, if_neg h01]
              exact Alike.bad 4 (by decide) (Big.of _) (Big.of _)
      · have hg : ∀ k, key_reader_text.l0 (k + 1) acc l ((a0 + i : Nat) : Int) = key_reader_text.l0 k (acc ++ [rd l ((a0 + i : Nat) : Int)]) l ((a0 + (i + 1) : Nat) : Int) := by
          intro k
          simp only [key_reader_text.l0, hnx, Option.bind_some, if_true, if_neg hz, if_pos (show acc.length < 140737488355328 by omega), show a0 + i + 1 = a0 + (i + 1) by omega]
        refine Alike.step hg (fun _ => rfl) (Alike.stepf (fun k => l1_put (l.drop a0) acc i (by omega) (by omega) (by omega) (by rw [hdr]; exact hz) k) ?_)
        rw [hdr]
        exact ih (i + 1) _ (by omega) (by omega) (by omega) (by rw [List.length_append]; exact Nat.succ_le_succ ha) (by intro x hx; rcases List.mem_append.1 hx with h | h; exact hab x h; rw [List.mem_singleton.1 h]; exact hr)
theorem Alike.stepg {l : List Int} {a : Nat} {g f g' : Nat → Option (Int × Int × ByteArray × Int × Int)} (hg : ∀ k, g (k + 1) = g' k) (h : Alike l a g' f) : Alike l a g f := by
  have G : ∀ {r}, Big g' r → Big g r := fun hr => Big.succ (Big.congr hr hg)
  rcases h with ⟨e, he, ⟨_, _, _, _, h1⟩, h2⟩ | ⟨v0, v1, v2, c, hc, hl, h1, h2⟩
  · exact .inl ⟨e, he, ⟨_, _, _, _, G h1⟩, h2⟩
  · exact .inr ⟨v0, v1, v2, c, hc, hl, G h1, h2⟩
theorem bind_eta (o : Option (Int × Int × ByteArray × Int × Int)) : (o.bind fun t => some (t.1, t.2.1, t.2.2.1, t.2.2.2.1, t.2.2.2.2)) = o := by cases o <;> rfl
/-- One value. -/
theorem value_both (l : List Int) (hb : b8 l) (hn : l.length ≤ 1200) (a : Nat) (ha : a < l.length) (n : Int) (hn14 : n ≠ 14) : Alike l a (fun k => key_reader_value.f k l (a : Int) n) (fun k => commonholdref_oneValue.f k (l.drop a)) := by
  have hl : (l.drop a).length = l.length - a := List.length_drop
  have hnx := next_at l a hn ha
  have hdr : rd (l.drop a) (0 : Int) = rd l (a : Int) := rd_drop l a 0
  have hr := rd_b8 hb a ha
  simp only [key_reader_value.f, commonholdref_oneValue.f, if_neg hn14, hnx, Option.bind_some, hdr, if_pos (show (0 : Int) < ((l.drop a).length : Int) by omega)]
  generalize hc : rd l (a : Int) = c
  by_cases h1 : c = 1
  · subst h1
    simp only [if_true]
    exact .inr ⟨0, 0, _, 1, by omega, by omega, Big.of _, Big.of _⟩
  by_cases h2 : c = 2
  · subst h2
    simp only [Int.reduceEq, if_false, if_true]
    exact Alike.step (g' := fun _ => some (1, 0, (⟨#[]⟩ : ByteArray), 0, ((a + 1 : Nat) : Int))) (fun k => by simp [key_reader_value.j0]) (fun _ => rfl) (.inr ⟨1, 0, _, 1, by omega, by omega, Big.of _, Big.of _⟩)
  by_cases h3 : c = 3
  · subst h3
    simp only [Int.reduceEq, if_false, if_true]
    exact Alike.step (g' := fun _ => some (1, 1, (⟨#[]⟩ : ByteArray), 0, ((a + 1 : Nat) : Int))) (fun k => by simp [key_reader_value.j0]) (fun _ => rfl) (.inr ⟨1, 1, _, 1, by omega, by omega, Big.of _, Big.of _⟩)
  simp only [if_neg h1, if_neg h2, if_neg h3, show (c == 3) = false from beq_eq_false_iff_ne.2 h3]
  by_cases h4 : c = 4
  · subst h4
    have hg : ∀ k, key_reader_value.j0 (k + 1) 4 4 false l ((a + 1 : Nat) : Int) = key_reader_number.l0 k 0 0 l ((a + 1 : Nat) : Int) := by
      intro k
      simp only [key_reader_value.j0, key_reader_number.f, bind_eta, Int.reduceEq, if_false, if_true, if_neg (show ¬ (false = true) by decide)]
    simp only [Int.reduceEq, if_false, if_true]
    by_cases h9 : a + 9 ≤ l.length
    · simp only [if_neg (show ¬ ((l.drop a).length : Int) < 9 by omega)]
      obtain ⟨v, g1, g2⟩ := num_both l hb hn a h9 8 0 0 rfl (by omega) ⟨by decide, by decide⟩
      exact Alike.stepg hg (.inr ⟨2, v, _, 9, by omega, h9, g1, g2⟩)
    · simp only [if_pos (show ((l.drop a).length : Int) < 9 by omega)]
      exact Alike.stepg hg (Alike.bad 5 (by decide) (num_short l hn _ 0 (a + 1) 0 rfl (by omega) (by omega) (by omega)) (Big.of _))
  by_cases h5 : c = 5
  · subst h5
    have hg : ∀ k, key_reader_value.j0 (k + 1) 5 5 false l ((a + 1 : Nat) : Int) = key_reader_text.l0 k [] l ((a + 1 : Nat) : Int) := by
      intro k
      simp only [key_reader_value.j0, key_reader_text.f, bind_eta, Int.reduceEq, if_false, if_true, if_neg (show ¬ (false = true) by decide)]
    simp only [Int.reduceEq, if_false, if_true]
    exact Alike.stepg hg (text_both l hb hn a _ 1 [] (Nat.le_refl _) (Nat.le_refl _) (by omega) (Nat.zero_le _) (by intro x hx; cases hx))
  simp only [if_neg h4, if_neg h5]
  refine Alike.step (g' := fun _ => some (0, 0, (⟨#[]⟩ : ByteArray), 3, ((a + 1 : Nat) : Int))) (fun k => ?_) (fun _ => rfl) (Alike.bad 3 (by decide) (Big.of _) (Big.of _))
  simp only [key_reader_value.j0, if_neg h4, if_neg h5, if_neg (show ¬ (false = true) by decide)]
/-- The whole list, from a place on. -/
theorem list_both (l : List Int) (hb : b8 l) (hn : l.length ≤ 1200) : ∀ (d a : Nat) (acc : List S39), l.length - a ≤ d → a ≤ l.length → acc.length ≤ 14 → ∃ (r : List S39 × Int × Int) (K : Nat), (∀ k m, K ≤ k → K ≤ m → key_Decode.l k l m (a : Int) acc = some r) ∧ Big (fun k => commonholdref_Unkeyed.l0 k l acc (a : Int)) r ∧ r.1.length ≤ 14 := by
  intro d
  induction d with
  | zero =>
    intro a acc hd ha hc
    refine ⟨(acc, 0, 0), 1, ?_, ?_, hc⟩
    · intro k m hk hm
      obtain ⟨m, rfl⟩ : ∃ m', m = m' + 1 := ⟨m - 1, by omega⟩
      simp only [key_Decode.l, if_neg (show ¬ (a : Int) < (l.length : Int) by omega)]
    · refine Big.succ ?_
      simp only [commonholdref_Unkeyed.l0, if_neg (show ¬ (a : Int) < (l.length : Int) by omega)]
      exact Big.of _
  | succ d ih =>
    intro a acc hd ha hc
    by_cases he : a = l.length
    · exact ih a acc (by omega) ha hc
    have hal : (a : Int) < (l.length : Int) := by omega
    by_cases h14 : acc.length = 14
    · refine ⟨([], (a : Int), 1), 1, ?_, ?_, Nat.zero_le _⟩
      · intro k m hk hm
        obtain ⟨m, rfl⟩ : ∃ m', m = m' + 1 := ⟨m - 1, by omega⟩
        simp only [key_Decode.l, if_pos hal, key_reader_value.f, h14, show ((14 : Nat) : Int) = 14 from rfl, if_true, Option.bind_some, if_neg (show ¬ (1 : Int) = 0 by decide)]
      · refine Big.succ ?_
        simp only [commonholdref_Unkeyed.l0, if_pos hal, if_pos (show (acc.length : Int) ≥ 14 by omega)]
        exact Big.of _
    have hn14 : (acc.length : Int) ≠ 14 := by omega
    rcases value_both l hb hn a (by omega) (acc.length : Int) hn14 with ⟨e, he0, ⟨_, _, _, _, K, h1⟩, _, _, _, _, h2⟩ | ⟨v0, v1, v2, c, hc0, hl, ⟨K, h1⟩, h2⟩
    · refine ⟨([], (a : Int), e), K + 1, ?_, ?_, Nat.zero_le _⟩
      · intro k m hk hm
        obtain ⟨m, rfl⟩ : ∃ m', m = m' + 1 := ⟨m - 1, by omega⟩
        simp only [key_Decode.l, if_pos hal, h1 k (by omega), Option.bind_some, if_neg he0]
      · refine Big.succ ?_
        simp only [commonholdref_Unkeyed.l0, if_pos hal, if_neg (show ¬ (acc.length : Int) ≥ 14 by omega), if_pos (show (0 : Int) ≤ (a : Int) by omega), if_pos (show (a : Int) ≤ (l.length : Int) by omega), Int.toNat_natCast]
        refine Big.bind h2 ?_
        simp only [if_neg he0]
        exact Big.of _
    · obtain ⟨r, K2, r1, r2, r3⟩ := ih (a + c) (acc ++ [⟨v0, v1, v2⟩]) (by omega) (by omega) (by rw [List.length_append]; simp; omega)
      refine ⟨r, K + K2 + 1, ?_, ?_, r3⟩
      · intro k m hk hm
        obtain ⟨m, rfl⟩ : ∃ m', m = m' + 1 := ⟨m - 1, by omega⟩
        simp only [key_Decode.l, if_pos hal, h1 k (by omega), Option.bind_some, if_true, if_pos (show acc.length < 100000 by omega)]
        exact r1 k m (by omega) (by omega)
      · refine Big.succ ?_
        simp only [commonholdref_Unkeyed.l0, if_pos hal, if_neg (show ¬ (acc.length : Int) ≥ 14 by omega), if_pos (show (0 : Int) ≤ (a : Int) by omega), if_pos (show (a : Int) ≤ (l.length : Int) by omega), Int.toNat_natCast]
        refine Big.bind h2 ?_
        have e1 : wrap64 ((a : Int) + (c : Int)) = ((a + c : Nat) : Int) := by rw [w64 (by omega) (by omega)]; omega
        simp only [if_true, if_pos (show acc.length < 4398046511104 by omega), e1]
        exact r2
theorem same_self (m : List S39) (hm : m.length ≤ 14) : ∀ (d i : Nat), m.length - i ≤ d → i ≤ m.length → Big (fun k => commonholdlaw_sameValues.l0 k m m (i : Int)) true := by
  intro d
  induction d with
  | zero =>
    intro i hd hi
    refine Big.succ ?_
    simp only [commonholdlaw_sameValues.l0, if_neg (show ¬ (i : Int) < (m.length : Int) by omega)]
    exact Big.of _
  | succ d ih =>
    intro i hd hi
    by_cases he : i = m.length
    · exact ih i (by omega) hi
    refine Big.succ ?_
    have e1 : wrap64 ((i : Int) + 1) = ((i + 1 : Nat) : Int) := by rw [w64 (by omega) (by omega)]; omega
    simp only [commonholdlaw_sameValues.l0, if_pos (show (i : Int) < (m.length : Int) by omega), if_pos (show (0 : Int) ≤ (i : Int) by omega), beq_self_eq_true, Bool.not_true, Bool.or_self, if_neg (show ¬ (false = true) by decide), e1]
    exact ih (i + 1) (by omega) (by omega)

end Go.Proofs.YtfkdldaadjhcfaaDoor.Pure.KeyDecodesOf
namespace Go.Proofs.YtfkdldaadjhcfaaDoor.Pure
open Go Go.RowKit Go.Proofs.YtfkdldaadjhcfaaDoor.PKeyDecodes Go.Proofs.YtfkdldaadjhcfaaDoorW.PrintWords Go.Proofs.YtfkdldaadjhcfaaDoorW.PrintLast Go.Proofs.YtfkdldaadjhcfaaDoor.Bg KeyDecodesOf
theorem KeyDecodes : commonholdlaw_KeyDecodes.Pure := by
  intro l hw hs
  have ho : commonholdlaw_octets.f l = some l := by
    have := hs.1
    simp only [commonholdlaw_octets.f, List.nil_append, List.length_nil, Nat.zero_add]
    rw [if_pos (by omega)]
  have hb : b8 l := by
    intro x hx
    have := bounds_u8 (hw.2 x hx)
    omega
  refine Big.to (Big.bind1 ho ?_)
  by_cases hn : l.length ≤ 1200
  · obtain ⟨r, K, h1, h2, h3⟩ := list_both l hb hn l.length 0 [] (by omega) (by omega) (Nat.zero_le _)
    have d1 : Big (fun k => key_Decode.f k l) r := ⟨K, fun k hk => by show key_Decode.f k l = some r; unfold key_Decode.f; rw [if_neg (by omega)]; exact h1 k k hk hk⟩
    have d2 : Big (fun k => commonholdref_Unkeyed.f k l) r := Big.congr h2 (fun k => by show commonholdref_Unkeyed.f k l = _; unfold commonholdref_Unkeyed.f; rw [if_neg (by omega)]; rfl)
    refine Big.bind d1 (Big.bind d2 (Big.bind (r := true) ?_ ?_))
    · refine Big.congr (same_self r.1 h3 r.1.length 0 (by omega) (by omega)) (fun k => ?_)
      unfold commonholdlaw_sameValues.f
      rw [if_pos rfl]
      rfl
    · simp only [if_true, beq_self_eq_true]
      exact Big.of _
  · have d1 : Big (fun k => key_Decode.f k l) ([], 0, 1) := Big.eq (fun k => by show key_Decode.f k l = _; unfold key_Decode.f; rw [if_pos (by omega)])
    have d2 : Big (fun k => commonholdref_Unkeyed.f k l) ([], 0, 1) := Big.eq (fun k => by show commonholdref_Unkeyed.f k l = _; unfold commonholdref_Unkeyed.f; rw [if_pos (by omega)])
    refine Big.bind d1 (Big.bind d2 (Big.bind (r := true) ?_ ?_))
    · refine Big.congr (same_self [] (Nat.zero_le _) 0 0 (by simp) (by simp)) (fun k => ?_)
      unfold commonholdlaw_sameValues.f
      rw [if_pos rfl]
      rfl
    · simp only [if_true, beq_self_eq_true]
      exact Big.of _
end Go.Proofs.YtfkdldaadjhcfaaDoor.Pure
