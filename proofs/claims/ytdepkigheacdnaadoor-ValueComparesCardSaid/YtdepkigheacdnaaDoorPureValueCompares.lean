/- value.Compare answers as its reference does, at any operator and any two values. No condition beyond the statement's own. -/
import Derived.Test.YtdepkigheacdnaaDoorPValueComparesx8
import Derived.Test.YtdepkigheacdnaaDoorBig
import Derived.Lib.ValidLaws
import Derived.Lib.BytesEntry
namespace Go.Proofs.YtdepkigheacdnaaDoor.Pure.ValueComparesOf
open Go Go.RowKit Go.Proofs.YtdepkigheacdnaaDoor.PValueCompares Go.Proofs.YtdepkigheacdnaaDoorW.PrintWords Go.Proofs.YtdepkigheacdnaaDoorW.PrintLast Go.Proofs.YtdepkigheacdnaaDoor.Bg
set_option linter.unusedVariables false
set_option linter.unusedSimpArgs false
/-- A byte of a text. -/
def by8 (t : ByteArray) (i : Nat) : Nat := (t.data.toList.getD i 0).toNat
theorem by8_lt (t : ByteArray) (i : Nat) : by8 t i < 256 := (t.data.toList.getD i 0).toNat_lt
theorem bt_by8 (t : ByteArray) (i : Nat) (h : i < t.size) : bt t (i : Int) = (by8 t i : Int) := by
  rw [bt_at' t i h]
  unfold by8
  have : t.data.toList.getD i 0 = t[i] := by
    rw [List.getD_eq_getElem?_getD, List.getElem?_eq_getElem (by simpa using h)]
    simp
    rfl
  rw [this]
/-- What follows the bytes of a sign. -/
def fin3 (code : Int) : Int := if code < 2048 then 0 else if 55296 ≤ code ∧ code ≤ 57343 then 0 else 3
def fin4 (code : Int) : Int := if code < 65536 then 0 else if code > 1114111 then 0 else 4
theorem rs_end2 (t : ByteArray) (code : Int) : Big (fun k => commonholdref_runeSize.l0 k t 2 code 2) 2 := by
  refine Big.succ ?_
  simp only [commonholdref_runeSize.l0]
  simp only [if_neg (show ¬ (2 : Int) < 2 by omega), if_neg (show ¬ (2 : Int) = 3 by omega), if_neg (show ¬ (2 : Int) = 4 by omega)]
  exact Big.of _
theorem rs_end3 (t : ByteArray) (code : Int) : Big (fun k => commonholdref_runeSize.l0 k t 3 code 3) (fin3 code) := by
  refine Big.succ ?_
  simp only [commonholdref_runeSize.l0]
  simp only [if_neg (show ¬ (3 : Int) < 3 by omega), if_true, if_neg (show ¬ (3 : Int) = 4 by omega)]
  unfold fin3
  by_cases h1 : code < 2048
  · simp only [if_pos h1]; exact Big.of _
  · simp only [if_neg h1]
    by_cases h2 : code ≥ 55296
    · simp only [if_pos h2]
      by_cases h3 : code ≤ 57343
      · simp only [if_pos h3, if_pos (show 55296 ≤ code ∧ code ≤ 57343 from ⟨h2, h3⟩)]; exact Big.of _
      · simp only [if_neg h3, if_neg (show ¬ (55296 ≤ code ∧ code ≤ 57343) by omega)]; exact Big.of _
    · simp only [if_neg h2, if_neg (show ¬ (55296 ≤ code ∧ code ≤ 57343) by omega)]; exact Big.of _
theorem rs_end4 (t : ByteArray) (code : Int) : Big (fun k => commonholdref_runeSize.l0 k t 4 code 4) (fin4 code) := by
  refine Big.succ ?_
  simp only [commonholdref_runeSize.l0]
  simp only [if_neg (show ¬ (4 : Int) < 4 by omega), if_neg (show ¬ (4 : Int) = 3 by omega), if_true]
  unfold fin4
  by_cases h1 : code < 65536
  · simp only [if_pos h1]; exact Big.of _
  · simp only [if_neg h1]
    by_cases h2 : code > 1114111
    · simp only [if_pos h2]; exact Big.of _
    · simp only [if_neg h2]; exact Big.of _
theorem and63 : ∀ b : Nat, b < 256 → Go.bits .and .u8 (b : Int) 63 = ((b % 64 : Nat) : Int) := by decide +kernel
theorem and31 : ∀ b : Nat, b < 256 → Go.bits .and .i64 (b : Int) 31 = ((b % 32 : Nat) : Int) := by decide +kernel
theorem and15 : ∀ b : Nat, b < 256 → Go.bits .and .i64 (b : Int) 15 = ((b % 16 : Nat) : Int) := by decide +kernel
theorem and7 : ∀ b : Nat, b < 256 → Go.bits .and .i64 (b : Int) 7 = ((b % 8 : Nat) : Int) := by decide +kernel
theorem rs_step (t : ByteArray) (n i code : Nat) (r : Int) (hi : i < n) (h4 : n ≤ 4) (hs : i < t.size) (hc : code ≤ 16777216)
    (h : Big (fun k => commonholdref_runeSize.l0 k t (n : Int) ((code * 64 + by8 t i % 64 : Nat) : Int) ((i + 1 : Nat) : Int)) r) :
    Big (fun k => commonholdref_runeSize.l0 k t (n : Int) (code : Int) (i : Int)) (if by8 t i < 128 ∨ 191 < by8 t i then 0 else r) := by
  refine Big.succ ?_
  simp only [commonholdref_runeSize.l0]
  have hb := by8_lt t i
  simp only [if_pos (show (i : Int) < (n : Int) by omega), if_pos (show (0 : Int) ≤ (i : Int) by omega), if_pos (show (i : Int) < (t.size : Int) by omega), bt_by8 t i hs, and63 _ hb]
  have e1 : wrap64 ((by8 t i % 64 : Nat) : Int) = ((by8 t i % 64 : Nat) : Int) := w64 (by omega) (by omega)
  have e2 : wrap64 ((code : Int) * 64) = (code : Int) * 64 := w64 (by omega) (by omega)
  have e3 : wrap64 ((code : Int) * 64 + ((by8 t i % 64 : Nat) : Int)) = ((code * 64 + by8 t i % 64 : Nat) : Int) := by rw [w64 (by omega) (by omega)]; omega
  have e4 : wrap64 ((i : Int) + 1) = ((i + 1 : Nat) : Int) := by rw [w64 (by omega) (by omega)]; omega
  simp only [e1, e2, e3, e4]
  by_cases h1 : ((by8 t i : Nat) : Int) < 128
  · simp only [if_pos h1]
    refine (Big.of 0).cast ?_
    rw [if_pos (.inl (by omega))]
  by_cases h2 : ((by8 t i : Nat) : Int) > 191
  · simp only [if_neg h1, if_pos h2]
    refine (Big.of 0).cast ?_
    rw [if_pos (.inr (by omega))]
  · simp only [if_neg h1, if_neg h2]
    refine h.cast ?_
    rw [if_neg (by omega)]
/-- How wide is the sign that begins a text; 0: there is none. -/
def rsz (n b0 b1 b2 b3 : Nat) : Int :=
  if b0 < 128 then 1
  else if 194 ≤ b0 ∧ b0 < 224 then (if n < 2 then 0 else if b1 < 128 ∨ 191 < b1 then 0 else 2)
  else if 224 ≤ b0 ∧ b0 < 240 then (if n < 3 then 0 else if b1 < 128 ∨ 191 < b1 then 0 else if b2 < 128 ∨ 191 < b2 then 0 else fin3 (((b0 % 16 * 64 + b1 % 64) * 64 + b2 % 64 : Nat) : Int))
  else if 240 ≤ b0 ∧ b0 < 245 then (if n < 4 then 0 else if b1 < 128 ∨ 191 < b1 then 0 else if b2 < 128 ∨ 191 < b2 then 0 else if b3 < 128 ∨ 191 < b3 then 0 else fin4 ((((b0 % 8 * 64 + b1 % 64) * 64 + b2 % 64) * 64 + b3 % 64 : Nat) : Int))
  else 0
theorem rs_j3 (t : ByteArray) (n code : Nat) (hn : n ≤ 4) (h2 : 2 ≤ n) (r : Int) (h : n ≤ t.size → Big (fun k => commonholdref_runeSize.l0 k t (n : Int) (code : Int) 1) r) :
    Big (fun k => commonholdref_runeSize.j2 k t (n : Int) (code : Int)) (if t.size < n then 0 else r) := by
  refine Big.succ (Big.succ ?_)
  simp only [commonholdref_runeSize.j2, commonholdref_runeSize.j3]
  simp only [if_neg (show ¬ (n : Int) = 0 by omega)]
  by_cases hs : (t.size : Int) < (n : Int)
  · simp only [decide_eq_true hs, if_true]
    refine (Big.of 0).cast ?_
    rw [if_pos (by omega)]
  · simp only [decide_eq_false hs, if_neg (show ¬ (false = true) by decide)]
    refine (h (by omega)).cast ?_
    rw [if_neg (by omega)]
theorem rs_none (t : ByteArray) : Big (fun k => commonholdref_runeSize.j2 k t 0 0) 0 := by
  refine Big.succ (Big.succ ?_)
  simp only [commonholdref_runeSize.j2, commonholdref_runeSize.j3, if_true]
  exact Big.of _
set_option maxRecDepth 100000 in
theorem rs_law (t : ByteArray) (h0 : 0 < t.size) : Big (fun k => commonholdref_runeSize.f k t) (rsz t.size (by8 t 0) (by8 t 1) (by8 t 2) (by8 t 3)) := by
  have hb := by8_lt t 0
  have ew : wrap64 (bt t 0) = (by8 t 0 : Int) := by rw [show (0 : Int) = ((0 : Nat) : Int) from rfl, bt_by8 t 0 h0, w64 (by omega) (by omega)]
  simp only [commonholdref_runeSize.f, if_neg (show ¬ (t.size : Int) = 0 by omega), if_pos (show (0 : Int) < (t.size : Int) by omega), ew]
  unfold rsz
  by_cases c1 : by8 t 0 < 128
  · simp only [if_pos (show ((by8 t 0 : Nat) : Int) < 128 by omega), if_pos c1]
    exact Big.of _
  simp only [if_neg (show ¬ ((by8 t 0 : Nat) : Int) < 128 by omega), if_neg c1]
  by_cases c2 : 194 ≤ by8 t 0 ∧ by8 t 0 < 224
  · simp only [if_pos (show ((by8 t 0 : Nat) : Int) ≥ 194 by omega), decide_eq_true (show ((by8 t 0 : Nat) : Int) < 224 by omega), if_pos c2]
    refine Big.succ ?_
    simp only [commonholdref_runeSize.j0, if_true, and31 _ hb]
    refine rs_j3 t 2 _ (by omega) (by omega) _ (fun hs => ?_)
    exact rs_step t 2 1 _ _ (by omega) (by omega) (by omega) (by omega) (rs_end2 t _)
  simp only [if_neg c2]
  by_cases c3 : 224 ≤ by8 t 0 ∧ by8 t 0 < 240
  · simp only [if_pos (show ((by8 t 0 : Nat) : Int) ≥ 194 by omega), decide_eq_false (show ¬ ((by8 t 0 : Nat) : Int) < 224 by omega), if_pos c3]
    refine Big.succ (Big.succ ?_)
    simp only [commonholdref_runeSize.j0, commonholdref_runeSize.j1, if_neg (show ¬ (false = true) by decide), if_pos (show ((by8 t 0 : Nat) : Int) ≥ 224 by omega), decide_eq_true (show ((by8 t 0 : Nat) : Int) < 240 by omega), if_true, and15 _ hb]
    refine rs_j3 t 3 _ (by omega) (by omega) _ (fun hs => ?_)
    exact rs_step t 3 1 _ _ (by omega) (by omega) (by omega) (by omega) (rs_step t 3 2 _ _ (by omega) (by omega) (by omega) (by omega) (rs_end3 t _))
  simp only [if_neg c3]
  by_cases c4 : 240 ≤ by8 t 0 ∧ by8 t 0 < 245
  · simp only [if_pos (show ((by8 t 0 : Nat) : Int) ≥ 194 by omega), decide_eq_false (show ¬ ((by8 t 0 : Nat) : Int) < 224 by omega), if_pos c4]
    refine Big.succ (Big.succ ?_)
    simp only [commonholdref_runeSize.j0, commonholdref_runeSize.j1, if_neg (show ¬ (false = true) by decide), if_pos (show ((by8 t 0 : Nat) : Int) ≥ 224 by omega), decide_eq_false (show ¬ ((by8 t 0 : Nat) : Int) < 240 by omega), if_pos (show ((by8 t 0 : Nat) : Int) ≥ 240 by omega), if_pos (show ((by8 t 0 : Nat) : Int) < 245 by omega), and7 _ hb]
    refine rs_j3 t 4 _ (by omega) (by omega) _ (fun hs => ?_)
    exact rs_step t 4 1 _ _ (by omega) (by omega) (by omega) (by omega) (rs_step t 4 2 _ _ (by omega) (by omega) (by omega) (by omega) (rs_step t 4 3 _ _ (by omega) (by omega) (by omega) (by omega) (rs_end4 t _)))
  simp only [if_neg c4]
  by_cases c5 : ((by8 t 0 : Nat) : Int) ≥ 194
  · simp only [if_pos c5, decide_eq_false (show ¬ ((by8 t 0 : Nat) : Int) < 224 by omega)]
    refine Big.succ (Big.succ ?_)
    simp only [commonholdref_runeSize.j0, commonholdref_runeSize.j1, if_neg (show ¬ (false = true) by decide), if_pos (show ((by8 t 0 : Nat) : Int) ≥ 224 by omega), decide_eq_false (show ¬ ((by8 t 0 : Nat) : Int) < 240 by omega), if_pos (show ((by8 t 0 : Nat) : Int) ≥ 240 by omega), if_neg (show ¬ ((by8 t 0 : Nat) : Int) < 245 by omega)]
    exact rs_none t
  · simp only [if_neg c5]
    refine Big.succ (Big.succ ?_)
    simp only [commonholdref_runeSize.j0, commonholdref_runeSize.j1, if_neg (show ¬ (false = true) by decide), if_neg (show ¬ ((by8 t 0 : Nat) : Int) ≥ 224 by omega), if_neg (show ¬ ((by8 t 0 : Nat) : Int) ≥ 240 by omega)]
    exact rs_none t
/-- The reference's width is what the decoder's tables say. -/
theorem rsz_check (n b0 b1 b2 b3 : Nat) (h0 : 128 ≤ b0) (h0' : b0 < 256) : Lib.checkN n b1 b2 b3 (Lib.firstT b0 % 8) (Lib.accLo (Lib.firstT b0 / 16)) (Lib.accHi (Lib.firstT b0 / 16)) = if rsz n b0 b1 b2 b3 = 0 then none else some (rsz n b0 b1 b2 b3).toNat := by
  by_cases c0 : b0 < 194
  · simp [Lib.firstT, Lib.checkN, rsz, show ¬ b0 < 128 by omega, c0, show ¬ 194 ≤ b0 by omega, show ¬ 224 ≤ b0 by omega, show ¬ 240 ≤ b0 by omega]
  by_cases c1 : b0 < 224
  · have e1 : Lib.firstT b0 = 2 := by simp [Lib.firstT, show ¬ b0 < 128 by omega, c0, c1]
    rw [e1]
    unfold rsz Lib.checkN
    simp only [show (2 : Nat) % 8 = 2 from rfl, show (2 : Nat) / 16 = 0 from rfl, show Lib.accLo 0 = 128 by decide, show Lib.accHi 0 = 191 by decide, if_true, if_neg (show ¬ b0 < 128 by omega), if_pos (show 194 ≤ b0 ∧ b0 < 224 by omega)]
    repeat' split
    all_goals first | rfl | (exfalso; omega)
  by_cases c2 : b0 < 240
  · obtain ⟨e, lo, hi, he, hlo, hhi, hcase⟩ : ∃ e lo hi, Lib.firstT b0 % 8 = 3 ∧ Lib.accLo (Lib.firstT b0 / 16) = lo ∧ Lib.accHi (Lib.firstT b0 / 16) = hi ∧ e = 0 ∧ ((b0 = 224 ∧ lo = 160 ∧ hi = 191) ∨ (b0 = 237 ∧ lo = 128 ∧ hi = 159) ∨ (b0 ≠ 224 ∧ b0 ≠ 237 ∧ lo = 128 ∧ hi = 191)) := by
      refine ⟨0, Lib.accLo (Lib.firstT b0 / 16), Lib.accHi (Lib.firstT b0 / 16), ?_, rfl, rfl, rfl, ?_⟩
      · by_cases d1 : b0 = 224
        · subst d1; decide
        by_cases d2 : b0 < 237
        · simp [Lib.firstT, show ¬ b0 < 128 by omega, c0, c1, d1, d2]
        by_cases d3 : b0 = 237
        · subst d3; decide
        · simp [Lib.firstT, show ¬ b0 < 128 by omega, c0, c1, d1, d2, d3, c2]
      · by_cases d1 : b0 = 224
        · subst d1; exact .inl ⟨rfl, by decide, by decide⟩
        by_cases d2 : b0 < 237
        · exact .inr (.inr ⟨d1, by omega, by simp [Lib.firstT, Lib.accLo, show ¬ b0 < 128 by omega, c0, c1, d1, d2], by simp [Lib.firstT, Lib.accHi, show ¬ b0 < 128 by omega, c0, c1, d1, d2]⟩)
        by_cases d3 : b0 = 237
        · subst d3; exact .inr (.inl ⟨rfl, by decide, by decide⟩)
        · exact .inr (.inr ⟨d1, d3, by simp [Lib.firstT, Lib.accLo, show ¬ b0 < 128 by omega, c0, c1, d1, d2, d3, c2], by simp [Lib.firstT, Lib.accHi, show ¬ b0 < 128 by omega, c0, c1, d1, d2, d3, c2]⟩)
    obtain ⟨he0, hcase⟩ := hcase
    rw [he, hlo, hhi]
    unfold rsz Lib.checkN fin3
    simp only [if_neg (show ¬ b0 < 128 by omega), if_neg (show ¬ (194 ≤ b0 ∧ b0 < 224) by omega), if_pos (show 224 ≤ b0 ∧ b0 < 240 by omega), if_neg (show ¬ (3 : Nat) = 2 by omega), if_true]
    repeat' split
    all_goals first | rfl | (exfalso; omega)
  by_cases c3 : b0 < 245
  · obtain ⟨lo, hi, he, hlo, hhi, hcase⟩ : ∃ lo hi, Lib.firstT b0 % 8 = 4 ∧ Lib.accLo (Lib.firstT b0 / 16) = lo ∧ Lib.accHi (Lib.firstT b0 / 16) = hi ∧ ((b0 = 240 ∧ lo = 144 ∧ hi = 191) ∨ (b0 = 244 ∧ lo = 128 ∧ hi = 143) ∨ (b0 ≠ 240 ∧ b0 ≠ 244 ∧ lo = 128 ∧ hi = 191)) := by
      refine ⟨Lib.accLo (Lib.firstT b0 / 16), Lib.accHi (Lib.firstT b0 / 16), ?_, rfl, rfl, ?_⟩
      · have : b0 = 240 ∨ b0 = 241 ∨ b0 = 242 ∨ b0 = 243 ∨ b0 = 244 := by omega
        rcases this with rfl | rfl | rfl | rfl | rfl <;> decide
      · have : b0 = 240 ∨ b0 = 241 ∨ b0 = 242 ∨ b0 = 243 ∨ b0 = 244 := by omega
        rcases this with rfl | rfl | rfl | rfl | rfl <;> decide
    rw [he, hlo, hhi]
    unfold rsz Lib.checkN fin4
    simp only [if_neg (show ¬ b0 < 128 by omega), if_neg (show ¬ (194 ≤ b0 ∧ b0 < 224) by omega), if_neg (show ¬ (224 ≤ b0 ∧ b0 < 240) by omega), if_pos (show 240 ≤ b0 ∧ b0 < 245 by omega), if_neg (show ¬ (4 : Nat) = 2 by omega), if_neg (show ¬ (4 : Nat) = 3 by omega), if_true]
    repeat' split
    all_goals first | rfl | (exfalso; omega)
  · have e1 : Lib.firstT b0 % 8 = 1 := by
      have h := h0'
      simp [Lib.firstT, show ¬ b0 < 128 by omega, c0, c1, show ¬ b0 = 224 by omega, show ¬ b0 < 237 by omega, show ¬ b0 = 237 by omega, c2, show ¬ b0 = 240 by omega, show ¬ b0 < 244 by omega, show ¬ b0 = 244 by omega]
    rw [e1]
    unfold rsz Lib.checkN
    simp only [if_neg (show ¬ b0 < 128 by omega), if_neg (show ¬ (194 ≤ b0 ∧ b0 < 224) by omega), if_neg (show ¬ (224 ≤ b0 ∧ b0 < 240) by omega), if_neg (show ¬ (240 ≤ b0 ∧ b0 < 245) by omega), if_neg (show ¬ (1 : Nat) = 2 by omega), if_neg (show ¬ (1 : Nat) = 3 by omega), if_neg (show ¬ (1 : Nat) = 4 by omega), if_true]
theorem rsz_le (n b0 b1 b2 b3 : Nat) (h1 : 1 ≤ n) : 0 ≤ rsz n b0 b1 b2 b3 ∧ rsz n b0 b1 b2 b3 ≤ n := by
  unfold rsz fin3 fin4
  repeat' split
  all_goals omega
/-- One sign on. -/
theorem valid_rsz (t : ByteArray) (h0 : 0 < t.size) : Lib.validD t.data.toList = if rsz t.size (by8 t 0) (by8 t 1) (by8 t 2) (by8 t 3) = 0 then false else Lib.validD (t.data.toList.drop (rsz t.size (by8 t 0) (by8 t 1) (by8 t 2) (by8 t 3)).toNat) := by
  have hl : t.data.toList.length = t.size := by simp
  have hne : t.data.toList ≠ [] := fun h => by rw [h] at hl; simp at hl; omega
  by_cases hb : by8 t 0 < 128
  · have e : rsz t.size (by8 t 0) (by8 t 1) (by8 t 2) (by8 t 3) = 1 := by unfold rsz; rw [if_pos hb]
    rw [e, if_neg (by omega)]
    unfold by8 at hb
    obtain ⟨b, r, hbr⟩ := List.exists_cons_of_ne_nil hne
    rw [hbr] at hb ⊢
    exact Lib.validD_cons b r (by simpa using hb)
  · rw [Lib.validD_lead _ hne (by unfold by8 at hb; omega), hl]
    have h := rsz_check t.size (by8 t 0) (by8 t 1) (by8 t 2) (by8 t 3) (by omega) (by8_lt t 0)
    unfold by8 at h ⊢
    rw [h]
    split
    · rename_i h2
      by_cases hz : rsz t.size (t.data.toList.getD 0 0).toNat (t.data.toList.getD 1 0).toNat (t.data.toList.getD 2 0).toNat (t.data.toList.getD 3 0).toNat = 0
      · rw [if_pos hz]
      · rw [if_neg hz] at h2; cases h2
    · rename_i k h2
      by_cases hz : rsz t.size (t.data.toList.getD 0 0).toNat (t.data.toList.getD 1 0).toNat (t.data.toList.getD 2 0).toNat (t.data.toList.getD 3 0).toNat = 0
      · rw [if_pos hz] at h2; cases h2
      · rw [if_neg hz] at h2 ⊢
        injection h2 with h2
        rw [h2]
theorem ext_drop (s : ByteArray) (i : Nat) : (s.extract i s.size).data.toList = s.data.toList.drop i := by
  simp [ByteArray.data_extract, Array.toList_extract, List.extract]
  rw [List.take_of_length_le (by simp)]
/-- The reference's Signs is the decoder's own answer. -/
theorem signs_law (s : ByteArray) (hs : s.size ≤ 4611686018427387904) (d : Nat) : ∀ i : Nat, i ≤ s.size → s.size - i ≤ d → Big (fun k => commonholdref_Signs.l0 k s (i : Int)) (Lib.validD (s.data.toList.drop i)) := by
  induction d with
  | zero =>
    intro i hi hd
    refine Big.succ ?_
    simp only [commonholdref_Signs.l0, if_neg (show ¬ (i : Int) < (s.size : Int) by omega)]
    refine (Big.of true).cast ?_
    rw [List.drop_eq_nil_of_le (by simp; omega)]
    rfl
  | succ d ih =>
    intro i hi hd
    by_cases hlt : i < s.size
    · refine Big.succ ?_
      simp only [commonholdref_Signs.l0, if_pos (show (i : Int) < (s.size : Int) by omega), if_pos (show (0 : Int) ≤ (i : Int) by omega), if_pos (show (i : Int) ≤ (s.size : Int) by omega), Int.toNat_natCast]
      obtain ⟨t, ht⟩ : ∃ t, s.extract i s.size = t := ⟨_, rfl⟩
      have hsz : t.size = s.size - i := by rw [← ht]; simp
      have hdr : s.data.toList.drop i = t.data.toList := by rw [← ht, ext_drop]
      rw [hdr]
      simp only [ht]
      refine Big.bind (rs_law t (by omega)) ?_
      rw [valid_rsz t (by omega)]
      have hle := rsz_le t.size (by8 t 0) (by8 t 1) (by8 t 2) (by8 t 3) (by omega)
      generalize rsz t.size (by8 t 0) (by8 t 1) (by8 t 2) (by8 t 3) = z at *
      by_cases hz : z = 0
      · simp only [if_pos hz]
        exact Big.of _
      · simp only [if_neg hz]
        obtain ⟨zn, rfl⟩ : ∃ zn : Nat, z = (zn : Int) := ⟨z.toNat, by omega⟩
        have ew : wrap64 ((i : Int) + (zn : Int)) = ((i + zn : Nat) : Int) := by rw [w64 (by omega) (by omega)]; omega
        simp only [ew]
        refine (ih (i + zn) (by omega) (by omega)).cast ?_
        rw [← hdr, List.drop_drop]
        simp
    · refine Big.succ ?_
      simp only [commonholdref_Signs.l0, if_neg (show ¬ (i : Int) < (s.size : Int) by omega)]
      refine (Big.of true).cast ?_
      rw [List.drop_eq_nil_of_le (by simp; omega)]
      rfl
theorem signs_f (s : ByteArray) (hs : s.size ≤ 4611686018427387904) : Big (fun k => commonholdref_Signs.f k s) (Lib.validD s.data.toList) := by
  simpa [commonholdref_Signs.f] using signs_law s hs s.size 0 (by omega) (by omega)
theorem or_one (x : Int) (h : -9223372036854775808 ≤ x ∧ x ≤ 9223372036854775807) : Go.bits .or .i64 x 1 = 1 ↔ (x = 0 ∨ x = 1) := by
  have key : Go.bits .or .i64 x 1 = IntKind.i64.wrap (((x % 18446744073709551616).toNat ||| 1 : Nat) : Int) := by
    show IntKind.i64.wrap ((BitVec.ofInt 64 x ||| BitVec.ofInt 64 1).toNat : Int) = _
    rw [BitVec.toNat_or, BitVec.toNat_ofInt, BitVec.toNat_ofInt]
    rfl
  rw [key, IntKind.wrap_i64]
  obtain ⟨a, ha⟩ : ∃ a, (x % 18446744073709551616).toNat = a := ⟨_, rfl⟩
  rw [ha]
  have hlt : a ||| 1 < 2 ^ 64 := Nat.or_lt_two_pow (by omega) (by omega)
  have hle : a ≤ a ||| 1 := Nat.left_le_or
  constructor
  · intro h1
    have : (a ||| 1) = 1 := by omega
    omega
  · rintro (rfl | rfl)
    · have : a = 0 := by omega
      subst this; decide
    · have : a = 1 := by omega
      subst this; decide
/-- What is the matter with a value? -/
def fault (K I : Int) (T : ByteArray) : Int :=
  if K < 0 ∨ 3 < K then 3 else if 40 < T.size then 1
  else if (K = 0 ∧ I = 0 ∧ T.toList = []) ∨ (K = 1 ∧ (I = 0 ∨ I = 1) ∧ T.toList = []) ∨ (K = 2 ∧ T.toList = []) ∨ (K = 3 ∧ I = 0 ∧ Lib.validD T.data.toList = true) then 0 else 4
theorem check_law (K I : Int) (T : ByteArray) (hI : -9223372036854775808 ≤ I ∧ I ≤ 9223372036854775807) : Big (fun k => value_Check.f k K I T) (fault K I T) := by
  have ho := or_one I hI
  simp only [value_Check.f]
  unfold fault
  by_cases h0 : K < 0
  · simp only [if_pos h0]
    refine Big.succ ?_
    simp only [value_Check.j0, if_true]
    exact (Big.of 3).cast (by rw [if_pos (.inl h0)])
  simp only [if_neg h0]
  refine Big.succ ?_
  by_cases h3 : K > 3
  · simp only [value_Check.j0, decide_eq_true h3, if_true]
    exact (Big.of 3).cast (by rw [if_pos (.inr h3)])
  simp only [value_Check.j0, decide_eq_false h3, if_neg (show ¬ (false = true) by decide)]
  rw [if_neg (show ¬ (K < 0 ∨ 3 < K) by omega)]
  by_cases h40 : (T.size : Int) > 40
  · simp only [if_pos h40]
    exact (Big.of 1).cast (by rw [if_pos (by omega)])
  simp only [if_neg h40]
  rw [if_neg (show ¬ 40 < T.size by omega)]
  by_cases k0 : K = 0
  · simp only [if_pos k0]
    by_cases hz : (K == 0 && (I == 0 && (T.toList == ([] : List UInt8)))) = true
    · simp only [if_pos hz]
      refine (Big.of 0).cast ?_
      simp only [Bool.and_eq_true, beq_iff_eq] at hz
      rw [if_pos (.inl hz)]
    · simp only [if_neg hz]
      refine (Big.of 4).cast ?_
      simp only [Bool.and_eq_true, beq_iff_eq] at hz
      rw [if_neg]
      rintro (h | ⟨h, _⟩ | ⟨h, _⟩ | ⟨h, _⟩)
      · exact hz h
      all_goals omega
  simp only [if_neg k0]
  by_cases k1 : K = 1
  · simp only [if_pos k1]
    by_cases hb : Go.bits .or .i64 I 1 = 1
    · simp only [if_pos hb]
      by_cases ht : T.toList = []
      · simp only [if_pos ht]
        exact (Big.of 0).cast (by rw [if_pos (.inr (.inl ⟨k1, ho.1 hb, ht⟩))])
      · simp only [if_neg ht]
        refine (Big.of 4).cast ?_
        rw [if_neg]
        rintro (⟨_, _, h⟩ | ⟨_, _, h⟩ | ⟨_, h⟩ | ⟨h, _⟩)
        · exact ht h
        · exact ht h
        · exact ht h
        · omega
    · simp only [if_neg hb]
      refine (Big.of 4).cast ?_
      rw [if_neg]
      rintro (⟨h, _⟩ | ⟨_, h, _⟩ | ⟨h, _⟩ | ⟨h, _⟩)
      · exact k0 h
      · exact hb (ho.2 h)
      · omega
      · omega
  simp only [if_neg k1]
  by_cases k2 : K = 2
  · simp only [if_pos k2]
    by_cases ht : T.toList = []
    · simp only [if_pos ht]
      exact (Big.of 0).cast (by rw [if_pos (.inr (.inr (.inl ⟨k2, ht⟩)))])
    · simp only [if_neg ht]
      refine (Big.of 4).cast ?_
      rw [if_neg]
      rintro (⟨_, _, h⟩ | ⟨_, _, h⟩ | ⟨_, h⟩ | ⟨h, _⟩)
      · exact ht h
      · exact ht h
      · exact ht h
      · omega
  have k3 : K = 3 := by omega
  simp only [if_neg k2, if_pos k3]
  by_cases i0 : I = 0
  · simp only [if_pos i0]
    refine Big.bind1 (r := Lib.validD T.data.toList) (by unfold utf8_ValidString.f; rw [if_pos (by omega)]) ?_
    by_cases hv : Lib.validD T.data.toList = true
    · simp only [if_pos hv]
      exact (Big.of 0).cast (by rw [if_pos (.inr (.inr (.inr ⟨k3, i0, hv⟩)))])
    · simp only [if_neg hv]
      refine (Big.of 4).cast ?_
      rw [if_neg]
      rintro (⟨h, _⟩ | ⟨h, _⟩ | ⟨h, _⟩ | ⟨_, _, h⟩)
      · omega
      · omega
      · omega
      · exact hv h
  · simp only [if_neg i0]
    refine (Big.of 4).cast ?_
    rw [if_neg]
    rintro (⟨h, _⟩ | ⟨h, _⟩ | ⟨h, _⟩ | ⟨_, h, _⟩)
    · omega
    · omega
    · omega
    · exact i0 h
theorem fault_j1 (K I : Int) (T : ByteArray) (b : Bool) (hb : b = true ↔ ((K ≠ 3 ∧ T.toList ≠ []) ∨ ((K = 0 ∨ K = 3) ∧ I ≠ 0))) (hK : 0 ≤ K ∧ K ≤ 3) (h40 : T.size ≤ 40) :
    Big (fun k => commonholdref_ValueFault.j1 k b K I T) (fault K I T) := by
  unfold fault
  rw [if_neg (show ¬ (K < 0 ∨ 3 < K) by omega), if_neg (show ¬ 40 < T.size by omega)]
  refine Big.succ ?_
  simp only [commonholdref_ValueFault.j1]
  have sg : Big (fun k => (commonholdref_Signs.f k T).bind fun t => if t = true then some (0 : Int) else some 4) (if Lib.validD T.data.toList = true then 0 else 4) := by
    refine Big.bind (signs_f T (by omega)) ?_
    by_cases hv : Lib.validD T.data.toList = true
    · simp only [if_pos hv]; exact Big.of _
    · simp only [if_neg hv]; exact Big.of _
  cases b with
  | true =>
    have hb := hb.1 rfl
    simp only [if_true]
    refine (Big.of 4).cast ?_
    rw [if_neg]
    rintro (⟨h, hi, ht⟩ | ⟨h, _, ht⟩ | ⟨h, ht⟩ | ⟨h, hi, _⟩)
    · rcases hb with ⟨_, h2⟩ | ⟨_, h2⟩
      · exact h2 ht
      · exact h2 hi
    · rcases hb with ⟨_, h2⟩ | ⟨h2, _⟩
      · exact h2 ht
      · omega
    · rcases hb with ⟨_, h2⟩ | ⟨h2, _⟩
      · exact h2 ht
      · omega
    · rcases hb with ⟨h2, _⟩ | ⟨_, h2⟩
      · exact h2 h
      · exact h2 hi
  | false =>
    have hb : ¬ ((K ≠ 3 ∧ T.toList ≠ []) ∨ ((K = 0 ∨ K = 3) ∧ I ≠ 0)) := fun h => by have := hb.2 h; cases this
    simp only [not_or, not_and, Decidable.not_not] at hb
    obtain ⟨b1, b2⟩ := hb
    simp only [if_neg (show ¬ (false = true) by decide)]
    by_cases k1 : K = 1
    · have ht : T.toList = [] := b1 (by omega)
      simp only [if_pos k1, if_neg (show ¬ K = 3 by omega)]
      by_cases i0 : I = 0
      · simp only [if_pos i0]
        exact (Big.of 0).cast (by rw [if_pos (.inr (.inl ⟨k1, .inl i0, ht⟩))])
      · by_cases i1 : I = 1
        · simp only [if_neg i0, if_pos i1]
          exact (Big.of 0).cast (by rw [if_pos (.inr (.inl ⟨k1, .inr i1, ht⟩))])
        · simp only [if_neg i0, if_neg i1]
          refine (Big.of 4).cast ?_
          rw [if_neg]
          rintro (⟨h, _⟩ | ⟨_, h, _⟩ | ⟨h, _⟩ | ⟨h, _⟩)
          · omega
          · rcases h with h | h
            · exact i0 h
            · exact i1 h
          · omega
          · omega
    · simp only [if_neg k1]
      by_cases k3 : K = 3
      · simp only [if_pos k3]
        refine sg.cast ?_
        have i0 := b2 (.inr k3)
        by_cases hv : Lib.validD T.data.toList = true
        · rw [if_pos hv, if_pos (.inr (.inr (.inr ⟨k3, i0, hv⟩)))]
        · rw [if_neg hv, if_neg]
          rintro (⟨h, _⟩ | ⟨h, _⟩ | ⟨h, _⟩ | ⟨_, _, h⟩)
          · omega
          · omega
          · omega
          · exact hv h
      · simp only [if_neg k3]
        have ht : T.toList = [] := b1 k3
        refine (Big.of 0).cast ?_
        rw [if_pos]
        by_cases k0 : K = 0
        · exact .inl ⟨k0, b2 (.inl k0), ht⟩
        · exact .inr (.inr (.inl ⟨by omega, ht⟩))
theorem fault_j0 (K I : Int) (T : ByteArray) (hK : 0 ≤ K ∧ K ≤ 3) : Big (fun k => commonholdref_ValueFault.j0 k false K I T) (fault K I T) := by
  refine Big.succ ?_
  simp only [commonholdref_ValueFault.j0, if_neg (show ¬ (false = true) by decide)]
  by_cases h40 : (T.size : Int) > 40
  · simp only [if_pos h40]
    refine (Big.of 1).cast ?_
    unfold fault
    rw [if_neg (show ¬ (K < 0 ∨ 3 < K) by omega), if_pos (by omega)]
  simp only [if_neg h40]
  by_cases k3 : K = 3
  · simp only [if_pos k3, if_neg (show ¬ K = 0 by omega)]
    exact fault_j1 K I T _ (by simp [k3]) hK (by omega)
  · simp only [if_neg k3]
    by_cases ht : T.toList = []
    · simp only [if_pos ht]
      by_cases k0 : K = 0
      · simp only [if_pos k0]
        exact fault_j1 K I T _ (by simp [k0, ht]) hK (by omega)
      · simp only [if_neg k0]
        exact fault_j1 K I T _ (by simp [k0, k3, ht]) hK (by omega)
    · simp only [if_neg ht]
      exact fault_j1 K I T _ (by simp [k3, ht]) hK (by omega)
theorem fault_law (K I : Int) (T : ByteArray) : Big (fun k => commonholdref_ValueFault.f k K I T) (fault K I T) := by
  simp only [commonholdref_ValueFault.f]
  by_cases k0 : K = 0
  · simp only [if_pos k0]
    exact fault_j0 K I T (by omega)
  by_cases k1 : K = 1
  · simp only [if_neg k0, if_pos k1]
    exact fault_j0 K I T (by omega)
  by_cases k2 : K = 2
  · simp only [if_neg k0, if_neg k1, if_pos k2]
    exact fault_j0 K I T (by omega)
  simp only [if_neg k0, if_neg k1, if_neg k2]
  by_cases k3 : K = 3
  · have : (K != 3) = false := by simp [k3]
    simp only [this]
    exact fault_j0 K I T (by omega)
  · have : (K != 3) = true := by simp [k3]
    simp only [this]
    refine Big.succ ?_
    simp only [commonholdref_ValueFault.j0, if_true]
    refine (Big.of 3).cast ?_
    unfold fault
    rw [if_pos (by omega)]
theorem drop_bytes (s : ByteArray) (i : Nat) (h : i < s.size) : s.data.toList.drop i = s[i] :: s.data.toList.drop (i + 1) := by
  rw [List.drop_eq_getElem_cons (by simpa using h)]
  rfl
/-- textOrder compares as the list does. -/
theorem order_from (s t : ByteArray) (hs : (s.size : Int) ≤ 9223372036854775807) (_ht : (t.size : Int) ≤ 9223372036854775807) (d : Nat) : ∀ i : Nat, i ≤ s.size → i ≤ t.size → s.size - i = d →
    Big (fun k => commonholdref_textOrder.l0 k s t (i : Int)) (Lib.compareBytes (s.data.toList.drop i) (t.data.toList.drop i)) := by
  induction d with
  | zero =>
    intro i h0 h1 hd
    have hi : i = s.size := by omega
    refine Big.succ ?_
    simp only [commonholdref_textOrder.l0]
    simp only [if_neg (show ¬ (i : Int) < (s.size : Int) by omega)]
    refine Big.succ ?_
    simp only [commonholdref_textOrder.j1]
    simp only [if_neg (show ¬ (false = true) by decide)]
    rw [List.drop_eq_nil_of_le (show s.data.toList.length ≤ i by simp; omega)]
    by_cases h : i < t.size
    · simp only [if_pos (show (s.size : Int) < (t.size : Int) by omega)]
      rw [drop_bytes t i h]
      exact Big.of _
    · simp only [if_neg (show ¬ (s.size : Int) < (t.size : Int) by omega), if_neg (show ¬ (s.size : Int) > (t.size : Int) by omega)]
      rw [List.drop_eq_nil_of_le (show t.data.toList.length ≤ i by simp; omega)]
      exact Big.of _
  | succ d ih =>
    intro i h0 h1 hd
    have hi : i < s.size := by omega
    refine Big.succ ?_
    simp only [commonholdref_textOrder.l0]
    simp only [if_pos (show (i : Int) < (s.size : Int) by omega)]
    refine Big.succ ?_
    simp only [commonholdref_textOrder.j1]
    rw [drop_bytes s i hi]
    by_cases h : i < t.size
    · simp only [decide_eq_true (show (i : Int) < (t.size : Int) by omega), if_pos (show (i : Int) < (t.size : Int) by omega), if_pos (show (i : Int) < (s.size : Int) by omega), if_pos (show (0 : Int) ≤ (i : Int) by omega), if_true]
      rw [drop_bytes t i h, bt_at' s i hi, bt_at' t i h]
      simp only [Lib.compareBytes]
      by_cases c1 : s[i] < t[i]
      · have c2 : (s[i].toNat : Int) < (t[i].toNat : Int) := by have := UInt8.lt_iff_toNat_lt.1 c1; omega
        simp only [if_pos c2, if_pos c1]
        exact Big.of _
      · have c2 : ¬ (s[i].toNat : Int) < (t[i].toNat : Int) := fun hc => c1 (UInt8.lt_iff_toNat_lt.2 (by omega))
        by_cases c3 : t[i] < s[i]
        · have c4 : (s[i].toNat : Int) > (t[i].toNat : Int) := by have := UInt8.lt_iff_toNat_lt.1 c3; omega
          simp only [if_neg c2, if_pos c4, if_neg c1, if_pos c3]
          exact Big.of _
        · have c4 : ¬ (s[i].toNat : Int) > (t[i].toNat : Int) := fun hc => c3 (UInt8.lt_iff_toNat_lt.2 (by omega))
          simp only [if_neg c2, if_neg c4, if_neg c1, if_neg c3]
          rw [w64 (x := (i : Int) + 1) (by omega) (by omega)]
          exact ih (i + 1) (by omega) (by omega) (by omega)
    · have hn : t.data.toList.drop i = [] := List.drop_eq_nil_of_le (by simp; omega)
      simp only [decide_eq_false (show ¬ (i : Int) < (t.size : Int) by omega)]
      simp only [if_neg (show ¬ (false = true) by decide), if_neg (show ¬ (s.size : Int) < (t.size : Int) by omega), if_pos (show (s.size : Int) > (t.size : Int) by omega)]
      rw [hn]
      exact Big.of _
theorem order_all (s t : ByteArray) (hs : (s.size : Int) ≤ 9223372036854775807) (ht : (t.size : Int) ≤ 9223372036854775807) :
    Big (fun k => commonholdref_textOrder.f k s t) (Lib.compareBytes s.data.toList t.data.toList) := by
  have h := order_from s t hs ht s.size 0 (by omega) (by omega) (by omega)
  simp only [List.drop_zero] at h
  exact h
theorem cmp_range : ∀ a b : List UInt8, Lib.compareBytes a b = -1 ∨ Lib.compareBytes a b = 0 ∨ Lib.compareBytes a b = 1
  | [], [] => by simp [Lib.compareBytes]
  | [], _ :: _ => by simp [Lib.compareBytes]
  | _ :: _, [] => by simp [Lib.compareBytes]
  | a :: u, b :: v => by
    simp only [Lib.compareBytes]
    split
    · simp
    · split
      · simp
      · exact cmp_range u v
theorem cmp_anti : ∀ a b : List UInt8, Lib.compareBytes b a = -Lib.compareBytes a b
  | [], [] => by simp [Lib.compareBytes]
  | [], _ :: _ => by simp [Lib.compareBytes]
  | _ :: _, [] => by simp [Lib.compareBytes]
  | a :: u, b :: v => by
    simp only [Lib.compareBytes]
    by_cases h1 : a < b
    · have h2 : ¬ b < a := fun h => by have := UInt8.lt_asymm h1 h; exact this
      simp [h1, h2]
    · by_cases h2 : b < a
      · simp [h1, h2]
      · simp only [if_neg h1, if_neg h2]
        exact cmp_anti u v
/-- Which of two values is ahead? -/
def ordv (K I : Int) (T : ByteArray) (K2 I2 : Int) (T2 : ByteArray) : Int := if K < K2 then -1 else if K2 < K then 1 else if I < I2 then -1 else if I2 < I then 1 else Lib.compareBytes T.data.toList T2.data.toList
theorem ordv_range (K I : Int) (T : ByteArray) (K2 I2 : Int) (T2 : ByteArray) : ordv K I T K2 I2 T2 = -1 ∨ ordv K I T K2 I2 T2 = 0 ∨ ordv K I T K2 I2 T2 = 1 := by
  have := cmp_range T.data.toList T2.data.toList
  unfold ordv
  repeat' split
  all_goals first | exact this | simp
theorem ordv_anti (K I : Int) (T : ByteArray) (K2 I2 : Int) (T2 : ByteArray) : ordv K2 I2 T2 K I T = -ordv K I T K2 I2 T2 := by
  have := cmp_anti T.data.toList T2.data.toList
  unfold ordv
  repeat' split
  all_goals first | exact this | rfl | (exfalso; omega)
theorem order_law (K I : Int) (T : ByteArray) (K2 I2 : Int) (T2 : ByteArray) : value_order.f K I T K2 I2 T2 = some (ordv K I T K2 I2 T2) := by
  have hn : ∀ x : Int, (x != x) = false := fun x => by simp
  have hc : ∀ x y : Int, cmp_Compare_int.f x y = some (if x < y then -1 else if x > y then 1 else 0) := fun x y => by
    simp only [cmp_Compare_int.f, cmp_isNaN_int.f, hn, Option.bind_some, if_neg (show ¬ (false = true) by decide)]
    repeat' split
    all_goals rfl
  simp only [value_order.f, hc, Option.bind_some, strings_Compare.f]
  unfold ordv
  by_cases h1 : K < K2
  · simp only [if_pos h1, if_neg (show ¬ (-1 : Int) = 0 by decide)]
  by_cases h2 : K > K2
  · simp only [if_neg h1, if_pos h2, if_neg (show ¬ (1 : Int) = 0 by decide), if_pos (show K2 < K from h2)]
  by_cases h3 : I < I2
  · simp only [if_neg h1, if_neg h2, if_pos h3, if_true, if_neg (show ¬ (-1 : Int) = 0 by decide), if_neg (show ¬ K2 < K from h2)]
  by_cases h4 : I > I2
  · simp only [if_neg h1, if_neg h2, if_neg h3, if_pos h4, if_true, if_neg (show ¬ (1 : Int) = 0 by decide), if_neg (show ¬ K2 < K from h2), if_pos (show I2 < I from h4)]
  · simp only [if_neg h1, if_neg h2, if_neg h3, if_neg h4, if_true, if_neg (show ¬ K2 < K from h2), if_neg (show ¬ I2 < I from h4)]
theorem fault_ok (K I : Int) (T : ByteArray) (h : fault K I T = 0) : T.size ≤ 40 ∧ 0 ≤ K ∧ K ≤ 3 ∧ (K = 3 → I = 0) ∧ (K ≠ 3 → T.toList = []) := by
  unfold fault at h
  split at h
  · omega
  · split at h
    · omega
    · split at h
      · rename_i h1 h2 h3
        refine ⟨by omega, by omega, by omega, ?_, ?_⟩
        · rintro rfl
          rcases h3 with ⟨h, _⟩ | ⟨h, _⟩ | ⟨h, _⟩ | ⟨_, h, _⟩
          · omega
          · omega
          · omega
          · exact h
        · intro hk
          rcases h3 with ⟨_, _, h⟩ | ⟨_, _, h⟩ | ⟨_, h⟩ | ⟨h, _⟩
          · exact h
          · exact h
          · exact h
          · exact absurd h hk
      · omega
theorem ahead_law (K I : Int) (T : ByteArray) (K2 I2 : Int) (T2 : ByteArray) (h1 : fault K I T = 0) (h2 : fault K2 I2 T2 = 0) : Big (fun k => commonholdref_ahead.f k K I T K2 I2 T2) (decide (ordv K I T K2 I2 T2 < 0)) := by
  obtain ⟨s1, a1, b1, c1, d1⟩ := fault_ok K I T h1
  obtain ⟨s2, a2, b2, c2, d2⟩ := fault_ok K2 I2 T2 h2
  simp only [commonholdref_ahead.f]
  unfold ordv
  by_cases he : K = K2
  · simp only [if_pos he, if_neg (show ¬ K < K2 by omega), if_neg (show ¬ K2 < K by omega)]
    by_cases h3 : K = 3
    · have i1 := c1 h3
      have i2 := c2 (by omega)
      simp only [if_pos h3, if_neg (show ¬ I < I2 by omega), if_neg (show ¬ I2 < I by omega)]
      refine Big.bind (order_all T T2 (by omega) (by omega)) ?_
      exact Big.of _
    · have t1 := d1 h3
      have t2 := d2 (by omega)
      have e0 : Lib.compareBytes T.data.toList T2.data.toList = 0 := by
        have z1 : T.data.toList = [] := by rw [← Go.ByteArray.toList_eq]; exact t1
        have z2 : T2.data.toList = [] := by rw [← Go.ByteArray.toList_eq]; exact t2
        rw [z1, z2]; rfl
      simp only [if_neg h3, e0]
      refine (Big.of _).cast ?_
      by_cases hi : I < I2
      · simp [hi]
      · by_cases hi2 : I2 < I
        · simp [hi, hi2]
        · simp [hi, hi2]
  · simp only [if_neg he]
    refine (Big.of _).cast ?_
    by_cases hk : K < K2
    · simp [hk]
    · simp [hk, show K2 < K by omega]
/-- What both answer. -/
def toldo (K I : Int) (T : ByteArray) (K2 I2 : Int) (T2 : ByteArray) : Int × Int := if fault K I T = 0 then (if fault K2 I2 T2 = 0 then (ordv K I T K2 I2 T2, 0) else (0, fault K2 I2 T2)) else (0, fault K I T)
theorem refOrder_law (K I : Int) (T : ByteArray) (K2 I2 : Int) (T2 : ByteArray) : Big (fun k => commonholdref_ValueOrder.f k K I T K2 I2 T2) (toldo K I T K2 I2 T2) := by
  simp only [commonholdref_ValueOrder.f]
  refine Big.bind (fault_law K I T) ?_
  unfold toldo
  by_cases h1 : fault K I T = 0
  · simp only [if_pos h1]
    refine Big.bind (fault_law K2 I2 T2) ?_
    by_cases h2 : fault K2 I2 T2 = 0
    · simp only [if_pos h2]
      refine Big.bind (ahead_law K I T K2 I2 T2 h1 h2) ?_
      have hr := ordv_range K I T K2 I2 T2
      have ha := ordv_anti K I T K2 I2 T2
      by_cases hn : ordv K I T K2 I2 T2 < 0
      · simp only [decide_eq_true hn, if_true]
        exact (Big.of (-1, 0)).cast (by rw [show ordv K I T K2 I2 T2 = -1 by omega])
      · simp only [decide_eq_false hn, if_neg (show ¬ (false = true) by decide)]
        refine Big.bind (ahead_law K2 I2 T2 K I T h2 h1) ?_
        by_cases hp : ordv K2 I2 T2 K I T < 0
        · simp only [decide_eq_true hp, if_true]
          exact (Big.of (1, 0)).cast (by rw [show ordv K I T K2 I2 T2 = 1 by omega])
        · simp only [decide_eq_false hp, if_neg (show ¬ (false = true) by decide)]
          exact (Big.of (0, 0)).cast (by rw [show ordv K I T K2 I2 T2 = 0 by omega])
    · simp only [if_neg h2]; exact Big.of _
  · simp only [if_neg h1]; exact Big.of _
theorem both_law (K I : Int) (T : ByteArray) (K2 I2 : Int) (T2 : ByteArray) (hI : -9223372036854775808 ≤ I ∧ I ≤ 9223372036854775807) (hI2 : -9223372036854775808 ≤ I2 ∧ I2 ≤ 9223372036854775807) :
    Big (fun k => value_both.f k K I T K2 I2 T2) (if fault K I T = 0 then fault K2 I2 T2 else fault K I T) := by
  simp only [value_both.f]
  refine Big.bind (check_law K I T hI) ?_
  by_cases h1 : fault K I T = 0
  · simp only [if_pos h1]
    refine Big.bind (check_law K2 I2 T2 hI2) ?_
    exact Big.of _
  · simp only [if_neg h1]; exact Big.of _
/-- What both answer. -/
def toldc (o K I : Int) (T : ByteArray) (K2 I2 : Int) (T2 : ByteArray) : Int × Int :=
  if o < 13 ∨ 18 < o then (0, 3) else if fault K I T = 0 then (if fault K2 I2 T2 = 0 then (if K = 0 ∨ K2 = 0 then (1, 0) else if K = K2 then (if value_holds.at o (ordv K I T K2 I2 T2) = true then (2, 0) else (0, 0)) else (0, 12)) else (0, fault K2 I2 T2)) else (0, fault K I T)
theorem cmp_j1 (o K I : Int) (T : ByteArray) (K2 I2 : Int) (T2 : ByteArray) (b : Bool) (hb : b = true ↔ (K = 0 ∨ K2 = 0)) (ho : 13 ≤ o ∧ o ≤ 18) :
    Big (fun k => value_Compare.j1 k o b K I T K2 I2 T2) (if K = 0 ∨ K2 = 0 then (1, 0) else if K = K2 then (if value_holds.at o (ordv K I T K2 I2 T2) = true then (2, 0) else (0, 0)) else (0, 12)) := by
  refine Big.succ ?_
  simp only [value_Compare.j1]
  have hr := ordv_range K I T K2 I2 T2
  cases b with
  | true =>
    simp only [if_true]
    exact (Big.of _).cast (by rw [if_pos (hb.1 rfl)])
  | false =>
    have hb : ¬ (K = 0 ∨ K2 = 0) := fun h => by have := hb.2 h; cases this
    simp only [if_neg (show ¬ (false = true) by decide), if_neg hb]
    by_cases he : K = K2
    · simp only [if_pos he, order_law, Option.bind_some, value_holds.f, if_pos (show 13 ≤ o ∧ o ≤ 18 ∧ -1 ≤ ordv K I T K2 I2 T2 ∧ ordv K I T K2 I2 T2 ≤ 1 by omega)]
      by_cases hh : value_holds.at o (ordv K I T K2 I2 T2) = true
      · simp only [if_pos hh]; exact Big.of _
      · simp only [if_neg hh]; exact Big.of _
    · simp only [if_neg he]; exact Big.of _
theorem mine_law (o K I : Int) (T : ByteArray) (K2 I2 : Int) (T2 : ByteArray) (hI : -9223372036854775808 ≤ I ∧ I ≤ 9223372036854775807) (hI2 : -9223372036854775808 ≤ I2 ∧ I2 ≤ 9223372036854775807) : Big (fun k => value_Compare.f k o K I T K2 I2 T2) (toldc o K I T K2 I2 T2) := by
  simp only [value_Compare.f]
  unfold toldc
  by_cases h1 : o < 13
  · simp only [if_pos h1]
    refine Big.succ ?_
    simp only [value_Compare.j0, if_true]
    exact (Big.of _).cast (by rw [if_pos (.inl h1)])
  simp only [if_neg h1]
  refine Big.succ ?_
  by_cases h2 : o > 18
  · simp only [value_Compare.j0, decide_eq_true h2, if_true]
    exact (Big.of _).cast (by rw [if_pos (.inr h2)])
  simp only [value_Compare.j0, decide_eq_false h2, if_neg (show ¬ (false = true) by decide), if_neg (show ¬ (o < 13 ∨ 18 < o) by omega)]
  refine Big.bind (both_law K I T K2 I2 T2 hI hI2) ?_
  by_cases f1 : fault K I T = 0
  · simp only [if_pos f1]
    by_cases f2 : fault K2 I2 T2 = 0
    · simp only [if_pos f2]
      by_cases k0 : K = 0
      · simp only [if_pos k0]
        exact cmp_j1 o K I T K2 I2 T2 true (by simp [k0]) (by omega)
      · simp only [if_neg k0]
        exact cmp_j1 o K I T K2 I2 T2 (K2 == 0) (by simp [k0]) (by omega)
    · simp only [if_neg f2]; exact Big.of _
  · simp only [if_neg f1]; exact Big.of _
set_option maxHeartbeats 2000000 in
theorem refcmp_j1 (o K I : Int) (T : ByteArray) (K2 I2 : Int) (T2 : ByteArray) (b : Bool) (c : Int) (hc : c = -1 ∨ c = 0 ∨ c = 1) (hb : b = true ↔ (K = 0 ∨ K2 = 0)) (ho : 13 ≤ o ∧ o ≤ 18) :
    Big (fun k => commonholdref_ValueCompares.j1 k o c b K I T K2 I2 T2) (if K = 0 ∨ K2 = 0 then (1, 0) else if K = K2 then (if value_holds.at o c = true then (2, 0) else (0, 0)) else (0, 12)) := by
  refine Big.succ ?_
  simp only [commonholdref_ValueCompares.j1]
  cases b with
  | true =>
    simp only [if_true]
    exact (Big.of _).cast (by rw [if_pos (hb.1 rfl)])
  | false =>
    have hb : ¬ (K = 0 ∨ K2 = 0) := fun h => by have := hb.2 h; cases this
    simp only [if_neg (show ¬ (false = true) by decide), if_neg hb]
    by_cases he : K = K2
    · simp only [if_pos he]
      have h0 : o = 13 ∨ o = 14 ∨ o = 15 ∨ o = 16 ∨ o = 17 ∨ o = 18 := by omega
      rcases h0 with rfl | rfl | rfl | rfl | rfl | rfl <;> rcases hc with rfl | rfl | rfl <;> exact ⟨0, fun k _ => rfl⟩
    · simp only [if_neg he]; exact Big.of _
theorem refcmp_j0 (o K I : Int) (T : ByteArray) (K2 I2 : Int) (T2 : ByteArray) (ho : 13 ≤ o ∧ o ≤ 18) : Big (fun k => commonholdref_ValueCompares.j0 k o false K I T K2 I2 T2) (toldc o K I T K2 I2 T2) := by
  refine Big.succ ?_
  simp only [commonholdref_ValueCompares.j0, if_neg (show ¬ (false = true) by decide)]
  refine Big.bind (refOrder_law K I T K2 I2 T2) ?_
  unfold toldc toldo
  have hr := ordv_range K I T K2 I2 T2
  simp only [if_neg (show ¬ (o < 13 ∨ 18 < o) by omega)]
  by_cases f1 : fault K I T = 0
  · simp only [if_pos f1]
    by_cases f2 : fault K2 I2 T2 = 0
    · simp only [if_pos f2, if_true]
      by_cases k0 : K = 0
      · simp only [if_pos k0]
        exact refcmp_j1 o K I T K2 I2 T2 true _ hr (by simp [k0]) ho
      · simp only [if_neg k0]
        exact refcmp_j1 o K I T K2 I2 T2 (K2 == 0) _ hr (by simp [k0]) ho
    · simp only [if_neg f2]; exact Big.of _
  · simp only [if_neg f1]; exact Big.of _
theorem theirs_law (o K I : Int) (T : ByteArray) (K2 I2 : Int) (T2 : ByteArray) : Big (fun k => commonholdref_ValueCompares.f k o K I T K2 I2 T2) (toldc o K I T K2 I2 T2) := by
  simp only [commonholdref_ValueCompares.f]
  by_cases e1 : o = 13
  · simp only [if_pos e1]; exact refcmp_j0 o K I T K2 I2 T2 (by omega)
  by_cases e2 : o = 14
  · simp only [if_neg e1, if_pos e2]; exact refcmp_j0 o K I T K2 I2 T2 (by omega)
  by_cases e3 : o = 15
  · simp only [if_neg e1, if_neg e2, if_pos e3]; exact refcmp_j0 o K I T K2 I2 T2 (by omega)
  by_cases e4 : o = 16
  · simp only [if_neg e1, if_neg e2, if_neg e3, if_pos e4]; exact refcmp_j0 o K I T K2 I2 T2 (by omega)
  by_cases e5 : o = 17
  · simp only [if_neg e1, if_neg e2, if_neg e3, if_neg e4, if_pos e5]; exact refcmp_j0 o K I T K2 I2 T2 (by omega)
  simp only [if_neg e1, if_neg e2, if_neg e3, if_neg e4, if_neg e5]
  by_cases e6 : o = 18
  · have : (o != 18) = false := by simp [e6]
    simp only [this]
    exact refcmp_j0 o K I T K2 I2 T2 (by omega)
  · have : (o != 18) = true := by simp [e6]
    simp only [this]
    refine Big.succ ?_
    simp only [commonholdref_ValueCompares.j0, if_true]
    refine (Big.of _).cast ?_
    unfold toldc
    rw [if_pos (by omega)]

end Go.Proofs.YtdepkigheacdnaaDoor.Pure.ValueComparesOf
namespace Go.Proofs.YtdepkigheacdnaaDoor.Pure
open Go Go.RowKit Go.Proofs.YtdepkigheacdnaaDoor.PValueCompares Go.Proofs.YtdepkigheacdnaaDoorW.PrintWords Go.Proofs.YtdepkigheacdnaaDoorW.PrintLast Go.Proofs.YtdepkigheacdnaaDoor.Bg ValueComparesOf
theorem ValueCompares : commonholdlaw_ValueCompares.Pure := by
  intro o a b ho ha hb
  refine Big.to ?_
  simp only [commonholdlaw_ValueCompares.f]
  refine Big.bind (mine_law _ _ _ _ _ _ _ (bounds_i64 ha.2.1) (bounds_i64 hb.2.1)) ?_
  refine Big.bind (theirs_law _ _ _ _ _ _ _) ?_
  exact (Big.of true).congr (fun k => by simp)
end Go.Proofs.YtdepkigheacdnaaDoor.Pure
