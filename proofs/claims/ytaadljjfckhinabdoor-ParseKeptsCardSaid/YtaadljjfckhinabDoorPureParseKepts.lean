/- parse.Kept answers as its reference does: the search in the sorted words finds just those words. No condition beyond the statement's own. -/
import Derived.Test.YtaadljjfckhinabDoorPParseKeptsx2
import Derived.Test.YtaadljjfckhinabDoorBig
import Derived.Laws.Strings
namespace Go.Proofs.YtaadljjfckhinabDoor.Pure
open Go Go.RowKit Go.Proofs.YtaadljjfckhinabDoor.PParseKepts Go.Proofs.YtaadljjfckhinabDoorW.PrintWords Go.Proofs.YtaadljjfckhinabDoorW.PrintLast Go.Proofs.YtaadljjfckhinabDoorW.PrintMore Go.Proofs.YtaadljjfckhinabDoor.Bg
set_option linter.unusedSimpArgs false
set_option linter.unusedVariables false
namespace Of
theorem list_of (l : List UInt8) : (⟨l.toArray⟩ : ByteArray).toList = l := by rw [ByteArray.toList_eq]
theorem less_asymm : ∀ x y : List UInt8, Op.bytesLess x y = true → Op.bytesLess y x = false
  | [], [], h => by simp [Op.bytesLess] at h
  | _ :: _, [], h => by simp [Op.bytesLess] at h
  | [], _ :: _, _ => by simp [Op.bytesLess]
  | a :: x, b :: y, h => by
    simp only [Op.bytesLess, Bool.or_eq_true, decide_eq_true_eq, Bool.and_eq_true, beq_iff_eq] at h
    simp only [Op.bytesLess, Bool.or_eq_false_iff, decide_eq_false_iff_not, Bool.and_eq_false_iff, beq_eq_false_iff_ne]
    rcases h with h | ⟨rfl, h⟩
    · refine ⟨fun h' => ?_, .inl fun e => ?_⟩
      · have h1 := UInt8.lt_iff_toNat_lt.1 h
        have h2 := UInt8.lt_iff_toNat_lt.1 h'
        omega
      · subst e
        have h1 := UInt8.lt_iff_toNat_lt.1 h
        omega
    · refine ⟨fun h' => ?_, .inr (less_asymm x y h)⟩
      have h1 := UInt8.lt_iff_toNat_lt.1 h'
      omega
theorem less_irr (x : List UInt8) : Op.bytesLess x x = false := by
  cases h : Op.bytesLess x x with
  | false => rfl
  | true =>
    have := less_asymm x x h
    rw [h] at this
    cases this
theorem kept_sorted : ∀ a b : Fin 35, a < b → Op.bytesLess (parse_Kept.bytes.getD a.1 []) (parse_Kept.bytes.getD b.1 []) = true := by decide +kernel
theorem less_f (a b : ByteArray) : cmp_Less_string.f a b = some (Op.bytesLess a.toList b.toList) := by
  unfold cmp_Less_string.f cmp_isNaN_string.f
  simp
theorem nan_f (a : ByteArray) : slices_isNaN_string.f a = some false := by
  unfold slices_isNaN_string.f
  simp
theorem word_at (i : Nat) (h : i < 35) : (rdOf ByteArray.empty parse_Kept.words (i : Int)).toList = parse_Kept.bytes.getD i [] := by
  have hl : i < parse_Kept.bytes.length := h
  unfold rdOf parse_Kept.words
  rw [Int.toNat_natCast, List.getD_eq_getElem?_getD, List.getElem?_map, List.getElem?_eq_getElem hl, List.getD_eq_getElem?_getD, List.getElem?_eq_getElem hl]
  exact list_of _
theorem words_length : parse_Kept.words.length = 35 := rfl
/-- The search, from i up to j. -/
theorem kept_search (s : ByteArray) : ∀ (d i j : Nat), j - i = d → i ≤ j → j ≤ 35 → (∀ a, a < 35 → parse_Kept.bytes.getD a [] = s.toList → i ≤ a ∧ a ≤ j) →
    ∃ r, Big (fun k => slices_BinarySearch_string_string.l0 k parse_Kept.words s 35 (i : Int) (j : Int)) (r, decide (∃ a : Fin 35, parse_Kept.bytes.getD a.1 [] = s.toList)) := by
  intro d
  induction d using Nat.strongRecOn with
  | _ d ih =>
    intro i j hd hij hj hinv
    by_cases hlt : i < j
    · have hm : wrap64 (IntKind.u64.wrap (wrap64 ((i : Int) + (j : Int))) / 2) = (((i + j) / 2 : Nat) : Int) := by
        rw [w64 (x := (i : Int) + j) (by omega) (by omega), show IntKind.u64.wrap ((i : Int) + j) = (i : Int) + j by simp [IntKind.wrap, IntKind.bits, IntKind.signed]; omega, w64 (by omega) (by omega)]
        omega
      have hw := word_at ((i + j) / 2) (by omega)
      cases hl : Op.bytesLess (parse_Kept.bytes.getD ((i + j) / 2) []) s.toList with
      | true =>
        obtain ⟨r, hr⟩ := ih (j - ((i + j) / 2 + 1)) (by omega) ((i + j) / 2 + 1) j rfl (by omega) hj (fun a ha e => by
          obtain ⟨h1, h2⟩ := hinv a ha e
          refine ⟨?_, h2⟩
          rcases Nat.lt_trichotomy a ((i + j) / 2) with h | h | h
          · have := less_asymm _ _ (kept_sorted ⟨a, ha⟩ ⟨(i + j) / 2, by omega⟩ h)
            dsimp only at this
            rw [e, hl] at this
            cases this
          · subst h
            rw [e, less_irr] at hl
            cases hl
          · omega)
        refine ⟨r, Big.succ (Big.congr hr fun k => ?_)⟩
        simp only [slices_BinarySearch_string_string.l0]
        rw [if_pos (by omega), hm, if_pos (by omega), words_length, if_pos (by omega), less_f, hw, hl, Option.bind_some, if_pos rfl, w64 (by omega) (by omega)]
        rfl
      | false =>
        obtain ⟨r, hr⟩ := ih ((i + j) / 2 - i) (by omega) i ((i + j) / 2) rfl (by omega) (by omega) (fun a ha e => by
          obtain ⟨h1, h2⟩ := hinv a ha e
          refine ⟨h1, ?_⟩
          rcases Nat.lt_or_ge ((i + j) / 2) a with h | h
          · have := kept_sorted ⟨(i + j) / 2, by omega⟩ ⟨a, ha⟩ h
            dsimp only at this
            rw [e, hl] at this
            cases this
          · exact h)
        refine ⟨r, Big.succ (Big.congr hr fun k => ?_)⟩
        simp only [slices_BinarySearch_string_string.l0]
        rw [if_pos (by omega), hm, if_pos (by omega), words_length, if_pos (by omega), less_f, hw, hl, Option.bind_some, if_neg (by decide)]
    · obtain rfl : i = j := by omega
      by_cases h35 : i < 35
      · have hw := word_at i h35
        by_cases he : parse_Kept.bytes.getD i [] = s.toList
        · refine ⟨(i : Int), Big.succ (Big.eq fun k => ?_)⟩
          simp only [slices_BinarySearch_string_string.l0]
          rw [if_neg (by omega), if_pos (by omega), if_pos (by omega), words_length, if_pos (by omega), hw, if_pos he, decide_eq_true ⟨⟨i, h35⟩, he⟩]
        · refine ⟨(i : Int), Big.succ (Big.eq fun k => ?_)⟩
          simp only [slices_BinarySearch_string_string.l0]
          rw [if_neg (by omega), if_pos (by omega), if_pos (by omega), words_length, if_pos (by omega), hw, if_neg he, nan_f, Option.bind_some, if_neg (by decide), decide_eq_false]
          rintro ⟨a, ha⟩
          have := hinv a.1 a.2 ha
          exact he (by rw [show i = a.1 by omega]; exact ha)
      · refine ⟨(i : Int), Big.succ (Big.eq fun k => ?_)⟩
        simp only [slices_BinarySearch_string_string.l0]
        rw [if_neg (by omega), if_neg (by omega), decide_eq_false]
        rintro ⟨a, ha⟩
        have := hinv a.1 a.2 ha
        have := a.2
        omega
theorem kept_mem (l : List UInt8) : (∃ a : Fin 35, parse_Kept.bytes.getD a.1 [] = l) ↔ l ∈ parse_Kept.bytes := by
  constructor
  · rintro ⟨a, rfl⟩
    have hl : a.1 < parse_Kept.bytes.length := a.2
    rw [List.getD_eq_getElem?_getD, List.getElem?_eq_getElem hl]
    exact List.getElem_mem hl
  · intro h
    obtain ⟨i, hi, rfl⟩ := List.getElem_of_mem h
    refine ⟨⟨i, hi⟩, ?_⟩
    rw [List.getD_eq_getElem?_getD, List.getElem?_eq_getElem hi]
    rfl
theorem Kept_eq (s : ByteArray) : Big (fun k => parse_Kept.f k s) (decide (s.toList ∈ parse_Kept.bytes)) := by
  obtain ⟨r, h⟩ := kept_search s 35 0 35 rfl (by omega) (by omega) (fun a ha _ => by omega)
  have e : decide (∃ a : Fin 35, parse_Kept.bytes.getD a.1 [] = s.toList) = decide (s.toList ∈ parse_Kept.bytes) := decide_eq_decide.2 (kept_mem _)
  rw [e] at h
  obtain ⟨k0, h⟩ := h
  refine ⟨k0, fun k hk => ?_⟩
  unfold parse_Kept.f slices_BinarySearch_string_string.f
  have := h k hk
  rw [words_length]
  show Option.map _ (slices_BinarySearch_string_string.l0 k parse_Kept.words s 35 0 35) = _
  rw [show slices_BinarySearch_string_string.l0 k parse_Kept.words s 35 0 35 = some (r, decide (s.toList ∈ parse_Kept.bytes)) from this]
  rfl
theorem KeptWord_eq (s : ByteArray) : Big (fun k => commonholdref_KeptWord.f k s) (decide (s.toList ∈ parse_Kept.bytes)) := by
  refine ⟨0 + 1 + 1, fun k hk => at_rounds (fun k => commonholdref_KeptWord.mono s k) hk ?_⟩
  by_cases h : s.toList ∈ parse_Kept.bytes
  · rw [decide_eq_true h]
    simp only [parse_Kept.bytes, List.mem_cons, List.not_mem_nil, or_false] at h
    rcases h with h | h | h | h | h | h | h | h | h | h | h | h | h | h | h | h | h | h | h | h | h | h | h | h | h | h | h | h | h | h | h | h | h | h | h <;> simp [commonholdref_KeptWord.f, commonholdref_KeptWord.j0, commonholdref_KeptWord.j1, h]
  · rw [decide_eq_false h]
    simp only [parse_Kept.bytes, List.mem_cons, List.not_mem_nil, or_false, not_or] at h
    simp [commonholdref_KeptWord.f, commonholdref_KeptWord.j0, commonholdref_KeptWord.j1, h]
end Of
theorem ParseKepts : commonholdlaw_ParseKepts.Pure := by
  intro s _
  refine Big.to ?_
  unfold commonholdlaw_ParseKepts.f
  refine Big.bind (Of.Kept_eq s) ?_
  refine Big.bind (Of.KeptWord_eq s) ?_
  exact Big.eq fun k => by simp
end Go.Proofs.YtaadljjfckhinabDoor.Pure
