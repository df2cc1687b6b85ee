/- meld.May answers as its reference does, at every state. No condition beyond the statement's own. -/
import Derived.Test.YtdepkigheacdnabPMeldSavesx8
import Derived.Test.YtdepkigheacdnabBig
import Derived.Lib.BytesEntry
namespace Go.Proofs.Ytdepkigheacdnab.Pure.MeldSavesOf
open Go Go.RowKit Go.Proofs.Ytdepkigheacdnab.PMeldSaves Go.Proofs.YtdepkigheacdnabW.PrintWords Go.Proofs.YtdepkigheacdnabW.PrintLast Go.Proofs.Ytdepkigheacdnab.Bg
theorem drop_bytes (s : ByteArray) (i : Nat) (h : i < s.size) : s.data.toList.drop i = s[i] :: s.data.toList.drop (i + 1) := by
  rw [List.drop_eq_getElem_cons (by simpa using h)]
  rfl
/-- textOrder compares as the list does. -/
theorem order_from (s t : ByteArray) (hs : (s.size : Int) ≤ 9223372036854775807) (_ht : (t.size : Int) ≤ 9223372036854775807) (d : Nat) : ∀ i : Nat, i ≤ s.size → i ≤ t.size → s.size - i = d →
    Big (fun k => commonholdref_textOrder.l0 k s t (i : Int)) (Lib.compareBytes (s.data.toList.drop i) (t.data.toList.drop i)) := by
  induction d with
  | zero =>
    intro i h0 h1 hd
    have hi : i = s.size := by omega
    refine Big.succ ?_
    simp only [commonholdref_textOrder.l0]
    simp only [if_neg (show ¬ (i : Int) < (s.size : Int) by omega)]
    refine Big.succ ?_
    simp only [commonholdref_textOrder.j1]
    simp only [if_neg (show ¬ (false = true) by decide)]
    rw [List.drop_eq_nil_of_le (show s.data.toList.length ≤ i by simp; omega)]
    by_cases h : i < t.size
    · simp only [if_pos (show (s.size : Int) < (t.size : Int) by omega)]
      rw [drop_bytes t i h]
      exact Big.of _
    · simp only [if_neg (show ¬ (s.size : Int) < (t.size : Int) by omega), if_neg (show ¬ (s.size : Int) > (t.size : Int) by omega)]
      rw [List.drop_eq_nil_of_le (show t.data.toList.length ≤ i by simp; omega)]
      exact Big.of _
  | succ d ih =>
    intro i h0 h1 hd
    have hi : i < s.size := by omega
    refine Big.succ ?_
    simp only [commonholdref_textOrder.l0]
    simp only [if_pos (show (i : Int) < (s.size : Int) by omega)]
    refine Big.succ ?_
    simp only [commonholdref_textOrder.j1]
    rw [drop_bytes s i hi]
    by_cases h : i < t.size
    · simp only [decide_eq_true (show (i : Int) < (t.size : Int) by omega), if_pos (show (i : Int) < (t.size : Int) by omega), if_pos (show (i : Int) < (s.size : Int) by omega), if_pos (show (0 : Int) ≤ (i : Int) by omega), if_true]
      rw [drop_bytes t i h, bt_at' s i hi, bt_at' t i h]
      simp only [Lib.compareBytes]
      by_cases c1 : s[i] < t[i]
      · have c2 : (s[i].toNat : Int) < (t[i].toNat : Int) := by have := UInt8.lt_iff_toNat_lt.1 c1; omega
        simp only [if_pos c2, if_pos c1]
        exact Big.of _
      · have c2 : ¬ (s[i].toNat : Int) < (t[i].toNat : Int) := fun hc => c1 (UInt8.lt_iff_toNat_lt.2 (by omega))
        by_cases c3 : t[i] < s[i]
        · have c4 : (s[i].toNat : Int) > (t[i].toNat : Int) := by have := UInt8.lt_iff_toNat_lt.1 c3; omega
          simp only [if_neg c2, if_pos c4, if_neg c1, if_pos c3]
          exact Big.of _
        · have c4 : ¬ (s[i].toNat : Int) > (t[i].toNat : Int) := fun hc => c3 (UInt8.lt_iff_toNat_lt.2 (by omega))
          simp only [if_neg c2, if_neg c4, if_neg c1, if_neg c3]
          rw [w64 (x := (i : Int) + 1) (by omega) (by omega)]
          exact ih (i + 1) (by omega) (by omega) (by omega)
    · have hn : t.data.toList.drop i = [] := List.drop_eq_nil_of_le (by simp; omega)
      simp only [decide_eq_false (show ¬ (i : Int) < (t.size : Int) by omega)]
      simp only [if_neg (show ¬ (false = true) by decide), if_neg (show ¬ (s.size : Int) < (t.size : Int) by omega), if_pos (show (s.size : Int) > (t.size : Int) by omega)]
      rw [hn]
      exact Big.of _
theorem order_all (s t : ByteArray) (hs : (s.size : Int) ≤ 9223372036854775807) (ht : (t.size : Int) ≤ 9223372036854775807) :
    Big (fun k => commonholdref_textOrder.f k s t) (Lib.compareBytes s.data.toList t.data.toList) := by
  have h := order_from s t hs ht s.size 0 (by omega) (by omega) (by omega)
  simp only [List.drop_zero] at h
  exact h
theorem less_all (a b : List Int) (ha : (a.length : Int) ≤ 9223372036854775807) (hb : (b.length : Int) ≤ 9223372036854775807) :
    Big (fun k => commonholdref_bytesLess.f k a b) (decide (Lib.compareBytes (Lib.bytesOf a) (Lib.bytesOf b) < 0)) := by
  have sz : ∀ l : List Int, (strOfNums l).size = l.length := fun l => by simp [strOfNums, ByteArray.size]
  have e : ∀ l : List Int, (strOfNums l).data.toList = Lib.bytesOf l := fun l => rfl
  have h := order_all (strOfNums a) (strOfNums b) (by rw [sz]; exact ha) (by rw [sz]; exact hb)
  rw [e, e] at h
  unfold commonholdref_bytesLess.f
  exact Big.bind h (Big.of _)

/-- g answers, with enough rounds, whether P holds -/
def Tells (g : Nat → Option Bool) (P : Prop) : Prop := ∃ b : Bool, Big g b ∧ (b = true ↔ P)
theorem Tells.no {P : Prop} (h : ¬ P) : Tells (fun _ => some false) P := ⟨false, Big.of _, by simp [h]⟩
theorem Tells.yes {P : Prop} (h : P) : Tells (fun _ => some true) P := ⟨true, Big.of _, by simp [h]⟩
theorem Tells.succ {g : Nat → Option Bool} {P : Prop} : Tells (fun k => g (k + 1)) P → Tells g P := fun ⟨b, h, e⟩ => ⟨b, Big.succ h, e⟩
theorem Tells.iff {g : Nat → Option Bool} {P Q : Prop} (e : P ↔ Q) : Tells g P → Tells g Q := fun ⟨b, h, f⟩ => ⟨b, h, f.trans e⟩
theorem Tells.congr {g g' : Nat → Option Bool} {P : Prop} (e : ∀ k, g k = g' k) : Tells g' P → Tells g P := fun ⟨b, h, f⟩ => ⟨b, h.congr e, f⟩
theorem Tells.bindE {α : Type} {g : Nat → Option α} {f : Nat → α → Option Bool} {r : α} {P : Prop} (hg : Big g r) : Tells (fun k => f k r) P → Tells (fun k => (g k).bind (f k)) P := fun ⟨b, h, e⟩ => ⟨b, Big.bind hg h, e⟩
theorem Tells.bind {g : Nat → Option Bool} {f : Nat → Bool → Option Bool} {P Q : Prop} (hg : Tells g P) (hT : P → Tells (fun k => f k true) Q) (hF : ¬ P → Tells (fun k => f k false) Q) : Tells (fun k => (g k).bind (f k)) Q := by
  obtain ⟨b, h, e⟩ := hg
  cases b with
  | true => exact Tells.bindE h (hT (e.1 rfl))
  | false => exact Tells.bindE h (hF (fun x => by simpa using e.2 x))

/-- May a cell be, a promise be? -/
abbrev cok (A : Int) (x : S98) : Prop := 1 ≤ x.f0.length ∧ x.f0.length ≤ 1200 ∧ x.f1.length ≤ 4000 ∧ (x.f2 = true → x.f1.length = 0) ∧ 1 ≤ x.f3 ∧ x.f3 ≤ A
abbrev dok (A : Int) (x : S102) : Prop := 1 ≤ x.f0 ∧ x.f0 ≤ 1048576 ∧ 1 ≤ x.f1 ∧ x.f1 ≤ 1048576 ∧ 1 ≤ x.f2 ∧ x.f2 ≤ A
/-- Does one stand ahead of the next? -/
abbrev cah (a b : S98) : Prop := Lib.compareBytes (Lib.bytesOf a.f0) (Lib.bytesOf b.f0) < 0
abbrev dah (a b : S102) : Prop := a.f0 < b.f0 ∨ a.f0 = b.f0 ∧ a.f1 < b.f1

theorem in_ (a b c : Int) : meld_in.f a b c = some (decide (b ≤ a ∧ a ≤ c)) := by
  unfold meld_in.f
  by_cases h : b ≤ a <;> simp [h]

/-! Ascending -/
def ascC : List S98 → Prop
  | [] => True
  | [_] => True
  | a :: b :: r => cah a b ∧ ascC (b :: r)
def ascD : List S102 → Prop
  | [] => True
  | [_] => True
  | a :: b :: r => dah a b ∧ ascD (b :: r)
theorem ascC_at : ∀ l : List S98, ascC l ↔ ∀ j : Nat, j + 1 < l.length → cah (rd_T98 l (j : Int)) (rd_T98 l ((j + 1 : Nat) : Int))
  | [] => by simp [ascC]
  | [_] => by simp [ascC]
  | a :: b :: r => by
    rw [ascC, ascC_at (b :: r)]
    constructor
    · rintro ⟨h0, h1⟩ j hj
      cases j with
      | zero => simpa [rd_T98] using h0
      | succ j =>
        have := h1 j (by simp only [List.length_cons] at hj ⊢; omega)
        simpa only [rd_T98, Int.toNat_natCast, List.getD_cons_succ] using this
    · intro h
      refine ⟨by simpa [rd_T98] using h 0 (by simp), fun j hj => ?_⟩
      have := h (j + 1) (by simp only [List.length_cons] at hj ⊢; omega)
      simpa only [rd_T98, Int.toNat_natCast, List.getD_cons_succ] using this
theorem ascD_at : ∀ l : List S102, ascD l ↔ ∀ j : Nat, j + 1 < l.length → dah (rd_T102 l (j : Int)) (rd_T102 l ((j + 1 : Nat) : Int))
  | [] => by simp [ascD]
  | [_] => by simp [ascD]
  | a :: b :: r => by
    rw [ascD, ascD_at (b :: r)]
    constructor
    · rintro ⟨h0, h1⟩ j hj
      cases j with
      | zero => simpa [rd_T102] using h0
      | succ j =>
        have := h1 j (by simp only [List.length_cons] at hj ⊢; omega)
        simpa only [rd_T102, Int.toNat_natCast, List.getD_cons_succ] using this
    · intro h
      refine ⟨by simpa [rd_T102] using h 0 (by simp), fun j hj => ?_⟩
      have := h (j + 1) (by simp only [List.length_cons] at hj ⊢; omega)
      simpa only [rd_T102, Int.toNat_natCast, List.getD_cons_succ] using this
theorem cells : ∀ l : List S98, Tells (fun _ => api_Cell.f l) (ascC l)
  | [] => Tells.yes trivial
  | [_] => Tells.yes trivial
  | a :: b :: r => by
    have e : api_Cell.f (a :: b :: r) = if cah a b then api_Cell.f (b :: r) else some false := by
      rw [api_Cell.f]
      simp only [meld_byKey.f, bytes_Compare.f, Option.bind_some, cah]
      by_cases h : Lib.compareBytes (Lib.bytesOf a.f0) (Lib.bytesOf b.f0) < 0
      · rw [if_neg (by omega), if_pos h]
      · rw [if_pos (by omega), if_neg h]
    rw [e]
    by_cases h : cah a b
    · rw [if_pos h]
      exact (cells (b :: r)).iff ⟨fun x => ⟨h, x⟩, fun x => x.2⟩
    · rw [if_neg h]
      exact Tells.no fun x => h x.1
theorem cmp_int (a b : Int) : cmp_Compare_int.f a b = some (if a < b then -1 else if a > b then 1 else 0) := by
  simp only [cmp_Compare_int.f, cmp_isNaN_int.f, bne_self_eq_false, Option.bind_some, Bool.false_eq_true, if_false]
  split
  · rfl
  · split <;> rfl
theorem or_int (a b : Int) (k : Nat) : cmp_Or_int.f (k + 3) [a, b] = some (if a = 0 then b else a) := by
  by_cases ha : a = 0 <;> by_cases hb : b = 0 <;> simp [cmp_Or_int.f, cmp_Or_int.l0, rd, wrap64, ha, hb]
theorem name_ (a b : S102) (k : Nat) : ∃ c, meld_byName.f (k + 3) a.f0 a.f1 a.f2 a.f3 b.f0 b.f1 b.f2 b.f3 = some c ∧ (c ≥ 0 ↔ ¬ dah a b) := by
  refine ⟨_, by rw [meld_byName.f, cmp_int, cmp_int]; simp only [Option.bind_some]; rw [or_int]; rfl, ?_⟩
  unfold dah
  by_cases h1 : a.f0 < b.f0
  · simp [h1]
  · by_cases h2 : a.f0 > b.f0
    · simp only [h1, h2, if_true, if_false]
      simp
      omega
    · have h3 : a.f0 = b.f0 := by omega
      by_cases h4 : a.f1 < b.f1
      · simp [h3, h4]
      · by_cases h5 : b.f1 < a.f1 <;> simp [h3, h4, h5]
theorem dones : ∀ l : List S102, Tells (fun k => api_Done.f (k + 3) l) (ascD l)
  | [] => Tells.yes trivial
  | [_] => Tells.yes trivial
  | a :: b :: r => by
    have e : ∀ k, api_Done.f (k + 3) (a :: b :: r) = if dah a b then api_Done.f (k + 3) (b :: r) else some false := by
      intro k
      obtain ⟨c, e, hc⟩ := name_ a b k
      rw [api_Done.f, e, Option.bind_some]
      by_cases h : dah a b
      · rw [if_neg (fun x => hc.1 x h), if_pos h]
      · rw [if_pos (hc.2 h), if_neg h]
    refine Tells.congr e ?_
    by_cases h : dah a b
    · simp only [if_pos h]
      exact (dones (b :: r)).iff ⟨fun x => ⟨h, x⟩, fun x => x.2⟩
    · simp only [if_neg h]
      exact Tells.no fun x => h x.1

/-! The program's loops -/
theorem m1 (A : Int) (c : List S98) (l : List S102) (hl : (l.length : Int) ≤ 9223372036854775807) (d : Nat) : ∀ i : Nat, i + d = l.length →
    Tells (fun k => meld_May.l1 k l (l.length : Int) (i : Int) A c l) (∀ j : Nat, i ≤ j → j < l.length → dok A (rd_T102 l (j : Int))) := by
  induction d with
  | zero =>
    intro i hi
    refine Tells.succ ?_
    simp only [meld_May.l1]
    rw [show (fun _ : Nat => _) = _ from funext fun k => if_neg (by omega)]
    exact Tells.yes fun j h0 h1 => by omega
  | succ d ih =>
    intro i hi
    have e : ∀ k, meld_May.l1 (k + 1) l (l.length : Int) (i : Int) A c l = if dok A (rd_T102 l (i : Int)) then meld_May.l1 k l (l.length : Int) ((i + 1 : Nat) : Int) A c l else some false := by
      intro k
      simp only [meld_May.l1]
      rw [if_pos (by omega), if_pos (by omega), if_pos (by omega), in_, in_, in_, w64 (by omega) (by omega)]
      simp only [Option.bind_some, dok]
      generalize rd_T102 l (i : Int) = x
      by_cases h1 : 1 ≤ x.f0 ∧ x.f0 ≤ 1048576 <;> by_cases h2 : 1 ≤ x.f1 ∧ x.f1 ≤ 1048576 <;> by_cases h3 : 1 ≤ x.f2 ∧ x.f2 ≤ A
      all_goals simp only [h1, h2, h3, decide_true, decide_false, if_true, if_false, Bool.false_eq_true, true_and, and_true, and_self]
      all_goals first | rfl | (rw [if_neg (by omega)]) | (push_cast; rfl)
    refine Tells.succ (Tells.congr e ?_)
    by_cases h : dok A (rd_T102 l (i : Int))
    · simp only [if_pos h]
      refine (ih (i + 1) (by omega)).iff ⟨fun x j h0 h1 => ?_, fun x j h0 h1 => x j (by omega) h1⟩
      by_cases hj : j = i
      · subst hj; exact h
      · exact x j (by omega) h1
    · simp only [if_neg h]
      exact Tells.no fun x => h (x i (Nat.le_refl _) (by omega))
theorem m0 (A : Int) (c : List S98) (l : List S102) (hl : (l.length : Int) ≤ 9223372036854775807) (hc : (c.length : Int) ≤ 9223372036854775807) (d : Nat) : ∀ i : Nat, i + d = c.length →
    Tells (fun k => meld_May.l0 k c (c.length : Int) (i : Int) A c l) ((∀ j : Nat, i ≤ j → j < c.length → cok A (rd_T98 c (j : Int))) ∧ ∀ j : Nat, 0 ≤ j → j < l.length → dok A (rd_T102 l (j : Int))) := by
  induction d with
  | zero =>
    intro i hi
    refine Tells.succ ?_
    simp only [meld_May.l0]
    rw [show (fun _ : Nat => _) = _ from funext fun k => if_neg (by omega)]
    exact (m1 A c l hl l.length 0 (by omega)).iff ⟨fun x => ⟨fun j h0 h1 => by omega, x⟩, fun x => x.2⟩
  | succ d ih =>
    intro i hi
    have e : ∀ k, meld_May.l0 (k + 1) c (c.length : Int) (i : Int) A c l = if cok A (rd_T98 c (i : Int)) then meld_May.l0 k c (c.length : Int) ((i + 1 : Nat) : Int) A c l else some false := by
      intro k
      simp only [meld_May.l0]
      rw [if_pos (by omega), if_pos (by omega), if_pos (by omega)]
      simp only [in_]
      rw [w64 (by omega) (by omega)]
      simp only [Option.bind_some]
      have hn : ((i : Int) + 1) = ((i + 1 : Nat) : Int) := by omega
      rw [hn]
      generalize meld_May.l0 k c (c.length : Int) ((i + 1 : Nat) : Int) A c l = R
      generalize rd_T98 c (i : Int) = x
      by_cases h1 : 1 ≤ (x.f0.length : Int) ∧ (x.f0.length : Int) ≤ 1200
      · rw [decide_eq_true h1, if_pos rfl]
        by_cases h2 : (x.f1.length : Int) > 4000
        · rw [if_pos h2, if_neg (fun h => by have := h.2.2.1; omega)]
        rw [if_neg h2]
        by_cases h3 : 1 ≤ x.f3 ∧ x.f3 ≤ A
        · rw [decide_eq_true h3, if_pos rfl]
          by_cases h4 : x.f2 = true
          · rw [if_pos h4]
            by_cases h5 : (x.f1.length : Int) > 0
            · rw [if_pos h5, if_neg (fun h => by have := h.2.2.2.1 h4; omega)]
            · rw [if_neg h5, if_pos ⟨by omega, by omega, by omega, fun _ => by omega, h3⟩]
          · rw [if_neg h4, if_pos ⟨by omega, by omega, by omega, fun h => absurd h h4, h3⟩]
        · rw [decide_eq_false h3, if_neg (c := cok A x) (fun h => h3 h.2.2.2.2)]
          simp only [Bool.false_eq_true, if_false]
          split
          · split <;> rfl
          · rfl
      · rw [decide_eq_false h1, if_neg (by simp), if_neg (fun h => h1 (by have := h.1; have := h.2.1; omega))]
    refine Tells.succ (Tells.congr e ?_)
    by_cases h : cok A (rd_T98 c (i : Int))
    · simp only [if_pos h]
      refine (ih (i + 1) (by omega)).iff ⟨fun x => ⟨fun j h0 h1 => ?_, x.2⟩, fun x => ⟨fun j h0 h1 => x.1 j (by omega) h1, x.2⟩⟩
      by_cases hj : j = i
      · subst hj; exact h
      · exact x.1 j (by omega) h1
    · simp only [if_neg h]
      exact Tells.no fun x => h (x.1 i (Nat.le_refl _) (by omega))

/-! The reference's loops -/
theorem s1 (A : Int) (c : List S98) (l : List S102) (hl : (l.length : Int) ≤ 9223372036854775807) (d : Nat) : ∀ i : Nat, i + d = l.length →
    Tells (fun k => commonholdref_StateMay.l1 k l (l.length : Int) (i : Int) A c l) (∀ j : Nat, i ≤ j → j < l.length → dok A (rd_T102 l (j : Int)) ∧ (0 < j → dah (rd_T102 l ((j - 1 : Nat) : Int)) (rd_T102 l (j : Int)))) := by
  induction d with
  | zero =>
    intro i hi
    refine Tells.succ ?_
    simp only [commonholdref_StateMay.l1]
    rw [show (fun _ : Nat => _) = _ from funext fun k => if_neg (by omega)]
    exact Tells.yes fun j h0 h1 => by omega
  | succ d ih =>
    intro i hi
    have e : ∀ k, commonholdref_StateMay.l1 (k + 1 + 1) l (l.length : Int) (i : Int) A c l = if dok A (rd_T102 l (i : Int)) ∧ (0 < i → dah (rd_T102 l ((i - 1 : Nat) : Int)) (rd_T102 l (i : Int))) then commonholdref_StateMay.l1 k l (l.length : Int) ((i + 1 : Nat) : Int) A c l else some false := by
      intro k
      rw [commonholdref_StateMay.l1, if_pos (by omega), if_pos (by omega), if_pos (by omega)]
      have hj : ∀ b, commonholdref_StateMay.j4 (k + 1) (i : Int) l (l.length : Int) (i : Int) b A c l (rd_T102 l (i : Int)).f0 (rd_T102 l (i : Int)).f1 (rd_T102 l (i : Int)).f2 (rd_T102 l (i : Int)).f3 = if b = false ∧ (0 < i → dah (rd_T102 l ((i - 1 : Nat) : Int)) (rd_T102 l (i : Int))) then commonholdref_StateMay.l1 k l (l.length : Int) ((i + 1 : Nat) : Int) A c l else some false := by
        intro b
        cases b with
        | true => simp [commonholdref_StateMay.j4]
        | false =>
          simp only [commonholdref_StateMay.j4, Bool.false_eq_true, if_false]
          have hn : ((i : Int) + 1) = ((i + 1 : Nat) : Int) := by omega
          rw [w64 (x := (i : Int) + 1) (by omega) (by omega), hn]
          by_cases h0 : 0 < i
          · have hp : (i : Int) - 1 = ((i - 1 : Nat) : Int) := by omega
            rw [w64 (x := (i : Int) - 1) (by omega) (by omega), hp, if_pos (by omega), if_pos (by omega), if_pos (by omega)]
            generalize rd_T102 l (i : Int) = x
            generalize rd_T102 l ((i - 1 : Nat) : Int) = y
            simp only [commonholdref_doneAhead.f, dah, h0, true_imp_iff, true_and]
            by_cases g1 : y.f0 < x.f0
            · simp [g1]
            · by_cases g2 : y.f0 = x.f0
              · by_cases g3 : y.f1 < x.f1 <;> simp [g2, g3]
              · simp [g1, g2]
          · rw [if_neg (by omega)]
            simp [h0]
      simp only [hj]
      unfold dok
      generalize rd_T102 l (i : Int) = x
      by_cases h1 : x.f0 < 1
      · rw [if_pos h1, if_neg (by simp), if_neg (fun h => by have := h.1; omega)]
      rw [if_neg h1]
      by_cases h2 : x.f0 > 1048576
      · rw [if_pos h2, if_neg (by simp), if_neg (fun h => by have := h.1; omega)]
      rw [if_neg h2]
      by_cases h3 : x.f1 < 1
      · rw [if_pos h3, if_neg (by simp), if_neg (fun h => by have := h.1; omega)]
      rw [if_neg h3]
      by_cases h4 : x.f1 > 1048576
      · rw [if_pos h4, if_neg (by simp), if_neg (fun h => by have := h.1; omega)]
      rw [if_neg h4]
      by_cases h5 : x.f2 < 1
      · rw [if_pos h5, if_neg (by simp), if_neg (fun h => by have := h.1; omega)]
      rw [if_neg h5]
      by_cases h6 : x.f2 > A
      · rw [if_neg (by simp [h6]), if_neg (fun h => by have := h.1; omega)]
      by_cases h7 : 0 < i → dah (rd_T102 l ((i - 1 : Nat) : Int)) x
      · rw [if_pos ⟨decide_eq_false h6, h7⟩, if_pos ⟨by omega, h7⟩]
      · rw [if_neg (fun h => h7 h.2), if_neg (fun h => h7 h.2)]
    refine Tells.succ (Tells.succ (Tells.congr e ?_))
    by_cases h : dok A (rd_T102 l (i : Int)) ∧ (0 < i → dah (rd_T102 l ((i - 1 : Nat) : Int)) (rd_T102 l (i : Int)))
    · simp only [if_pos h]
      refine (ih (i + 1) (by omega)).iff ⟨fun x j h0 h1 => ?_, fun x j h0 h1 => x j (by omega) h1⟩
      by_cases hj : j = i
      · subst hj; exact h
      · exact x j (by omega) h1
    · simp only [if_neg h]
      exact Tells.no fun x => h (x i (Nat.le_refl _) (by omega))
theorem s0 (A : Int) (c : List S98) (l : List S102) (hl : (l.length : Int) ≤ 9223372036854775807) (hc : (c.length : Int) ≤ 9223372036854775807) (hs : ∀ j : Nat, j < c.length → ((rd_T98 c (j : Int)).f0.length : Int) ≤ 9223372036854775807) (d : Nat) : ∀ i : Nat, i + d = c.length →
    Tells (fun k => commonholdref_StateMay.l0 k c (c.length : Int) (i : Int) A c l) ((∀ j : Nat, i ≤ j → j < c.length → cok A (rd_T98 c (j : Int)) ∧ (0 < j → cah (rd_T98 c ((j - 1 : Nat) : Int)) (rd_T98 c (j : Int)))) ∧ ∀ j : Nat, 0 ≤ j → j < l.length → dok A (rd_T102 l (j : Int)) ∧ (0 < j → dah (rd_T102 l ((j - 1 : Nat) : Int)) (rd_T102 l (j : Int)))) := by
  induction d with
  | zero =>
    intro i hi
    refine Tells.succ ?_
    simp only [commonholdref_StateMay.l0]
    rw [show (fun _ : Nat => _) = _ from funext fun k => if_neg (by omega)]
    exact (s1 A c l hl l.length 0 (by omega)).iff ⟨fun x => ⟨fun j h0 h1 => by omega, x⟩, fun x => x.2⟩
  | succ d ih =>
    intro i hi
    have e : ∀ k, commonholdref_StateMay.l0 (k + 1 + 1) c (c.length : Int) (i : Int) A c l = if cok A (rd_T98 c (i : Int)) then (if 0 < i then ((commonholdref_bytesLess.f k (rd_T98 c ((i - 1 : Nat) : Int)).f0 (rd_T98 c (i : Int)).f0).bind fun t => if t = true then commonholdref_StateMay.l0 k c (c.length : Int) ((i + 1 : Nat) : Int) A c l else some false) else commonholdref_StateMay.l0 k c (c.length : Int) ((i + 1 : Nat) : Int) A c l) else some false := by
      intro k
      rw [commonholdref_StateMay.l0, if_pos (by omega), if_pos (by omega), if_pos (by omega)]
      generalize hR : (if 0 < i then ((commonholdref_bytesLess.f k (rd_T98 c ((i - 1 : Nat) : Int)).f0 (rd_T98 c (i : Int)).f0).bind fun t => if t = true then commonholdref_StateMay.l0 k c (c.length : Int) ((i + 1 : Nat) : Int) A c l else some false) else commonholdref_StateMay.l0 k c (c.length : Int) ((i + 1 : Nat) : Int) A c l) = R
      have hj : ∀ b, commonholdref_StateMay.j2 (k + 1) (i : Int) c (c.length : Int) (i : Int) b A c l (rd_T98 c (i : Int)).f0 (rd_T98 c (i : Int)).f1 (rd_T98 c (i : Int)).f2 (rd_T98 c (i : Int)).f3 = if b = false then R else some false := by
        intro b
        cases b with
        | true => simp [commonholdref_StateMay.j2]
        | false =>
          rw [← hR, if_pos rfl]
          simp only [commonholdref_StateMay.j2, Bool.false_eq_true, if_false]
          have hn : ((i : Int) + 1) = ((i + 1 : Nat) : Int) := by omega
          rw [w64 (x := (i : Int) + 1) (by omega) (by omega), hn]
          by_cases h0 : 0 < i
          · have hp : (i : Int) - 1 = ((i - 1 : Nat) : Int) := by omega
            rw [w64 (x := (i : Int) - 1) (by omega) (by omega), hp, if_pos (by omega), if_pos (by omega), if_pos (by omega), if_pos h0]
          · rw [if_neg (by omega), if_neg h0]
      simp only [hj]
      clear hR hj
      generalize rd_T98 c (i : Int) = x
      by_cases h1 : (x.f0.length : Int) < 1
      · rw [if_pos h1, if_neg (by simp), if_neg (fun h => by have := h.1; omega)]
      rw [if_neg h1]
      by_cases h2 : (x.f0.length : Int) > 1200
      · rw [if_pos h2, if_neg (by simp), if_neg (fun h => by have := h.2.1; omega)]
      rw [if_neg h2]
      by_cases h3 : (x.f1.length : Int) > 4000
      · rw [if_pos h3, if_neg (by simp), if_neg (fun h => by have := h.2.2.1; omega)]
      rw [if_neg h3]
      have fin : (if x.f3 < 1 then (if true = false then R else some false) else if decide (x.f3 > A) = false then R else some false) = if 1 ≤ x.f3 ∧ x.f3 ≤ A then R else some false := by
        by_cases h5 : x.f3 < 1
        · rw [if_pos h5, if_neg (by simp), if_neg (by omega)]
        rw [if_neg h5]
        by_cases h6 : x.f3 > A
        · rw [if_neg (by simp [h6]), if_neg (by omega)]
        · rw [if_pos (decide_eq_false h6), if_pos (by omega)]
      rw [fin]
      by_cases h7 : 1 ≤ x.f3 ∧ x.f3 ≤ A
      · rw [if_pos h7]
        by_cases h4 : x.f2 = true
        · rw [if_pos h4]
          by_cases h5 : (x.f1.length : Int) > 0
          · rw [if_pos h5, if_neg (by simp), if_neg (fun h => by have := h.2.2.2.1 h4; omega)]
          · rw [if_neg h5, if_pos ⟨by omega, by omega, by omega, fun _ => by omega, h7⟩]
        · rw [if_neg h4, if_pos ⟨by omega, by omega, by omega, fun h => absurd h h4, h7⟩]
      · rw [if_neg h7, if_neg (c := cok A x) (fun h => h7 h.2.2.2.2)]
        split
        · split <;> rfl
        · rfl
    refine Tells.succ (Tells.succ (Tells.congr e ?_))
    have hnx := ih (i + 1) (by omega)
    by_cases h : cok A (rd_T98 c (i : Int))
    · simp only [if_pos h]
      by_cases h0 : 0 < i
      · simp only [if_pos h0]
        refine Tells.bindE (less_all _ _ (hs (i - 1) (by omega)) (hs i (by omega))) ?_
        by_cases h1 : cah (rd_T98 c ((i - 1 : Nat) : Int)) (rd_T98 c (i : Int))
        · rw [decide_eq_true h1]
          simp only [if_true]
          refine hnx.iff ⟨fun x => ⟨fun j g0 g1 => ?_, x.2⟩, fun x => ⟨fun j g0 g1 => x.1 j (by omega) g1, x.2⟩⟩
          by_cases hj : j = i
          · subst hj; exact ⟨h, fun _ => h1⟩
          · exact x.1 j (by omega) g1
        · rw [decide_eq_false h1]
          simp only [Bool.false_eq_true, if_false]
          exact Tells.no fun x => h1 ((x.1 i (Nat.le_refl _) (by omega)).2 h0)
      · simp only [if_neg h0]
        refine hnx.iff ⟨fun x => ⟨fun j g0 g1 => ?_, x.2⟩, fun x => ⟨fun j g0 g1 => x.1 j (by omega) g1, x.2⟩⟩
        by_cases hj : j = i
        · subst hj; exact ⟨h, fun g => absurd g h0⟩
        · exact x.1 j (by omega) g1
    · simp only [if_neg h]
      exact Tells.no fun x => h (x.1 i (Nat.le_refl _) (by omega)).1

/-! Both, whole -/
def may (A : Int) (c : List S98) (l : List S102) : Prop := (0 ≤ A ∧ A ≤ 1048576) ∧ (∀ j : Nat, j < c.length → cok A (rd_T98 c (j : Int))) ∧ (∀ j : Nat, j < l.length → dok A (rd_T102 l (j : Int))) ∧ ascC c ∧ ascD l
theorem s_all (A : Int) (c : List S98) (l : List S102) (hl : (l.length : Int) ≤ 9223372036854775807) (hc : (c.length : Int) ≤ 9223372036854775807) (hs : ∀ j : Nat, j < c.length → ((rd_T98 c (j : Int)).f0.length : Int) ≤ 9223372036854775807) :
    Tells (fun k => commonholdref_StateMay.f k A c l) (may A c l) := by
  have e : ∀ k, commonholdref_StateMay.f k A c l = commonholdref_StateMay.j0 k (!decide (0 ≤ A ∧ A ≤ 1048576)) A c l := by
    intro k
    unfold commonholdref_StateMay.f
    by_cases h0 : A < 0
    · rw [if_pos h0, decide_eq_false (by omega)]; rfl
    · rw [if_neg h0]
      by_cases h1 : A > 1048576
      · rw [decide_eq_true h1, decide_eq_false (by omega)]; rfl
      · rw [decide_eq_false h1, decide_eq_true (by omega)]; rfl
  refine Tells.congr e (Tells.succ ?_)
  by_cases hA : 0 ≤ A ∧ A ≤ 1048576
  · rw [decide_eq_true hA]
    simp only [commonholdref_StateMay.j0, Bool.not_true, Bool.false_eq_true, if_false]
    refine (s0 A c l hl hc hs c.length 0 (by omega)).iff ?_
    unfold may
    rw [ascC_at, ascD_at]
    constructor
    · rintro ⟨x, y⟩
      exact ⟨hA, fun j h => (x j (Nat.zero_le _) h).1, fun j h => (y j (Nat.zero_le _) h).1, fun j h => (x (j + 1) (Nat.zero_le _) h).2 (by omega), fun j h => (y (j + 1) (Nat.zero_le _) h).2 (by omega)⟩
    · rintro ⟨_, x, y, u, v⟩
      refine ⟨fun j _ h => ⟨x j h, fun g => ?_⟩, fun j _ h => ⟨y j h, fun g => ?_⟩⟩
      · have := u (j - 1) (by omega)
        rwa [show j - 1 + 1 = j from by omega] at this
      · have := v (j - 1) (by omega)
        rwa [show j - 1 + 1 = j from by omega] at this
  · rw [decide_eq_false hA]
    simp only [commonholdref_StateMay.j0, Bool.not_false, if_true]
    exact Tells.no fun x => hA x.1
--MELD
theorem m_all (A : Int) (c : List S98) (l : List S102) (hl : (l.length : Int) ≤ 9223372036854775807) (hc : (c.length : Int) ≤ 9223372036854775807) :
    Tells (fun k => meld_May.f k A c l) (may A c l) := by
  by_cases hA : 0 ≤ A ∧ A ≤ 1048576
  · have e : ∀ k, meld_May.f k A c l = (api_Cell.f c).bind fun t => if t = true then ((api_Done.f k l).bind fun u => meld_May.j0 k (!u) A c l) else meld_May.j0 k true A c l := by
      intro k
      rw [meld_May.f, in_, Option.bind_some, decide_eq_true hA, if_pos rfl]
    have hd : Tells (fun k => api_Done.f k l) (ascD l) := Tells.succ (Tells.succ (Tells.succ (dones l)))
    refine Tells.congr e (Tells.bind (cells c) (fun h1 => ?_) (fun h1 => ?_))
    · simp only [if_true]
      refine Tells.bind hd (fun h2 => ?_) (fun h2 => ?_)
      · refine Tells.succ ?_
        simp only [meld_May.j0, Bool.not_true, Bool.false_eq_true, if_false]
        exact (m0 A c l hl hc c.length 0 (by omega)).iff ⟨fun ⟨x, y⟩ => ⟨hA, fun j h => x j (Nat.zero_le _) h, fun j h => y j (Nat.zero_le _) h, h1, h2⟩, fun ⟨_, x, y, _⟩ => ⟨fun j _ h => x j h, fun j _ h => y j h⟩⟩
      · refine Tells.succ ?_
        simp only [meld_May.j0, Bool.not_false, if_true]
        exact Tells.no fun x => h2 x.2.2.2.2
    · simp only [Bool.false_eq_true, if_false]
      refine Tells.succ ?_
      simp only [meld_May.j0, if_true]
      exact Tells.no fun x => h1 x.2.2.2.1
  · have e : ∀ k, meld_May.f k A c l = meld_May.j0 k true A c l := by
      intro k
      rw [meld_May.f, in_, Option.bind_some, decide_eq_false hA, if_neg (by simp)]
    refine Tells.congr e (Tells.succ ?_)
    simp only [meld_May.j0, if_true]
    exact Tells.no fun x => hA x.1
/-! The bytes -/
theorem same_from (l : List Int) (hl : (l.length : Int) ≤ 140737488355328) (d : Nat) : ∀ (k : Nat) (i : Int), 0 ≤ i → i ≤ l.length → (l.length : Int) - i = d → d < k → commonholdlaw_sameBytes.l0 k l l i = some true := by
  induction d with
  | zero =>
    intro k i h0 h1 hd hk
    obtain ⟨k, rfl⟩ : ∃ m, k = m + 1 := ⟨k - 1, by omega⟩
    simp only [commonholdlaw_sameBytes.l0]
    rw [if_neg (by omega)]
  | succ d ih =>
    intro k i h0 h1 hd hk
    obtain ⟨k, rfl⟩ : ∃ m, k = m + 1 := ⟨k - 1, by omega⟩
    simp only [commonholdlaw_sameBytes.l0]
    rw [if_pos (show i < (l.length : Int) by omega), if_pos h0, if_pos (show i < (l.length : Int) by omega)]
    simp only [if_true]
    rw [show wrap64 (i + 1) = i + 1 from by unfold wrap64; omega]
    exact ih k (i + 1) (by omega) (by omega) (by omega) (by omega)
theorem same_self (l : List Int) (hl : (l.length : Int) ≤ 140737488355328) : Big (fun k => commonholdlaw_sameBytes.f k l l) true := by
  refine ⟨l.length + 1, fun k hk => ?_⟩
  show (if (l.length : Int) = (l.length : Int) then _ else _) = some true
  rw [if_pos rfl]
  exact same_from l hl l.length k 0 (by omega) (by omega) (by omega) (by omega)

theorem rd98 (l : List S98) (i : Nat) (h : i < l.length) : rd_T98 l (i : Int) = l[i] := by simp [rd_T98, List.getD_eq_getElem?_getD, h]
theorem rd102 (l : List S102) (i : Nat) (h : i < l.length) : rd_T102 l (i : Int) = l[i] := by simp [rd_T102, List.getD_eq_getElem?_getD, h]
theorem le_len (n : Int) : (meld_writer_number.le n).length = 4 := by simp [meld_writer_number.le]
theorem little_of (n : Int) (h0 : 0 ≤ n) (h1 : n ≤ 9223372036854775807) : commonholdref_little.f n = some (meld_writer_number.le n) := by
  unfold commonholdref_little.f meld_writer_number.le
  have q : ∀ m : Int, 0 ≤ m → m ≤ 9223372036854775807 → wrap64 m = m := fun m a b => w64 (by omega) (by omega)
  have e : ∀ d : Int, 0 < d → wrap64 (Int.tdiv n d) = n / d := by
    intro d hd
    rw [Int.tdiv_eq_ediv_of_nonneg h0]
    exact q _ (Int.ediv_nonneg h0 (by omega)) (Int.le_trans (Int.ediv_le_self _ h0) h1)
  rw [e 256 (by omega), e 65536 (by omega), e 16777216 (by omega)]
  have f : ∀ m : Int, 0 ≤ m → Int.tmod m 256 % 256 = m % 256 := by
    intro m hm
    rw [Int.tmod_eq_emod_of_nonneg hm]
    omega
  rw [f n h0, f _ (Int.ediv_nonneg h0 (by omega)), f _ (Int.ediv_nonneg h0 (by omega)), f _ (Int.ediv_nonneg h0 (by omega))]
theorem text_of (l m : List Int) (h : l.length + m.length ≤ 100000000) : commonholdref_withText.f l m = some (l ++ (meld_writer_number.le m.length ++ m)) := by
  unfold commonholdref_withText.f
  rw [little_of _ (by omega) (by omega)]
  have h1 : l.length + (meld_writer_number.le (m.length : Int)).length < 140737488355328 := by rw [le_len]; omega
  have h2 : (l ++ meld_writer_number.le (m.length : Int)).length + m.length < 140737488355328 := by rw [List.length_append, le_len]; omega
  simp only [Option.bind_some, if_pos h1, if_pos h2, List.append_assoc]
theorem flag_of (b : Bool) : commonholdref_flag.f b = some (if b = true then 1 else 0) := by unfold commonholdref_flag.f; split <;> rfl
theorem flag_mod (b : Bool) : (if b = true then (1 : Int) else 0) % 256 = if b = true then 1 else 0 := by split <;> rfl
theorem cell_len (x : S98) : (meld_Save.cell x).length = 13 + x.f0.length + x.f1.length := by
  simp only [meld_Save.cell, List.length_append, le_len, List.length_singleton]
  omega
theorem done_len (x : S102) : (meld_Save.done x).length = 13 := by simp [meld_Save.done, le_len]
theorem sum_one (l : List Int) : (l.map (fun _ : Int => 1)).sum = l.length := by
  induction l with
  | nil => rfl
  | cons x l ih => simp only [List.map_cons, List.sum_cons, ih, List.length_cons]; omega
theorem cells_len (c : List S98) : (c.flatMap meld_Save.cell).length ≤ 3 * (c.map bd98).sum := by
  induction c with
  | nil => simp
  | cons x c ih =>
    have h : bd98 x = x.f0.length + x.f1.length + 5 := by
      unfold bd98
      simp only [sum_one]
      omega
    simp only [List.flatMap_cons, List.length_append, List.map_cons, List.sum_cons, cell_len, h]
    omega
theorem dones_len (c : List S102) : (c.flatMap meld_Save.done).length ≤ 3 * (c.map bd102).sum := by
  induction c with
  | nil => simp
  | cons x c ih =>
    have h : bd102 x = 5 := rfl
    simp only [List.flatMap_cons, List.length_append, List.map_cons, List.sum_cons, done_len, h]
    omega
theorem bytes_len (a : S40) (h : bd40 a ≤ 1048576) : (meld_Save.bytes a.f0 a.f1 a.f2).length ≤ 4000000 := by
  have h1 := cells_len a.f1
  have h2 := dones_len a.f2
  unfold bd40 at h
  simp only at h
  have h3 : ([a.f0, (a.f1.length : Int)].flatMap meld_writer_number.le).length = 8 := by simp [le_len]
  simp only [meld_Save.bytes, List.length_append, le_len, h3]
  omega
theorem bytes_d (l : List S102) (h4 : ∀ x ∈ l, 0 ≤ x.f0 ∧ x.f0 ≤ 1048576 ∧ 0 ≤ x.f1 ∧ x.f1 ≤ 1048576 ∧ 0 ≤ x.f2 ∧ x.f2 ≤ 1048576) (hl : l.length ≤ 4000000) : ∀ (d i : Nat) (acc : List Int), i + d = l.length → acc.length + 13 * d ≤ 4000000 →
    Big (fun k => commonholdref_stateBytes.l1 k acc l (l.length : Int) (i : Int)) (acc ++ (l.drop i).flatMap meld_Save.done) := by
  intro d
  induction d with
  | zero =>
    intro i acc hi ha
    refine Big.succ ?_
    simp only [commonholdref_stateBytes.l1]
    simp only [if_neg (show ¬ (i : Int) < (l.length : Int) by omega)]
    rw [List.drop_eq_nil_of_le (by omega)]
    simp only [List.flatMap_nil, List.append_nil]
    exact Big.of _
  | succ d ih =>
    intro i acc hi ha
    have hi' : i < l.length := by omega
    refine Big.succ ?_
    simp only [commonholdref_stateBytes.l1]
    simp only [if_pos (show (i : Int) < (l.length : Int) by omega), if_pos (show (0 : Int) ≤ (i : Int) by omega)]
    have ew : wrap64 ((i : Int) + 1) = ((i + 1 : Nat) : Int) := by rw [w64 (by omega) (by omega)]; omega
    rw [rd102 l i hi', ew]
    have hk := h4 l[i] (List.getElem_mem hi')
    have hn := done_len l[i]
    have e0 : acc.length + (meld_writer_number.le l[i].f0).length < 140737488355328 := by rw [le_len]; omega
    have e1 : (acc ++ meld_writer_number.le l[i].f0).length + (meld_writer_number.le l[i].f1).length < 140737488355328 := by simp only [List.length_append, le_len]; omega
    have e2 : (acc ++ meld_writer_number.le l[i].f0 ++ meld_writer_number.le l[i].f1).length + (meld_writer_number.le l[i].f2).length < 140737488355328 := by simp only [List.length_append, le_len]; omega
    have e3 : (acc ++ meld_writer_number.le l[i].f0 ++ meld_writer_number.le l[i].f1 ++ meld_writer_number.le l[i].f2).length < 140737488355328 := by simp only [List.length_append, le_len]; omega
    simp only [little_of l[i].f0 (by omega) (by omega), little_of l[i].f1 (by omega) (by omega), little_of l[i].f2 (by omega) (by omega), flag_of, flag_mod, Option.bind_some, if_pos e0, if_pos e1, if_pos e2, if_pos e3]
    have := ih (i + 1) (acc ++ meld_Save.done l[i]) (by omega) (by rw [List.length_append, hn]; omega)
    rw [List.drop_eq_getElem_cons hi', List.flatMap_cons]
    have e2 : acc ++ meld_writer_number.le l[i].f0 ++ meld_writer_number.le l[i].f1 ++ meld_writer_number.le l[i].f2 ++ [if l[i].f3 = true then (1 : Int) else 0] = acc ++ meld_Save.done l[i] := by simp [meld_Save.done]
    rw [e2]
    exact this.cast (by simp)
theorem bytes_c (A : Int) (c : List S98) (l : List S102) (h3 : ∀ x ∈ c, 0 ≤ x.f3 ∧ x.f3 ≤ 1048576) (h4 : ∀ x ∈ l, 0 ≤ x.f0 ∧ x.f0 ≤ 1048576 ∧ 0 ≤ x.f1 ∧ x.f1 ≤ 1048576 ∧ 0 ≤ x.f2 ∧ x.f2 ≤ 1048576) (hc : c.length ≤ 4000000) (hl : l.length ≤ 4000000) : ∀ (d i : Nat) (acc : List Int), i + d = c.length → acc.length + ((c.drop i).flatMap meld_Save.cell).length + 4 + 13 * l.length ≤ 4000000 →
    Big (fun k => commonholdref_stateBytes.l0 k acc c (c.length : Int) (i : Int) A c l) (acc ++ (c.drop i).flatMap meld_Save.cell ++ meld_writer_number.le l.length ++ l.flatMap meld_Save.done) := by
  intro d
  induction d with
  | zero =>
    intro i acc hi ha
    refine Big.succ ?_
    simp only [commonholdref_stateBytes.l0]
    simp only [if_neg (show ¬ (i : Int) < (c.length : Int) by omega)]
    rw [List.drop_eq_nil_of_le (by omega)] at ha ⊢
    simp only [List.flatMap_nil, List.length_nil] at ha
    have e3 : acc.length + (meld_writer_number.le (l.length : Int)).length < 140737488355328 := by rw [le_len]; omega
    simp only [little_of (l.length : Int) (by omega) (by omega), Option.bind_some, if_pos e3, List.flatMap_nil, List.append_nil]
    exact bytes_d l h4 hl l.length 0 _ (by omega) (by simp only [List.length_append, le_len]; omega)
  | succ d ih =>
    intro i acc hi ha
    have hi' : i < c.length := by omega
    refine Big.succ ?_
    simp only [commonholdref_stateBytes.l0]
    simp only [if_pos (show (i : Int) < (c.length : Int) by omega), if_pos (show (0 : Int) ≤ (i : Int) by omega)]
    have ew : wrap64 ((i : Int) + 1) = ((i + 1 : Nat) : Int) := by rw [w64 (by omega) (by omega)]; omega
    rw [List.drop_eq_getElem_cons hi', List.flatMap_cons, List.length_append, cell_len] at ha
    rw [rd98 c i hi', ew]
    have hk := h3 c[i] (List.getElem_mem hi')
    have e3 : (acc ++ (meld_writer_number.le (c[i].f0.length : Int) ++ c[i].f0)).length < 140737488355328 := by simp only [List.length_append, le_len]; omega
    have e4 : (acc ++ (meld_writer_number.le (c[i].f0.length : Int) ++ c[i].f0) ++ [if c[i].f2 = true then (1 : Int) else 0] ++ (meld_writer_number.le (c[i].f1.length : Int) ++ c[i].f1)).length + (meld_writer_number.le c[i].f3).length < 140737488355328 := by simp only [List.length_append, le_len, List.length_singleton]; omega
    have q1 := text_of acc c[i].f0 (by omega)
    have q2 := text_of (acc ++ (meld_writer_number.le (c[i].f0.length : Int) ++ c[i].f0) ++ [if c[i].f2 = true then (1 : Int) else 0]) c[i].f1 (by simp only [List.length_append, le_len, List.length_singleton]; omega)
    simp only [q1, flag_of, flag_mod, Option.bind_some, if_pos e3, q2, little_of c[i].f3 (by omega) (by omega), if_pos e4]
    have := ih (i + 1) (acc ++ meld_Save.cell c[i]) (by omega) (by rw [List.length_append, cell_len]; omega)
    rw [List.drop_eq_getElem_cons hi', List.flatMap_cons]
    have e2 : acc ++ (meld_writer_number.le (c[i].f0.length : Int) ++ c[i].f0) ++ [if c[i].f2 = true then (1 : Int) else 0] ++ (meld_writer_number.le (c[i].f1.length : Int) ++ c[i].f1) ++ meld_writer_number.le c[i].f3 = acc ++ meld_Save.cell c[i] := by simp [meld_Save.cell]
    rw [e2]
    exact this.cast (by simp)
theorem law (a : S40) (hb : bd40 a ≤ 1048576) (hl : (a.f2.length : Int) ≤ 9223372036854775807) (hc : (a.f1.length : Int) ≤ 9223372036854775807) (hs : ∀ j : Nat, j < a.f1.length → ((rd_T98 a.f1 (j : Int)).f0.length : Int) ≤ 9223372036854775807) :
    ∃ k, commonholdlaw_MeldSaves.f k a.f0 a.f1 a.f2 = some true := by
  obtain ⟨b, h, e⟩ := m_all a.f0 a.f1 a.f2 hl hc
  obtain ⟨b', h', e'⟩ := s_all a.f0 a.f1 a.f2 hl hc hs
  have hbb : b = b' := by
    rw [Bool.eq_iff_iff, e, e']
  subst hbb
  have hn := bytes_len a hb
  have hd : (a.f2.flatMap meld_Save.done).length = 13 * a.f2.length := by
    generalize a.f2 = l
    induction l with
    | nil => rfl
    | cons x l ih => rw [List.flatMap_cons, List.length_append, ih, done_len, List.length_cons]; omega
  have hcl : a.f1.length ≤ (a.f1.flatMap meld_Save.cell).length := by
    generalize a.f1 = l
    induction l with
    | nil => exact Nat.le_refl _
    | cons x l ih => rw [List.flatMap_cons, List.length_append, cell_len, List.length_cons]; omega
  have h8 : ([a.f0, (a.f1.length : Int)].flatMap meld_writer_number.le).length = 8 := by simp [le_len]
  have hn2 := hn
  simp only [meld_Save.bytes, List.length_append, le_len, h8, hd] at hn2
  suffices hx : ∃ x : List Int × Int, Big (fun k => meld_Save.f k a.f0 a.f1 a.f2) x ∧ Big (fun k => commonholdref_Saved.f k a.f0 a.f1 a.f2) x ∧ (x.1.length : Int) ≤ 140737488355328 by
    obtain ⟨x, g1, g2, g3⟩ := hx
    have : Big (fun k => commonholdlaw_MeldSaves.f k a.f0 a.f1 a.f2) true := by
      unfold commonholdlaw_MeldSaves.f
      refine Big.bind g1 (Big.bind g2 (Big.bind (same_self _ g3) ?_))
      simp only [beq_self_eq_true, if_true]
      exact Big.of _
    exact this.to
  cases b with
  | false =>
    refine ⟨([], 4), ?_, ?_, by simp⟩
    · unfold meld_Save.f
      refine Big.bind h ?_
      simp only [if_true]
      exact Big.of _
    · unfold commonholdref_Saved.f
      refine Big.bind h' ?_
      simp only [if_neg (show ¬ (false = true) by decide)]
      exact Big.of _
  | true =>
    have hm := e.1 rfl
    refine ⟨(meld_Save.bytes a.f0 a.f1 a.f2, 0), ?_, ?_, by simp only; omega⟩
    · unfold meld_Save.f
      refine Big.bind h ?_
      simp only [if_neg (show ¬ (true = false) by decide), if_pos (show (meld_Save.bytes a.f0 a.f1 a.f2).length < 140737488355328 by omega)]
      exact Big.of _
    · unfold commonholdref_Saved.f
      refine Big.bind h' ?_
      simp only [if_true]
      refine Big.bind (r := meld_Save.bytes a.f0 a.f1 a.f2) ?_ (Big.of _)
      obtain ⟨hA, hC, hD, _⟩ := hm
      have e5 : (meld_writer_number.le a.f0).length + (meld_writer_number.le (a.f1.length : Int)).length < 140737488355328 := by simp only [le_len]; omega
      unfold commonholdref_stateBytes.f
      simp only [little_of a.f0 (by omega) (by omega), little_of (a.f1.length : Int) (by omega) (by omega), Option.bind_some, if_pos e5]
      have := bytes_c a.f0 a.f1 a.f2 (fun x hx => by
        obtain ⟨i, hi, rfl⟩ := List.getElem_of_mem hx
        have := hC i hi
        rw [rd98 _ i hi] at this
        have h5 := this.2.2.2.2
        omega) (fun x hx => by
        obtain ⟨i, hi, rfl⟩ := List.getElem_of_mem hx
        have := hD i hi
        rw [rd102 _ i hi] at this
        obtain ⟨q1, q2, q3, q4, q5, q6⟩ := this
        omega) (by omega) (by omega) a.f1.length 0 (meld_writer_number.le a.f0 ++ meld_writer_number.le (a.f1.length : Int)) (by omega) (by rw [List.drop_zero, List.length_append, le_len, le_len]; omega)
      exact this.cast (by simp [meld_Save.bytes])

end Go.Proofs.Ytdepkigheacdnab.Pure.MeldSavesOf
namespace Go.Proofs.Ytdepkigheacdnab.Pure
open Go Go.RowKit Go.Proofs.Ytdepkigheacdnab.PMeldSaves Go.Proofs.YtdepkigheacdnabW.PrintWords Go.Proofs.YtdepkigheacdnabW.PrintLast Go.Proofs.Ytdepkigheacdnab.Bg
theorem MeldSaves : commonholdlaw_MeldSaves.Pure := by
  intro a hg hz
  have h1 := hg.2.1
  have h2 := hg.2.2
  refine MeldSavesOf.law a hz (by have := h2.1; omega) (by have := h1.1; omega) fun j hj => ?_
  have e : rd_T98 a.f1 (j : Int) = a.f1[j] := by simp [rd_T98, List.getD_eq_getElem?_getD, hj]
  rw [e]
  have := (h1.2 _ (List.getElem_mem hj)).1.1
  omega
end Go.Proofs.Ytdepkigheacdnab.Pure
