/- key.Next answers as its reference does, at every byte string. No condition beyond the statement's own. -/
import Derived.Test.YtaadljjfckhinabPKeyNextsx1
import Derived.OpenShut
namespace Go.Proofs.Ytaadljjfckhinab.Pure.KeyNextsOf
open Go Go.RowKit Go.Proofs.Ytaadljjfckhinab.PKeyNexts Go.Proofs.YtaadljjfckhinabW.PrintWords Go.Proofs.YtaadljjfckhinabW.PrintLast
theorem same_from (l : List Int) (hl : (l.length : Int) ≤ 140737488355328) (d : Nat) : ∀ (k : Nat) (i : Int), 0 ≤ i → i ≤ l.length → (l.length : Int) - i = d → d < k → commonholdlaw_sameBytes.l0 k l l i = some true := by
  induction d with
  | zero =>
    intro k i h0 h1 hd hk
    obtain ⟨k, rfl⟩ : ∃ m, k = m + 1 := ⟨k - 1, by omega⟩
    simp only [commonholdlaw_sameBytes.l0]
    rw [if_neg (by omega)]
  | succ d ih =>
    intro k i h0 h1 hd hk
    obtain ⟨k, rfl⟩ : ∃ m, k = m + 1 := ⟨k - 1, by omega⟩
    simp only [commonholdlaw_sameBytes.l0]
    rw [if_pos (show i < (l.length : Int) by omega), if_pos h0, if_pos (show i < (l.length : Int) by omega)]
    simp only [if_true]
    rw [show wrap64 (i + 1) = i + 1 from by unfold wrap64; omega]
    exact ih k (i + 1) (by omega) (by omega) (by omega) (by omega)
theorem same_self (l : List Int) (hl : (l.length : Int) ≤ 140737488355328) (k : Nat) (hk : l.length < k) : commonholdlaw_sameBytes.f k l l = some true := by
  unfold commonholdlaw_sameBytes.f
  rw [if_pos rfl]
  exact same_from l hl l.length k 0 (by omega) (by omega) (by omega) hk

/-- How many bytes are left when the trailing bytes 255 of the first m are struck. -/
def left (l : List Int) : Nat → Nat
  | 0 => 0
  | m + 1 => if rd l m = 255 then left l m else m + 1
theorem left_le (l : List Int) (m : Nat) : left l m ≤ m := by
  induction m with
  | zero => simp [left]
  | succ m ih => unfold left; split <;> omega
def tell (l : List Int) (n : Nat) : List Int × Int := if n = 0 then ([], 6) else (l.take (n - 1) ++ [(rd l ((n - 1 : Nat) : Int) + 1) % 256], 0)
theorem set_last (l : List Int) (n : Nat) (h : n < l.length) (v : Int) : (l.take (n + 1)).set n v = l.take n ++ [v] := by
  rw [List.take_succ_eq_append_getElem h, List.set_append_right _ _ (by simp; omega)]
  simp [Nat.min_eq_left (Nat.le_of_lt h)]
theorem rd_take (l : List Int) (n m : Nat) (h : n < m) (_hm : m ≤ l.length) : rd (l.take m) n = rd l n := by
  simp [rd, List.getD_eq_getElem?_getD, h]
theorem next_from (l : List Int) (hl : (l.length : Int) ≤ 1200) (hw : ∀ x ∈ l, (Lit.int .u8 x).wf = true) (m : Nat) : ∀ k : Nat, m ≤ l.length → m < k → key_Next.l0 k l m = some (tell l (left l m)) := by
  induction m with
  | zero =>
    intro k _ hk
    obtain ⟨k, rfl⟩ : ∃ m, k = m + 1 := ⟨k - 1, by omega⟩
    simp only [key_Next.l0]
    rw [if_neg (by omega)]
    rfl
  | succ m ih =>
    intro k hm hk
    obtain ⟨k, rfl⟩ : ∃ m, k = m + 1 := ⟨k - 1, by omega⟩
    have hb : 0 ≤ rd l m ∧ rd l m ≤ 255 := by
      have e : rd l (m : Int) = l[m] := by simp [rd, List.getD_eq_getElem?_getD, show m < l.length by omega]
      rw [e]
      have := bounds_u8 (hw l[m] (List.getElem_mem _))
      omega
    have e1 : wrap64 (((m + 1 : Nat) : Int) - 1) = m := by unfold wrap64; omega
    simp only [key_Next.l0, e1]
    rw [if_pos (show ((m + 1 : Nat) : Int) > 0 by omega), if_pos (show (0 : Int) ≤ m by omega), if_pos (show (m : Int) < l.length by omega)]
    by_cases h : rd l m = 255
    · rw [if_neg (by omega), ih k (by omega) (by omega)]
      simp only [left]
      rw [if_pos h]
    · have ht : ([] ++ l.take (m + 1) : List Int).length = m + 1 := by simp; omega
      rw [if_pos (by omega), if_pos (by omega), if_pos (by omega), show (((m + 1 : Nat) : Int)).toNat = m + 1 from by omega, if_pos (by simp; omega)]
      simp only [Option.bind_some, List.nil_append] at ht ⊢
      rw [if_pos (by omega), show ((m : Int)).toNat = m from by omega, set_last l m (by omega), rd_take l m (m + 1) (by omega) hm]
      simp only [left]
      rw [if_neg h]
      simp [tell]
theorem behind_from (l : List Int) (hl : (l.length : Int) ≤ 1200) (d : Nat) : ∀ (k i : Nat), i + d = l.length → d < k → commonholdref_Behind.l0 k l (left l i) l l.length i = some (tell l (left l l.length)) := by
  induction d with
  | zero =>
    intro k i hi hk
    obtain ⟨k, rfl⟩ : ∃ m, k = m + 1 := ⟨k - 1, by omega⟩
    obtain rfl : i = l.length := by omega
    simp only [commonholdref_Behind.l0]
    rw [if_neg (by omega)]
    have hle := left_le l l.length
    generalize left l l.length = n at *
    unfold tell
    by_cases h : n = 0
    · rw [if_pos (by omega), if_pos h]
    · have e1 : wrap64 ((n : Int) - 1) = ((n - 1 : Nat) : Int) := by unfold wrap64; omega
      rw [if_neg (by omega), if_neg h]
      simp only [Option.bind_some, e1]
      rw [if_pos (by omega), if_pos (by omega), show (((n - 1 : Nat) : Int)).toNat = n - 1 from by omega, if_pos (by simp; omega), if_pos (by omega), if_pos (by simp; omega)]
      simp
  | succ d ih =>
    intro k i hi hk
    obtain ⟨k, rfl⟩ : ∃ m, k = m + 1 := ⟨k - 1, by omega⟩
    have e1 : wrap64 ((i : Int) + 1) = ((i + 1 : Nat) : Int) := by unfold wrap64; omega
    simp only [commonholdref_Behind.l0, e1]
    rw [if_pos (by omega), if_pos (by omega), if_pos (by omega)]
    have := ih k (i + 1) (by omega) (by omega)
    by_cases h : rd l i = 255
    · rw [if_pos h]
      rw [show left l (i + 1) = left l i from by simp only [left]; rw [if_pos h]] at this
      exact this
    · rw [if_neg h]
      rw [show left l (i + 1) = i + 1 from by simp only [left]; rw [if_neg h]] at this
      exact this
theorem tell_len (l : List Int) (n : Nat) (hn : n ≤ l.length) : (tell l n).1.length ≤ l.length := by
  unfold tell
  split
  · simp
  · simp; omega
end Go.Proofs.Ytaadljjfckhinab.Pure.KeyNextsOf
namespace Go.Proofs.Ytaadljjfckhinab.Pure
open Go Go.RowKit Go.Proofs.Ytaadljjfckhinab.PKeyNexts Go.Proofs.YtaadljjfckhinabW.PrintWords Go.Proofs.YtaadljjfckhinabW.PrintLast KeyNextsOf
theorem KeyNexts : commonholdlaw_KeyNexts.Pure := by
  intro l hm hl hw
  refine ⟨l.length + 1, ?_⟩
  have ho : commonholdlaw_octets.f l = some l := by
    unfold commonholdlaw_octets.f
    rw [if_pos (by simp; omega), List.nil_append]
  unfold commonholdlaw_KeyNexts.f
  rw [ho]
  simp only [Option.bind_some]
  unfold key_Next.f commonholdref_Behind.f
  by_cases h : (l.length : Int) > 1200
  · rw [if_pos h, if_pos h]
    simp only [Option.bind_some]
    rw [same_self [] (by simp) _ (by simp)]
    simp
  · rw [if_neg h, if_neg h, next_from l (by omega) hw l.length (l.length + 1) (by omega) (by omega)]
    have hb := behind_from l (by omega) l.length (l.length + 1) 0 (by omega) (by omega)
    rw [show left l 0 = 0 from rfl] at hb
    rw [show ((0 : Nat) : Int) = 0 from rfl] at hb
    rw [hb]
    simp only [Option.bind_some]
    have ht := tell_len l (left l l.length) (left_le l l.length)
    rw [same_self _ (by omega) _ (by omega)]
    simp
end Go.Proofs.Ytaadljjfckhinab.Pure
