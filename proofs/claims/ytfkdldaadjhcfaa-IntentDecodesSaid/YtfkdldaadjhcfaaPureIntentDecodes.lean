/- intent.Decode answers as its reference does, at all bytes. No condition beyond the statement's own. -/
import Derived.Test.YtfkdldaadjhcfaaPIntentDecodesx12
import Derived.Test.YtfkdldaadjhcfaaBig
import Derived.Lib.BytesEntry
namespace Go.Proofs.Ytfkdldaadjhcfaa.Pure.IntentDecodesOf
open Go Go.RowKit Go.Proofs.Ytfkdldaadjhcfaa.PIntentDecodes Go.Proofs.YtfkdldaadjhcfaaW.PrintWords Go.Proofs.YtfkdldaadjhcfaaW.PrintLast Go.Proofs.Ytfkdldaadjhcfaa.Bg
theorem drop_bytes (s : ByteArray) (i : Nat) (h : i < s.size) : s.data.toList.drop i = s[i] :: s.data.toList.drop (i + 1) := by
  rw [List.drop_eq_getElem_cons (by simpa using h)]
  rfl
/-- textOrder compares as the list does. -/
theorem order_from (s t : ByteArray) (hs : (s.size : Int) ≤ 9223372036854775807) (_ht : (t.size : Int) ≤ 9223372036854775807) (d : Nat) : ∀ i : Nat, i ≤ s.size → i ≤ t.size → s.size - i = d →
    Big (fun k => commonholdref_textOrder.l0 k s t (i : Int)) (Lib.compareBytes (s.data.toList.drop i) (t.data.toList.drop i)) := by
  induction d with
  | zero =>
    intro i h0 h1 hd
    have hi : i = s.size := by omega
    refine Big.succ ?_
    simp only [commonholdref_textOrder.l0]
    simp only [if_neg (show ¬ (i : Int) < (s.size : Int) by omega)]
    refine Big.succ ?_
    simp only [commonholdref_textOrder.j1]
    simp only [if_neg (show ¬ (false = true) by decide)]
    rw [List.drop_eq_nil_of_le (show s.data.toList.length ≤ i by simp; omega)]
    by_cases h : i < t.size
    · simp only [if_pos (show (s.size : Int) < (t.size : Int) by omega)]
      rw [drop_bytes t i h]
      exact Big.of _
    · simp only [if_neg (show ¬ (s.size : Int) < (t.size : Int) by omega), if_neg (show ¬ (s.size : Int) > (t.size : Int) by omega)]
      rw [List.drop_eq_nil_of_le (show t.data.toList.length ≤ i by simp; omega)]
      exact Big.of _
  | succ d ih =>
    intro i h0 h1 hd
    have hi : i < s.size := by omega
    refine Big.succ ?_
    simp only [commonholdref_textOrder.l0]
    simp only [if_pos (show (i : Int) < (s.size : Int) by omega)]
    refine Big.succ ?_
    simp only [commonholdref_textOrder.j1]
    rw [drop_bytes s i hi]
    by_cases h : i < t.size
    · simp only [decide_eq_true (show (i : Int) < (t.size : Int) by omega), if_pos (show (i : Int) < (t.size : Int) by omega), if_pos (show (i : Int) < (s.size : Int) by omega), if_pos (show (0 : Int) ≤ (i : Int) by omega), if_true]
      rw [drop_bytes t i h, bt_at' s i hi, bt_at' t i h]
      simp only [Lib.compareBytes]
      by_cases c1 : s[i] < t[i]
      · have c2 : (s[i].toNat : Int) < (t[i].toNat : Int) := by have := UInt8.lt_iff_toNat_lt.1 c1; omega
        simp only [if_pos c2, if_pos c1]
        exact Big.of _
      · have c2 : ¬ (s[i].toNat : Int) < (t[i].toNat : Int) := fun hc => c1 (UInt8.lt_iff_toNat_lt.2 (by omega))
        by_cases c3 : t[i] < s[i]
        · have c4 : (s[i].toNat : Int) > (t[i].toNat : Int) := by have := UInt8.lt_iff_toNat_lt.1 c3; omega
          simp only [if_neg c2, if_pos c4, if_neg c1, if_pos c3]
          exact Big.of _
        · have c4 : ¬ (s[i].toNat : Int) > (t[i].toNat : Int) := fun hc => c3 (UInt8.lt_iff_toNat_lt.2 (by omega))
          simp only [if_neg c2, if_neg c4, if_neg c1, if_neg c3]
          rw [w64 (x := (i : Int) + 1) (by omega) (by omega)]
          exact ih (i + 1) (by omega) (by omega) (by omega)
    · have hn : t.data.toList.drop i = [] := List.drop_eq_nil_of_le (by simp; omega)
      simp only [decide_eq_false (show ¬ (i : Int) < (t.size : Int) by omega)]
      simp only [if_neg (show ¬ (false = true) by decide), if_neg (show ¬ (s.size : Int) < (t.size : Int) by omega), if_pos (show (s.size : Int) > (t.size : Int) by omega)]
      rw [hn]
      exact Big.of _
theorem order_all (s t : ByteArray) (hs : (s.size : Int) ≤ 9223372036854775807) (ht : (t.size : Int) ≤ 9223372036854775807) :
    Big (fun k => commonholdref_textOrder.f k s t) (Lib.compareBytes s.data.toList t.data.toList) := by
  have h := order_from s t hs ht s.size 0 (by omega) (by omega) (by omega)
  simp only [List.drop_zero] at h
  exact h
theorem less_all (a b : List Int) (ha : (a.length : Int) ≤ 9223372036854775807) (hb : (b.length : Int) ≤ 9223372036854775807) :
    Big (fun k => commonholdref_bytesLess.f k a b) (decide (Lib.compareBytes (Lib.bytesOf a) (Lib.bytesOf b) < 0)) := by
  have sz : ∀ l : List Int, (strOfNums l).size = l.length := fun l => by simp [strOfNums, ByteArray.size]
  have e : ∀ l : List Int, (strOfNums l).data.toList = Lib.bytesOf l := fun l => rfl
  have h := order_all (strOfNums a) (strOfNums b) (by rw [sz]; exact ha) (by rw [sz]; exact hb)
  rw [e, e] at h
  unfold commonholdref_bytesLess.f
  exact Big.bind h (Big.of _)

/-- Four bytes of a number. -/
def enc4 (n : Int) : List Int := [n % 256, n / 256 % 256, n / 65536 % 256, n / 16777216 % 256]
def encR (r : S83) : List Int := enc4 r.f0.length ++ r.f0 ++ enc4 r.f1.length ++ r.f1
def encW (x : S88) : List Int := enc4 x.f0.length ++ x.f0 ++ [if x.f2 = true then 1 else 0] ++ enc4 x.f1.length ++ x.f1
def encHead (a b c n : Int) : List Int := [a, b, c, n].flatMap enc4
theorem encHead_at (a b c n : Int) : encHead a b c n = enc4 a ++ enc4 b ++ enc4 c ++ enc4 n := by simp [encHead]
def encAll (a b c : Int) (l3 : List S83) (l4 : List S88) : List Int := encHead a b c l3.length ++ l3.flatMap encR ++ enc4 l4.length ++ l4.flatMap encW
def gdW (x : S88) : Prop := x.f0.length ≤ 9223372036854775807
/-- May a range be? -/
def rok (x : S83) : Bool := decide (x.f0.length ≤ 1201) && decide (x.f1.length ≤ 1201)
def rgo (l : List S83) : Nat → Nat → Bool
  | 0, _ => true
  | d + 1, i => rok (rd_T83 l i) && rgo l d (i + 1)
/-- May a write be, by itself? -/
def wok (x : S88) : Bool := decide (1 ≤ x.f0.length) && (decide (x.f0.length ≤ 1200) && (decide (x.f1.length ≤ 4000) && !(x.f2 && decide (0 < x.f1.length))))
/-- Does a write stand behind the one ahead of it? -/
def wbh (l : List S88) (i : Nat) : Bool := decide (i = 0) || decide (Lib.compareBytes (Lib.bytesOf (rd_T88 l ((i - 1 : Nat) : Int)).f0) (Lib.bytesOf (rd_T88 l i).f0) < 0)
def wgo (l : List S88) : Nat → Nat → Bool
  | 0, _ => true
  | d + 1, i => wok (rd_T88 l i) && (wbh l i && wgo l d (i + 1))
def spec (a b c : Int) (rs : List S83) (ws : List S88) : Bool :=
  decide (1 ≤ a) && (decide (a ≤ 1048576) && (decide (1 ≤ b) && (decide (b ≤ 1048576) && (decide (0 ≤ c) && (decide (c ≤ 1048576) && (decide (rs.length ≤ 400) && (decide (ws.length ≤ 400) && (rgo rs rs.length 0 && wgo ws ws.length 0))))))))

/-! The program's -/
theorem may_w (a b c : Int) (rs : List S83) (ws : List S88) (hw : ws.length ≤ 400) (d : Nat) : ∀ i : Nat, i + d = ws.length →
    Big (fun k => intent_May.l1 k ws (ws.length : Int) (i : Int) a b c rs ws) (wgo ws d i) := by
  induction d with
  | zero =>
    intro i hi
    refine Big.succ ?_
    simp only [intent_May.l1]
    simp only [if_neg (show ¬ (i : Int) < (ws.length : Int) by omega)]
    exact Big.of _
  | succ d ih =>
    intro i hi
    refine Big.succ ?_
    simp only [intent_May.l1]
    simp only [if_pos (show (i : Int) < (ws.length : Int) by omega), if_pos (show (0 : Int) ≤ (i : Int) by omega)]
    have hi1 := ih (i + 1) (by omega)
    have ew : wrap64 ((i : Int) + 1) = ((i + 1 : Nat) : Int) := by rw [w64 (by omega) (by omega)]; omega
    have hj : ∀ b2 : Bool, wok (rd_T88 ws i) = !b2 → Big (fun k => intent_May.j3 k (i : Int) ws (ws.length : Int) (i : Int) b2 a b c rs ws (rd_T88 ws i).f0 (rd_T88 ws i).f1 (rd_T88 ws i).f2) (wgo ws (d + 1) i) := by
      intro b2 hb
      refine Big.succ ?_
      simp only [intent_May.j3, ew]
      cases b2 with
      | true =>
        simp only [if_true]
        refine (Big.of false).cast ?_
        simp [wgo, hb]
      | false =>
        simp only [if_neg (show ¬ (false = true) by decide)]
        have hb' : wok (rd_T88 ws i) = true := by rw [hb]; rfl
        by_cases h0 : i = 0
        · subst h0
          simp only [if_neg (show ¬ ((0 : Nat) : Int) > 0 by omega)]
          refine hi1.cast ?_
          show _ = (wok (rd_T88 ws ((0 : Nat) : Int)) && (wbh ws 0 && wgo ws d (0 + 1)))
          rw [hb']
          simp [wbh]
        · have ep : wrap64 ((i : Int) - 1) = ((i - 1 : Nat) : Int) := by rw [w64 (by omega) (by omega)]; omega
          simp only [if_pos (show (i : Int) > 0 by omega), ep, if_pos (show (0 : Int) ≤ ((i - 1 : Nat) : Int) by omega), if_pos (show ((i - 1 : Nat) : Int) < (ws.length : Int) by omega)]
          refine Big.bind1 rfl ?_
          by_cases hc : Lib.compareBytes (Lib.bytesOf (rd_T88 ws ((i - 1 : Nat) : Int)).f0) (Lib.bytesOf (rd_T88 ws i).f0) ≥ 0
          · simp only [if_pos hc]
            refine (Big.of false).cast ?_
            have : wbh ws i = false := by
              unfold wbh
              rw [decide_eq_false h0, decide_eq_false (by omega)]; rfl
            simp [wgo, this]
          · simp only [if_neg hc]
            refine hi1.cast ?_
            have : wbh ws i = true := by
              unfold wbh
              rw [decide_eq_true (show _ < (0 : Int) by omega)]; simp
            simp [wgo, hb', this]
    by_cases h1 : ((rd_T88 ws i).f0.length : Int) < 1
    · simp only [if_pos h1]
      exact hj true (by unfold wok; rw [decide_eq_false (by omega)]; rfl)
    · simp only [if_neg h1]
      by_cases h2 : ((rd_T88 ws i).f0.length : Int) > 1200
      · simp only [if_pos h2]
        exact hj true (by unfold wok; rw [decide_eq_false (show ¬ (rd_T88 ws i).f0.length ≤ 1200 by omega)]; simp)
      · simp only [if_neg h2]
        by_cases h3 : ((rd_T88 ws i).f1.length : Int) > 4000
        · simp only [if_pos h3]
          exact hj true (by unfold wok; rw [decide_eq_false (show ¬ (rd_T88 ws i).f1.length ≤ 4000 by omega)]; simp)
        · simp only [if_neg h3]
          have hk : wok (rd_T88 ws i) = !((rd_T88 ws i).f2 && decide (0 < (rd_T88 ws i).f1.length)) := by
            unfold wok
            rw [decide_eq_true (show 1 ≤ (rd_T88 ws i).f0.length by omega), decide_eq_true (show (rd_T88 ws i).f0.length ≤ 1200 by omega), decide_eq_true (show (rd_T88 ws i).f1.length ≤ 4000 by omega)]
            simp
          by_cases h4 : (rd_T88 ws i).f2 = true
          · simp only [if_pos h4]
            refine hj _ ?_
            rw [hk, h4]
            simp
          · simp only [if_neg h4]
            refine hj _ ?_
            rw [hk]
            simp [h4]
theorem may_r (a b c : Int) (rs : List S83) (ws : List S88) (hr : rs.length ≤ 400) (hw : ws.length ≤ 400) (d : Nat) : ∀ i : Nat, i + d = rs.length →
    Big (fun k => intent_May.l0 k rs (rs.length : Int) (i : Int) a b c rs ws) (rgo rs d i && wgo ws ws.length 0) := by
  induction d with
  | zero =>
    intro i hi
    refine Big.succ ?_
    simp only [intent_May.l0]
    simp only [if_neg (show ¬ (i : Int) < (rs.length : Int) by omega)]
    exact may_w a b c rs ws hw ws.length 0 (by omega)
  | succ d ih =>
    intro i hi
    refine Big.succ ?_
    simp only [intent_May.l0]
    have hi1 := ih (i + 1) (by omega)
    have ew : wrap64 ((i : Int) + 1) = ((i + 1 : Nat) : Int) := by rw [w64 (by omega) (by omega)]; omega
    simp only [if_pos (show (i : Int) < (rs.length : Int) by omega), if_pos (show (0 : Int) ≤ (i : Int) by omega), ew]
    by_cases h1 : ((rd_T83 rs i).f0.length : Int) < ((rd_T83 rs i).f1.length : Int)
    · simp only [if_pos h1]
      by_cases h2 : ((rd_T83 rs i).f1.length : Int) > 1201
      · simp only [if_pos h2]
        refine (Big.of false).cast ?_
        have : rok (rd_T83 rs i) = false := by unfold rok; rw [decide_eq_false (show ¬ (rd_T83 rs i).f1.length ≤ 1201 by omega)]; simp
        simp [rgo, this]
      · simp only [if_neg h2]
        refine hi1.cast ?_
        have : rok (rd_T83 rs i) = true := by unfold rok; rw [decide_eq_true (show (rd_T83 rs i).f1.length ≤ 1201 by omega), decide_eq_true (show (rd_T83 rs i).f0.length ≤ 1201 by omega)]; simp
        simp [rgo, this]
    · simp only [if_neg h1]
      by_cases h2 : ((rd_T83 rs i).f0.length : Int) > 1201
      · simp only [if_pos h2]
        refine (Big.of false).cast ?_
        have : rok (rd_T83 rs i) = false := by unfold rok; rw [decide_eq_false (show ¬ (rd_T83 rs i).f0.length ≤ 1201 by omega)]; simp
        simp [rgo, this]
      · simp only [if_neg h2]
        refine hi1.cast ?_
        have : rok (rd_T83 rs i) = true := by unfold rok; rw [decide_eq_true (show (rd_T83 rs i).f1.length ≤ 1201 by omega), decide_eq_true (show (rd_T83 rs i).f0.length ≤ 1201 by omega)]; simp
        simp [rgo, this]
theorem may_all (a b c : Int) (rs : List S83) (ws : List S88) : Big (fun k => intent_May.f k a b c rs ws) (spec a b c rs ws) := by
  have hj : ∀ b2 : Bool, ∀ r : Bool, (b2 = true → r = false) → (b2 = false → rs.length ≤ 400 ∧ ws.length ≤ 400 ∧ r = (rgo rs rs.length 0 && wgo ws ws.length 0)) → Big (fun k => intent_May.j0 k b2 a b c rs ws) r := by
    intro b2 r h1 h2
    refine Big.succ ?_
    simp only [intent_May.j0]
    cases b2 with
    | true => simp only [if_true]; exact (Big.of false).cast (h1 rfl).symm
    | false =>
      simp only [if_neg (show ¬ (false = true) by decide)]
      obtain ⟨q1, q2, q3⟩ := h2 rfl
      exact (may_r a b c rs ws q1 q2 rs.length 0 (by omega)).cast q3.symm
  unfold intent_May.f intent_count.f
  have hc : ∀ x l : Int, (if x ≥ l then some (decide (x ≤ 1048576)) else some false) = some (decide (l ≤ x) && decide (x ≤ 1048576)) := by
    intro x l
    by_cases h : x ≥ l
    · rw [if_pos h, decide_eq_true (show l ≤ x from h)]; simp
    · rw [if_neg h, decide_eq_false (show ¬ l ≤ x from h)]; simp
  simp only [hc]
  have step : ∀ (t : Bool) (r : Bool) (F : Nat → Option Bool), (t = false → r = false) → (t = true → Big F r) → Big (fun k => (some t).bind fun t102 => (if t102 = true then F k else intent_May.j0 k true a b c rs ws)) r := by
    intro t r F h1 h2
    refine Big.bind1 rfl ?_
    cases t with
    | true => simp only [if_true]; exact h2 rfl
    | false => simp only [if_neg (show ¬ (false = true) by decide)]; exact hj true r (fun _ => h1 rfl) (fun h => by cases h)
  refine step _ _ _ (fun h => ?_) (fun h1 => step _ _ _ (fun h => ?_) (fun h2 => step _ _ _ (fun h => ?_) (fun h3 => ?_)))
  · unfold spec; rw [← Bool.and_assoc, h]; simp
  · unfold spec; rw [← Bool.and_assoc (decide (1 ≤ b)), h]; simp
  · unfold spec; rw [← Bool.and_assoc (decide (0 ≤ c)), h]; simp
  · have hs : spec a b c rs ws = (decide (rs.length ≤ 400) && (decide (ws.length ≤ 400) && (rgo rs rs.length 0 && wgo ws ws.length 0))) := by
      unfold spec
      rw [← Bool.and_assoc (decide (0 ≤ c)), h3, ← Bool.and_assoc (decide (1 ≤ b)), h2, ← Bool.and_assoc (decide (1 ≤ a)), h1]
      simp
    by_cases q : (rs.length : Int) > 400
    · simp only [if_pos q]
      refine hj _ _ (fun _ => ?_) (fun h => by cases h)
      rw [hs, decide_eq_false (by omega)]; rfl
    · simp only [if_neg q]
      refine hj _ _ (fun h => ?_) (fun h => ⟨by omega, ?_, ?_⟩)
      · have := of_decide_eq_true h
        rw [hs, decide_eq_false (show ¬ ws.length ≤ 400 by omega)]; simp
      · have := of_decide_eq_false h
        omega
      · have := of_decide_eq_false h
        rw [hs, decide_eq_true (show rs.length ≤ 400 by omega), decide_eq_true (show ws.length ≤ 400 by omega)]; simp

/-! The reference's -/
theorem len_rd (l : List S88) (hg : ∀ x ∈ l, gdW x) (i : Nat) (h : i < l.length) : ((rd_T88 l (i : Int)).f0.length : Int) ≤ 9223372036854775807 := by
  have e : rd_T88 l (i : Int) = l[i] := by simp [rd_T88, List.getD_eq_getElem?_getD, h]
  rw [e]
  have h2 : l[i].f0.length ≤ 9223372036854775807 := hg l[i] (List.getElem_mem h)
  omega
theorem ref_w (a b c : Int) (rs : List S83) (ws : List S88) (hg : ∀ x ∈ ws, gdW x) (hw : ws.length ≤ 400) (d : Nat) : ∀ i : Nat, i + d = ws.length →
    Big (fun k => commonholdref_IntentMay.l1 k ws (ws.length : Int) (i : Int) a b c rs ws) (wgo ws d i) := by
  induction d with
  | zero =>
    intro i hi
    refine Big.succ ?_
    simp only [commonholdref_IntentMay.l1]
    simp only [if_neg (show ¬ (i : Int) < (ws.length : Int) by omega)]
    exact Big.of _
  | succ d ih =>
    intro i hi
    refine Big.succ ?_
    simp only [commonholdref_IntentMay.l1]
    simp only [if_pos (show (i : Int) < (ws.length : Int) by omega), if_pos (show (0 : Int) ≤ (i : Int) by omega)]
    have hi1 := ih (i + 1) (by omega)
    have ew : wrap64 ((i : Int) + 1) = ((i + 1 : Nat) : Int) := by rw [w64 (by omega) (by omega)]; omega
    have hj : ∀ b2 : Bool, wok (rd_T88 ws i) = !b2 → Big (fun k => commonholdref_IntentMay.j4 k (i : Int) ws (ws.length : Int) (i : Int) b2 a b c rs ws (rd_T88 ws i).f0 (rd_T88 ws i).f1 (rd_T88 ws i).f2) (wgo ws (d + 1) i) := by
      intro b2 hb
      refine Big.succ ?_
      simp only [commonholdref_IntentMay.j4, ew]
      cases b2 with
      | true =>
        simp only [if_true]
        refine (Big.of false).cast ?_
        simp [wgo, hb]
      | false =>
        simp only [if_neg (show ¬ (false = true) by decide)]
        have hb' : wok (rd_T88 ws i) = true := by rw [hb]; rfl
        by_cases h0 : i = 0
        · subst h0
          simp only [if_neg (show ¬ ((0 : Nat) : Int) > 0 by omega)]
          refine hi1.cast ?_
          show _ = (wok (rd_T88 ws ((0 : Nat) : Int)) && (wbh ws 0 && wgo ws d (0 + 1)))
          rw [hb']
          simp [wbh]
        · have ep : wrap64 ((i : Int) - 1) = ((i - 1 : Nat) : Int) := by rw [w64 (by omega) (by omega)]; omega
          simp only [if_pos (show (i : Int) > 0 by omega), ep, if_pos (show (0 : Int) ≤ ((i - 1 : Nat) : Int) by omega), if_pos (show ((i - 1 : Nat) : Int) < (ws.length : Int) by omega)]
          refine Big.bind (less_all _ _ (len_rd ws hg (i - 1) (by omega)) (len_rd ws hg i (by omega))) ?_
          by_cases hc : Lib.compareBytes (Lib.bytesOf (rd_T88 ws ((i - 1 : Nat) : Int)).f0) (Lib.bytesOf (rd_T88 ws i).f0) < 0
          · simp only [decide_eq_true hc, if_true]
            refine hi1.cast ?_
            have : wbh ws i = true := by
              unfold wbh
              rw [decide_eq_true hc]; simp
            simp [wgo, hb', this]
          · simp only [decide_eq_false hc, if_neg (show ¬ (false = true) by decide)]
            refine (Big.of false).cast ?_
            have : wbh ws i = false := by
              unfold wbh
              rw [decide_eq_false h0, decide_eq_false hc]; rfl
            simp [wgo, this]
    by_cases h1 : ((rd_T88 ws i).f0.length : Int) = 0
    · simp only [if_pos h1]
      exact hj true (by unfold wok; rw [decide_eq_false (by omega)]; rfl)
    · simp only [if_neg h1]
      by_cases h2 : ((rd_T88 ws i).f0.length : Int) > 1200
      · simp only [if_pos h2]
        exact hj true (by unfold wok; rw [decide_eq_false (show ¬ (rd_T88 ws i).f0.length ≤ 1200 by omega)]; simp)
      · simp only [if_neg h2]
        by_cases h3 : ((rd_T88 ws i).f1.length : Int) > 4000
        · simp only [if_pos h3]
          exact hj true (by unfold wok; rw [decide_eq_false (show ¬ (rd_T88 ws i).f1.length ≤ 4000 by omega)]; simp)
        · simp only [if_neg h3]
          have hk : wok (rd_T88 ws i) = !((rd_T88 ws i).f2 && decide (0 < (rd_T88 ws i).f1.length)) := by
            unfold wok
            rw [decide_eq_true (show 1 ≤ (rd_T88 ws i).f0.length by omega), decide_eq_true (show (rd_T88 ws i).f0.length ≤ 1200 by omega), decide_eq_true (show (rd_T88 ws i).f1.length ≤ 4000 by omega)]
            simp
          by_cases h4 : (rd_T88 ws i).f2 = true
          · simp only [if_pos h4]
            refine hj _ ?_
            rw [hk, h4]
            by_cases h5 : (rd_T88 ws i).f1.length = 0
            · simp [h5]
            · rw [decide_eq_true (show 0 < (rd_T88 ws i).f1.length by omega)]
              have : ((((rd_T88 ws i).f1.length : Nat) : Int) != 0) = true := by rw [bne_iff_ne]; omega
              rw [this]; rfl
          · simp only [if_neg h4]
            refine hj _ ?_
            rw [hk]
            simp [h4]
theorem ref_r (a b c : Int) (rs : List S83) (ws : List S88) (hg : ∀ x ∈ ws, gdW x) (hr : rs.length ≤ 400) (hw : ws.length ≤ 400) (d : Nat) : ∀ i : Nat, i + d = rs.length →
    Big (fun k => commonholdref_IntentMay.l0 k rs (rs.length : Int) (i : Int) a b c rs ws) (rgo rs d i && wgo ws ws.length 0) := by
  induction d with
  | zero =>
    intro i hi
    refine Big.succ ?_
    simp only [commonholdref_IntentMay.l0]
    simp only [if_neg (show ¬ (i : Int) < (rs.length : Int) by omega)]
    exact ref_w a b c rs ws hg hw ws.length 0 (by omega)
  | succ d ih =>
    intro i hi
    refine Big.succ ?_
    simp only [commonholdref_IntentMay.l0]
    have hi1 := ih (i + 1) (by omega)
    have ew : wrap64 ((i : Int) + 1) = ((i + 1 : Nat) : Int) := by rw [w64 (by omega) (by omega)]; omega
    simp only [if_pos (show (i : Int) < (rs.length : Int) by omega), if_pos (show (0 : Int) ≤ (i : Int) by omega), ew]
    by_cases h2 : ((rd_T83 rs i).f0.length : Int) > 1201
    · simp only [if_pos h2]
      refine (Big.of false).cast ?_
      have : rok (rd_T83 rs i) = false := by unfold rok; rw [decide_eq_false (show ¬ (rd_T83 rs i).f0.length ≤ 1201 by omega)]; simp
      simp [rgo, this]
    · simp only [if_neg h2]
      by_cases h3 : ((rd_T83 rs i).f1.length : Int) > 1201
      · simp only [if_pos h3]
        refine (Big.of false).cast ?_
        have : rok (rd_T83 rs i) = false := by unfold rok; rw [decide_eq_false (show ¬ (rd_T83 rs i).f1.length ≤ 1201 by omega)]; simp
        simp [rgo, this]
      · simp only [if_neg h3]
        refine hi1.cast ?_
        have : rok (rd_T83 rs i) = true := by unfold rok; rw [decide_eq_true (show (rd_T83 rs i).f1.length ≤ 1201 by omega), decide_eq_true (show (rd_T83 rs i).f0.length ≤ 1201 by omega)]; simp
        simp [rgo, this]
theorem ref_all (a b c : Int) (rs : List S83) (ws : List S88) (hg : ∀ x ∈ ws, gdW x) : Big (fun k => commonholdref_IntentMay.f k a b c rs ws) (spec a b c rs ws) := by
  have hj1 : ∀ b2 : Bool, (b2 = false → rs.length ≤ 400 ∧ ws.length ≤ 400) → Big (fun k => commonholdref_IntentMay.j1 k b2 a b c rs ws) (!b2 && (rgo rs rs.length 0 && wgo ws ws.length 0)) := by
    intro b2 h2
    refine Big.succ ?_
    simp only [commonholdref_IntentMay.j1]
    cases b2 with
    | true => simp only [if_true]; exact Big.of false
    | false =>
      simp only [if_neg (show ¬ (false = true) by decide)]
      obtain ⟨q1, q2⟩ := h2 rfl
      exact (ref_r a b c rs ws hg q1 q2 rs.length 0 (by omega)).cast (by simp)
  have hj0 : ∀ b2 : Bool, Big (fun k => commonholdref_IntentMay.j0 k b2 a b c rs ws) (!b2 && (decide (rs.length ≤ 400) && (decide (ws.length ≤ 400) && (rgo rs rs.length 0 && wgo ws ws.length 0)))) := by
    intro b2
    refine Big.succ ?_
    simp only [commonholdref_IntentMay.j0]
    cases b2 with
    | true => simp only [if_true]; exact Big.of false
    | false =>
      simp only [if_neg (show ¬ (false = true) by decide)]
      by_cases q : (rs.length : Int) > 400
      · simp only [if_pos q]
        refine (hj1 true (fun h => by cases h)).cast ?_
        rw [decide_eq_false (show ¬ rs.length ≤ 400 by omega)]; rfl
      · simp only [if_neg q]
        by_cases q2 : (ws.length : Int) > 400
        · simp only [decide_eq_true q2]
          refine (hj1 true (fun h => by cases h)).cast ?_
          rw [decide_eq_false (show ¬ ws.length ≤ 400 by omega)]; simp
        · simp only [decide_eq_false q2]
          refine (hj1 false (fun _ => ⟨by omega, by omega⟩)).cast ?_
          rw [decide_eq_true (show rs.length ≤ 400 by omega), decide_eq_true (show ws.length ≤ 400 by omega)]; simp
  unfold commonholdref_IntentMay.f
  by_cases q1 : a < 1
  · simp only [if_pos q1]
    refine (hj0 true).cast ?_
    unfold spec; rw [decide_eq_false (show ¬ 1 ≤ a by omega)]; rfl
  simp only [if_neg q1]
  by_cases q2 : a > 1048576
  · simp only [if_pos q2]
    refine (hj0 true).cast ?_
    unfold spec; rw [decide_eq_false (show ¬ a ≤ 1048576 by omega)]; simp
  simp only [if_neg q2]
  by_cases q3 : b < 1
  · simp only [if_pos q3]
    refine (hj0 true).cast ?_
    unfold spec; rw [decide_eq_false (show ¬ 1 ≤ b by omega)]; simp
  simp only [if_neg q3]
  by_cases q4 : b > 1048576
  · simp only [if_pos q4]
    refine (hj0 true).cast ?_
    unfold spec; rw [decide_eq_false (show ¬ b ≤ 1048576 by omega)]; simp
  simp only [if_neg q4]
  by_cases q5 : c < 0
  · simp only [if_pos q5]
    refine (hj0 true).cast ?_
    unfold spec; rw [decide_eq_false (show ¬ 0 ≤ c by omega)]; simp
  simp only [if_neg q5]
  refine (hj0 _).cast ?_
  unfold spec
  rw [decide_eq_true (show 1 ≤ a by omega), decide_eq_true (show a ≤ 1048576 by omega), decide_eq_true (show 1 ≤ b by omega), decide_eq_true (show b ≤ 1048576 by omega), decide_eq_true (show 0 ≤ c by omega)]
  by_cases q6 : c > 1048576
  · rw [decide_eq_true q6, decide_eq_false (show ¬ c ≤ 1048576 by omega)]; simp
  · rw [decide_eq_false q6, decide_eq_true (show c ≤ 1048576 by omega)]; simp
theorem same_from (l : List Int) (hl : (l.length : Int) ≤ 140737488355328) (d : Nat) : ∀ (k : Nat) (i : Int), 0 ≤ i → i ≤ l.length → (l.length : Int) - i = d → d < k → commonholdlaw_sameBytes.l0 k l l i = some true := by
  induction d with
  | zero =>
    intro k i h0 h1 hd hk
    obtain ⟨k, rfl⟩ : ∃ m, k = m + 1 := ⟨k - 1, by omega⟩
    simp only [commonholdlaw_sameBytes.l0]
    rw [if_neg (by omega)]
  | succ d ih =>
    intro k i h0 h1 hd hk
    obtain ⟨k, rfl⟩ : ∃ m, k = m + 1 := ⟨k - 1, by omega⟩
    simp only [commonholdlaw_sameBytes.l0]
    rw [if_pos (show i < (l.length : Int) by omega), if_pos h0, if_pos (show i < (l.length : Int) by omega)]
    simp only [if_true]
    rw [show wrap64 (i + 1) = i + 1 from by unfold wrap64; omega]
    exact ih k (i + 1) (by omega) (by omega) (by omega) (by omega)
theorem same_self (l : List Int) (hl : (l.length : Int) ≤ 140737488355328) : Big (fun k => commonholdlaw_sameBytes.f k l l) true := by
  refine ⟨l.length + 1, fun k hk => ?_⟩
  show (if (l.length : Int) = (l.length : Int) then _ else _) = some true
  rw [if_pos rfl]
  exact same_from l hl l.length k 0 (by omega) (by omega) (by omega) (by omega)

theorem rd77 (l : List S83) (i : Nat) (h : i < l.length) : rd_T83 l (i : Int) = l[i] := by simp [rd_T83, List.getD_eq_getElem?_getD, h]
theorem rd80 (l : List S88) (i : Nat) (h : i < l.length) : rd_T88 l (i : Int) = l[i] := by simp [rd_T88, List.getD_eq_getElem?_getD, h]
theorem rgo_at (l : List S83) : ∀ (d i : Nat), rgo l d i = true → ∀ j : Nat, i ≤ j → j < i + d → rok (rd_T83 l (j : Int)) = true := by
  intro d
  induction d with
  | zero => intro i _ j h1 h2; omega
  | succ d ih =>
    intro i h j h1 h2
    simp only [rgo, Bool.and_eq_true] at h
    by_cases e : j = i
    · subst e; exact h.1
    · exact ih (i + 1) h.2 j (by omega) (by omega)
theorem wgo_at (l : List S88) : ∀ (d i : Nat), wgo l d i = true → ∀ j : Nat, i ≤ j → j < i + d → wok (rd_T88 l (j : Int)) = true := by
  intro d
  induction d with
  | zero => intro i _ j h1 h2; omega
  | succ d ih =>
    intro i h j h1 h2
    simp only [wgo, Bool.and_eq_true] at h
    by_cases e : j = i
    · subst e; exact h.1
    · exact ih (i + 1) h.2.2 j (by omega) (by omega)
theorem le_len (n : Int) : (enc4 n).length = 4 := by simp [enc4]
theorem range_len (r : S83) (h : rok r = true) : (encR r).length ≤ 2410 := by
  simp only [rok, Bool.and_eq_true, decide_eq_true_eq] at h
  simp only [encR, List.length_append, le_len]
  omega
theorem write_len (x : S88) (h : wok x = true) : (encW x).length ≤ 5209 := by
  simp only [wok, Bool.and_eq_true, decide_eq_true_eq] at h
  simp only [encW, List.length_append, le_len, List.length_singleton]
  omega
theorem flat_le {α : Type} (F : α → List Int) (c : Nat) : ∀ l : List α, (∀ x ∈ l, (F x).length ≤ c) → (l.flatMap F).length ≤ c * l.length := by
  intro l
  induction l with
  | nil => intro _; simp
  | cons x l ih =>
    intro h
    have h1 := ih fun y hy => h y (List.mem_cons_of_mem _ hy)
    have h2 := h x (List.mem_cons_self ..)
    rw [List.flatMap_cons, List.length_append, List.length_cons, Nat.mul_add]
    omega
theorem spec_of {a b c : Int} {rs : List S83} {ws : List S88} (h : spec a b c rs ws = true) : (1 ≤ a ∧ a ≤ 1048576) ∧ (1 ≤ b ∧ b ≤ 1048576) ∧ (0 ≤ c ∧ c ≤ 1048576) ∧ rs.length ≤ 400 ∧ ws.length ≤ 400 ∧ (∀ x ∈ rs, rok x = true) ∧ ∀ x ∈ ws, wok x = true := by
  simp only [spec, Bool.and_eq_true, decide_eq_true_eq] at h
  obtain ⟨h1, h2, h3, h4, h5, h6, h7, h8, h9, h10⟩ := h
  refine ⟨⟨h1, h2⟩, ⟨h3, h4⟩, ⟨h5, h6⟩, h7, h8, fun x hx => ?_, fun x hx => ?_⟩
  · obtain ⟨i, hi, rfl⟩ := List.getElem_of_mem hx
    have := rgo_at rs _ _ h9 i (by omega) (by omega)
    rwa [rd77 rs i hi] at this
  · obtain ⟨i, hi, rfl⟩ := List.getElem_of_mem hx
    have := wgo_at ws _ _ h10 i (by omega) (by omega)
    rwa [rd80 ws i hi] at this
theorem bytes_len {a b c : Int} {rs : List S83} {ws : List S88} (h : spec a b c rs ws = true) : (encAll a b c rs ws).length ≤ 4000000 := by
  obtain ⟨-, -, -, h1, h2, h3, h4⟩ := spec_of h
  have q1 := flat_le encR 2410 rs fun x hx => range_len x (h3 x hx)
  have q2 := flat_le encW 5209 ws fun x hx => write_len x (h4 x hx)
  have q3 : (encHead a b c rs.length).length = 16 := rfl
  simp only [encAll, List.length_append, le_len, q3]
  omega
theorem little_of (n : Int) (h0 : 0 ≤ n) (h1 : n ≤ 9223372036854775807) : commonholdref_little.f n = some (enc4 n) := by
  unfold commonholdref_little.f enc4
  have q : ∀ m : Int, 0 ≤ m → m ≤ 9223372036854775807 → wrap64 m = m := fun m a b => w64 (by omega) (by omega)
  have e : ∀ d : Int, 0 < d → wrap64 (Int.tdiv n d) = n / d := by
    intro d hd
    rw [Int.tdiv_eq_ediv_of_nonneg h0]
    exact q _ (Int.ediv_nonneg h0 (by omega)) (Int.le_trans (Int.ediv_le_self _ h0) h1)
  rw [e 256 (by omega), e 65536 (by omega), e 16777216 (by omega)]
  have f : ∀ m : Int, 0 ≤ m → Int.tmod m 256 % 256 = m % 256 := by
    intro m hm
    rw [Int.tmod_eq_emod_of_nonneg hm]
    omega
  rw [f n h0, f _ (Int.ediv_nonneg h0 (by omega)), f _ (Int.ediv_nonneg h0 (by omega)), f _ (Int.ediv_nonneg h0 (by omega))]
theorem text_of (l m : List Int) (h : l.length + m.length ≤ 100000000) : commonholdref_withText.f l m = some (l ++ (enc4 m.length ++ m)) := by
  unfold commonholdref_withText.f
  rw [little_of _ (by omega) (by omega)]
  have h1 : l.length + (enc4 (m.length : Int)).length < 140737488355328 := by rw [le_len]; omega
  have h2 : (l ++ enc4 (m.length : Int)).length + m.length < 140737488355328 := by rw [List.length_append, le_len]; omega
  simp only [Option.bind_some, if_pos h1, if_pos h2, List.append_assoc]
theorem bytes_w (ws : List S88) (h4 : ∀ x ∈ ws, wok x = true) (hw : ws.length ≤ 400) : ∀ (d i : Nat) (acc : List Int), i + d = ws.length → acc.length + 5209 * d ≤ 4000000 →
    Big (fun k => commonholdref_intentBytes.l1 k acc ws (ws.length : Int) (i : Int)) (acc ++ (ws.drop i).flatMap encW) := by
  intro d
  induction d with
  | zero =>
    intro i acc hi hl
    refine Big.succ ?_
    simp only [commonholdref_intentBytes.l1]
    simp only [if_neg (show ¬ (i : Int) < (ws.length : Int) by omega)]
    rw [List.drop_eq_nil_of_le (by omega)]
    simp only [List.flatMap_nil, List.append_nil]
    exact Big.of _
  | succ d ih =>
    intro i acc hi hl
    have hi' : i < ws.length := by omega
    refine Big.succ ?_
    simp only [commonholdref_intentBytes.l1]
    simp only [if_pos (show (i : Int) < (ws.length : Int) by omega), if_pos (show (0 : Int) ≤ (i : Int) by omega)]
    have ew : wrap64 ((i : Int) + 1) = ((i + 1 : Nat) : Int) := by rw [w64 (by omega) (by omega)]; omega
    rw [rd80 ws i hi', ew]
    have hk := h4 ws[i] (List.getElem_mem hi')
    have hn := write_len _ hk
    have hk' := hk
    simp only [wok, Bool.and_eq_true, decide_eq_true_eq] at hk'
    rw [text_of acc _ (by omega)]
    refine Big.bind1 rfl ?_
    refine Big.bind1 (r := if ws[i].f2 = true then 1 else 0) (by unfold commonholdref_flag.f; split <;> rfl) ?_
    have e1 : (if ws[i].f2 = true then (1 : Int) else 0) % 256 = if ws[i].f2 = true then 1 else 0 := by split <;> rfl
    have e3 : (acc ++ (enc4 (ws[i].f0.length : Int) ++ ws[i].f0)).length < 140737488355328 := by simp only [List.length_append, le_len]; omega
    simp only [e1, if_pos e3]
    rw [text_of _ _ (by simp only [List.length_append, le_len, List.length_singleton]; omega)]
    refine Big.bind1 rfl ?_
    have := ih (i + 1) (acc ++ encW ws[i]) (by omega) (by rw [List.length_append]; omega)
    rw [List.drop_eq_getElem_cons hi', List.flatMap_cons]
    have e2 : acc ++ (enc4 (ws[i].f0.length : Int) ++ ws[i].f0) ++ [if ws[i].f2 = true then (1 : Int) else 0] ++ (enc4 (ws[i].f1.length : Int) ++ ws[i].f1) = acc ++ encW ws[i] := by simp [encW]
    rw [e2]
    exact this.cast (by simp)
theorem bytes_r (a b c : Int) (rs : List S83) (ws : List S88) (h3 : ∀ x ∈ rs, rok x = true) (h4 : ∀ x ∈ ws, wok x = true) (hr : rs.length ≤ 400) (hw : ws.length ≤ 400) : ∀ (d i : Nat) (acc : List Int), i + d = rs.length → acc.length + 2410 * d ≤ 1000000 →
    Big (fun k => commonholdref_intentBytes.l0 k acc rs (rs.length : Int) (i : Int) a b c rs ws) (acc ++ (rs.drop i).flatMap encR ++ enc4 ws.length ++ ws.flatMap encW) := by
  intro d
  induction d with
  | zero =>
    intro i acc hi hl
    refine Big.succ ?_
    simp only [commonholdref_intentBytes.l0]
    simp only [if_neg (show ¬ (i : Int) < (rs.length : Int) by omega)]
    rw [List.drop_eq_nil_of_le (by omega), little_of _ (by omega) (by omega)]
    refine Big.bind1 rfl ?_
    have e3 : acc.length + (enc4 (ws.length : Int)).length < 140737488355328 := by rw [le_len]; omega
    simp only [if_pos e3, List.flatMap_nil, List.append_nil]
    exact bytes_w ws h4 hw ws.length 0 _ (by omega) (by simp only [List.length_append, le_len]; omega)
  | succ d ih =>
    intro i acc hi hl
    have hi' : i < rs.length := by omega
    refine Big.succ ?_
    simp only [commonholdref_intentBytes.l0]
    simp only [if_pos (show (i : Int) < (rs.length : Int) by omega), if_pos (show (0 : Int) ≤ (i : Int) by omega)]
    have ew : wrap64 ((i : Int) + 1) = ((i + 1 : Nat) : Int) := by rw [w64 (by omega) (by omega)]; omega
    rw [rd77 rs i hi', ew]
    have hk := h3 rs[i] (List.getElem_mem hi')
    have hn := range_len _ hk
    have hk' := hk
    simp only [rok, Bool.and_eq_true, decide_eq_true_eq] at hk'
    rw [text_of acc _ (by omega)]
    refine Big.bind1 rfl ?_
    rw [text_of _ _ (by simp only [List.length_append, le_len]; omega)]
    refine Big.bind1 rfl ?_
    have := ih (i + 1) (acc ++ encR rs[i]) (by omega) (by rw [List.length_append]; omega)
    rw [List.drop_eq_getElem_cons hi', List.flatMap_cons]
    have e2 : acc ++ (enc4 (rs[i].f0.length : Int) ++ rs[i].f0) ++ (enc4 (rs[i].f1.length : Int) ++ rs[i].f1) = acc ++ encR rs[i] := by simp [encR]
    rw [e2]
    exact this.cast (by simp)
theorem bytes_all {a b c : Int} {rs : List S83} {ws : List S88} (h : spec a b c rs ws = true) : Big (fun k => commonholdref_intentBytes.f k a b c rs ws) (encAll a b c rs ws) := by
  obtain ⟨ha, hb, hc, h1, h2, h3, h4⟩ := spec_of h
  unfold commonholdref_intentBytes.f
  simp only [little_of a (by omega) (by omega), little_of b (by omega) (by omega), little_of c (by omega) (by omega), little_of (rs.length : Int) (by omega) (by omega), Option.bind_some, le_len, List.length_append, List.nil_append, List.length_nil, Nat.zero_add]
  simp only [show (4 : Nat) < 140737488355328 by decide, show (4 + 4 : Nat) < 140737488355328 by decide, show (4 + 4 + 4 : Nat) < 140737488355328 by decide, show (4 + 4 + 4 + 4 : Nat) < 140737488355328 by decide, if_true]
  have := bytes_r a b c rs ws h3 h4 h1 h2 rs.length 0 (encHead a b c rs.length) (by omega) (by rw [show (encHead a b c rs.length).length = 16 from rfl]; omega)
  rw [encHead_at] at this
  exact this.cast (by rw [List.drop_zero, encAll, encHead_at])

open intent_Decode in
theorem fl_m (m : List Int) (hb : b8 m) (h : 4 ≤ m.length) : commonholdref_fromLittle.f m = some (le (m.take 4)) := by
  match m, h with
  | a :: b :: c :: d :: r, _ =>
  have ha := hb a (by simp)
  have hb' := hb b (by simp)
  have hc := hb c (by simp)
  have hd := hb d (by simp)
  have q : ∀ x : Int, 0 ≤ x → x ≤ 1099511627776 → wrap64 x = x := fun x h0 h1 => w64 (by omega) (by omega)
  unfold commonholdref_fromLittle.f
  simp only [List.length_cons]
  rw [if_pos (by omega), if_pos (by omega), if_pos (by omega), if_pos (by omega)]
  rw [show rd (a :: b :: c :: d :: r) 0 = a from rfl, show rd (a :: b :: c :: d :: r) 1 = b from rfl, show rd (a :: b :: c :: d :: r) 2 = c from rfl, show rd (a :: b :: c :: d :: r) 3 = d from rfl]
  rw [q a (by omega) (by omega), q b (by omega) (by omega), q c (by omega) (by omega), q d (by omega) (by omega), q (256 * b) (by omega) (by omega), q (65536 * c) (by omega) (by omega), q (16777216 * d) (by omega) (by omega), q (a + 256 * b) (by omega) (by omega), q (a + 256 * b + 65536 * c) (by omega) (by omega), q (a + 256 * b + 65536 * c + 16777216 * d) (by omega) (by omega)]
  congr 1
  simp [le, rd]
  omega
open intent_Decode in
theorem enc_le (o : List Int) (hb : b8 o) (h : o.length = 4) : enc4 (le o) = o := by
  match o, h with
  | [a, b, c, d], _ =>
  have ha := hb a (by simp)
  have hb' := hb b (by simp)
  have hc := hb c (by simp)
  have hd := hb d (by simp)
  have e : le [a, b, c, d] = a + b * 256 + c * 65536 + d * 16777216 := by simp [le, rd]
  rw [e]
  simp only [enc4, List.cons.injEq, and_true]
  refine ⟨?_, ?_, ?_, ?_⟩ <;> omega
open intent_Decode in
theorem num_bad (m : List Int) : num (m, true) = (0, (m, true)) := by simp [num, take, le, rd]
open intent_Decode in
theorem text_bad (m : List Int) : text (m, true) = ([], (m, true)) := by rw [text, num_bad]; simp [take]
open intent_Decode in
theorem take_no (m : List Int) (n : Nat) (h : m.length < n) : take (m, false) n = ([], (m, true)) := by simp [take, h]
open intent_Decode in
theorem take_yes (m : List Int) (n : Nat) (h : n ≤ m.length) : take (m, false) n = (m.take n, (m.drop n, false)) := by
  unfold take
  rw [if_neg (by simp; omega)]
open intent_Decode in
theorem num_no (m : List Int) (h : m.length < 4) : num (m, false) = (0, (m, true)) := by rw [num, take_no m 4 h]; simp [le, rd]
open intent_Decode in
theorem num_yes (m : List Int) (h : 4 ≤ m.length) : num (m, false) = (le (m.take 4), (m.drop 4, false)) := by rw [num, take_yes m 4 h]
theorem cut_bad (l : List Int) : Big (fun k => commonholdref_cutText.f k l (-1)) ([], -1) := by
  refine Big.congr (g' := fun k => commonholdref_cutText.j0 k l (-1) true) (Big.succ (Big.eq fun k => by simp [commonholdref_cutText.j0])) (fun k => ?_)
  unfold commonholdref_cutText.f
  rw [if_pos (by decide)]
theorem b8_drop {l : List Int} (h : intent_Decode.b8 l) (a : Nat) : intent_Decode.b8 (l.drop a) := fun x hx => h x (List.mem_of_mem_drop hx)
theorem b8_take {l : List Int} (h : intent_Decode.b8 l) (a : Nat) : intent_Decode.b8 (l.take a) := fun x hx => h x (List.mem_of_mem_take hx)
theorem take_add (l : List Int) (a n : Nat) : l.take (a + n) = l.take a ++ (l.drop a).take n := List.take_add
open intent_Decode in
/-- A text at a place: both tell the same. -/
theorem cut_at (l : List Int) (hb : b8 l) (hl : l.length ≤ 4000) (a : Nat) (ha : a ≤ l.length) :
    (∃ (o : List Int) (b : Nat), Big (fun k => commonholdref_cutText.f k l (a : Int)) (o, (b : Int)) ∧ text (l.drop a, false) = (o, (l.drop b, false)) ∧ a + 4 ≤ b ∧ b ≤ l.length ∧ l.take b = l.take a ++ (enc4 o.length ++ o)) ∨
    ∃ m, Big (fun k => commonholdref_cutText.f k l (a : Int)) ([], -1) ∧ text (l.drop a, false) = ([], (m, true)) := by
  have hln : (l.drop a).length = l.length - a := List.length_drop
  have e4 : wrap64 ((a : Int) + 4) = (a : Int) + 4 := w64 (by omega) (by omega)
  have ref0 : ∀ k, commonholdref_cutText.f k l (a : Int) = commonholdref_cutText.j0 k l (a : Int) (decide ((a : Int) + 4 > (l.length : Int))) := fun k => by
    unfold commonholdref_cutText.f
    rw [if_neg (by omega), e4]
  by_cases h4 : a + 4 ≤ l.length
  · obtain ⟨n, hn⟩ := Int.eq_ofNat_of_zero_le (le_range (b8_take (b8_drop hb a) 4)).1
    have hn1 := (le_range (b8_take (b8_drop hb a) 4)).2
    have hnum : num (l.drop a, false) = ((n : Int), (l.drop (a + 4), false)) := by rw [num_yes _ (by omega), hn, List.drop_drop]
    have hln4 : (l.drop (a + 4)).length = l.length - (a + 4) := List.length_drop
    have htx : text (l.drop a, false) = take (l.drop (a + 4), false) n := by rw [text, hnum, Int.toNat_natCast]
    have ref1 : ∀ k, commonholdref_cutText.j0 (k + 1) l (a : Int) (decide ((a : Int) + 4 > (l.length : Int))) = if (n : Int) > (l.length : Int) - (a : Int) - 4 then some ([], -1) else if (a : Int) + 4 + n ≤ (l.length : Int) then some ((l.take (a + 4 + n)).drop (a + 4), ((a + 4 + n : Nat) : Int)) else none := fun k => by
      rw [hn] at hn1
      simp only [commonholdref_cutText.j0]
      rw [decide_eq_false (by omega), if_neg (by decide), if_pos (by omega), if_pos (by omega), Int.toNat_natCast, fl_m _ (b8_drop hb a) (by omega), hn, Option.bind_some]
      rw [show wrap64 (wrap64 ((l.length : Int) - (a : Int)) - 4) = (l.length : Int) - (a : Int) - 4 from by rw [w64 (x := (l.length : Int) - (a : Int)) (by omega) (by omega), w64 (by omega) (by omega)], e4]
      rw [show wrap64 ((a : Int) + 4 + (n : Int)) = (a : Int) + 4 + n from w64 (by omega) (by omega)]
      split
      · rfl
      · rw [if_pos (by omega), if_pos (by omega)]
        split
        · rw [show ((a : Int) + 4 + (n : Int)).toNat = a + 4 + n by omega, show ((a : Int) + 4).toNat = a + 4 by omega]
          unfold commonholdref_ownBytes.f
          rw [if_pos (by simp; omega), Option.bind_some, List.nil_append]
          congr 2
        · rfl
    by_cases hf : a + 4 + n ≤ l.length
    · refine .inl ⟨(l.drop (a + 4)).take n, a + 4 + n, ?_, ?_, by omega, hf, ?_⟩
      · refine Big.congr (Big.succ (Big.eq fun k => ?_)) ref0
        show commonholdref_cutText.j0 (k + 1) l (a : Int) _ = _
        rw [ref1, if_neg (by omega), if_pos (by omega), ← List.take_drop]
      · rw [htx, take_yes _ _ (by omega), List.drop_drop]
      · have he : enc4 (((l.drop (a + 4)).take n).length : Int) = (l.drop a).take 4 := by
          rw [List.length_take, show min n (l.drop (a + 4)).length = n by omega, ← hn]
          exact enc_le _ (b8_take (b8_drop hb a) 4) (by rw [List.length_take]; omega)
        rw [he, take_add l (a + 4) n, take_add l a 4, List.append_assoc]
    · refine .inr ⟨l.drop (a + 4), ?_, ?_⟩
      · refine Big.congr (Big.succ (Big.eq fun k => ?_)) ref0
        show commonholdref_cutText.j0 (k + 1) l (a : Int) _ = _
        rw [ref1, if_pos (by omega)]
      · rw [htx, take_no _ _ (by omega)]
  · refine .inr ⟨l.drop a, ?_, ?_⟩
    · refine Big.congr (Big.succ (Big.eq fun k => ?_)) ref0
      show commonholdref_cutText.j0 (k + 1) l (a : Int) _ = _
      simp only [commonholdref_cutText.j0]
      rw [decide_eq_true (by omega), if_pos rfl]
    · rw [text, num_no _ (by omega)]
      simp [take]
theorem rd_b8' {l : List Int} (h : intent_Decode.b8 l) (i : Nat) (hi : i < l.length) : 0 ≤ rd l (i : Int) ∧ rd l (i : Int) ≤ 255 := by rw [rd_at l i hi]; exact h _ (List.getElem_mem hi)
abbrev Res := Int × Int × Int × List S83 × List S88 × Int
def errV : Res := (0, 0, 0, [], [], 4)
theorem l0_neg (l : List Int) (c0 c1 c2 : Int) (j : Int) (acc : List S83) : Big (fun k => commonholdref_IntentDecoded.l0 k l (-1) j c0 c1 c2 acc) errV := by
  refine Big.succ (Big.succ (Big.succ (Big.eq fun k => ?_)))
  simp only [commonholdref_IntentDecoded.l0]
  have e : ∀ x : Bool, x = false → commonholdref_IntentDecoded.j2 (k + 1 + 1) l (-1) j x c0 c1 c2 acc = some errV := fun x hx => by
    subst hx
    simp only [commonholdref_IntentDecoded.j2]
    rw [if_neg (by decide), if_pos (by decide)]
    simp only [commonholdref_IntentDecoded.j3]
    rw [if_pos trivial]
    rfl
  split
  · exact e _ (by decide)
  · exact e _ rfl
theorem l0_step {l : List Int} {a : Nat} {j : Int} (hj : 0 < j) {c0 c1 c2 : Int} {acc : List S83} {o1 o2 : List Int} {p1 p2 : Int} {r : Res} (h1 : Big (fun k => commonholdref_cutText.f k l (a : Int)) (o1, p1)) (h2 : Big (fun k => commonholdref_cutText.f k l p1) (o2, p2)) (hc : acc.length < 2932031007402)
    (h : Big (fun k => commonholdref_IntentDecoded.l0 k l p2 (wrap64 (j - 1)) c0 c1 c2 (acc ++ [⟨o1, o2⟩])) r) : Big (fun k => commonholdref_IntentDecoded.l0 k l (a : Int) j c0 c1 c2 acc) r := by
  refine Big.succ (Big.succ ?_)
  simp only [commonholdref_IntentDecoded.l0]
  simp only [if_pos (show j > 0 from hj), commonholdref_IntentDecoded.j2]
  simp only [decide_eq_true (show (a : Int) ≥ 0 by omega), if_true]
  refine Big.bind h1 (Big.bind h2 ?_)
  simp only [if_pos hc]
  exact h
theorem many_bad_r (m : List Int) : ∀ n, intent_Decode.many Prod.snd intent_Decode.rng n (m, true) = ([], (m, true))
  | 0 => rfl
  | n + 1 => by simp [intent_Decode.many]
theorem many_bad_w (m : List Int) (o : Bool) : ∀ n, intent_Decode.many (fun s => s.1.2) intent_Decode.wrt n ((m, true), o) = ([], ((m, true), o))
  | 0 => rfl
  | n + 1 => by simp [intent_Decode.many]
theorem pred_of (n : Nat) (h : n + 1 ≤ 4294967295) : wrap64 (((n + 1 : Nat) : Int) - 1) = (n : Int) := by rw [w64 (by omega) (by omega)]; omega
open intent_Decode in
theorem reads_tell (l : List Int) (hb : b8 l) (hl : l.length ≤ 4000) (c0 c1 c2 : Int) : ∀ (n a : Nat) (acc : List S83), n ≤ 4294967295 → a ≤ l.length → acc.length ≤ a →
    (∃ b : Nat, b ≤ l.length ∧ a ≤ b ∧ (many Prod.snd rng n (l.drop a, false)).2 = (l.drop b, false) ∧ (many Prod.snd rng n (l.drop a, false)).1.length = n ∧ l.take b = l.take a ++ (many Prod.snd rng n (l.drop a, false)).1.flatMap encR ∧
      ∀ r, Big (fun k => commonholdref_IntentDecoded.l0 k l (b : Int) 0 c0 c1 c2 (acc ++ (many Prod.snd rng n (l.drop a, false)).1)) r → Big (fun k => commonholdref_IntentDecoded.l0 k l (a : Int) (n : Int) c0 c1 c2 acc) r) ∨
    ∃ m, (many Prod.snd rng n (l.drop a, false)).2 = (m, true) ∧ Big (fun k => commonholdref_IntentDecoded.l0 k l (a : Int) (n : Int) c0 c1 c2 acc) errV := by
  intro n
  induction n with
  | zero =>
    intro a acc _ ha _
    exact .inl ⟨a, ha, Nat.le_refl _, rfl, rfl, by simp [many], fun r h => by simpa [many] using h⟩
  | succ n ih =>
    intro a acc hn ha hc
    have hp : (0 : Int) < ((n + 1 : Nat) : Int) := by omega
    have hcc : acc.length < 2932031007402 := by omega
    rw [many, if_neg (by simp)]
    rcases cut_at l hb hl a ha with ⟨o1, b1, r1, t1, h1, h2, h3⟩ | ⟨m, r1, t1⟩
    · rcases cut_at l hb hl b1 h2 with ⟨o2, b2, r2, t2, h4, h5, h6⟩ | ⟨m, r2, t2⟩
      · have hr : rng (l.drop a, false) = (⟨o1, o2⟩, (l.drop b2, false)) := by simp only [rng, t1, t2]
        rw [hr]
        rcases ih b2 (acc ++ [⟨o1, o2⟩]) (by omega) h5 (by simp; omega) with ⟨b, g1, g2, g3, g4, g5, g6⟩ | ⟨m, g1, g2⟩
        · refine .inl ⟨b, g1, by omega, g3, by simp [g4], ?_, fun r h => l0_step hp r1 r2 hcc ?_⟩
          · rw [g5, h6, h3]
            simp [encR, List.append_assoc]
          · rw [pred_of n hn]
            exact g6 r (by simpa [List.append_assoc] using h)
        · exact .inr ⟨m, g1, l0_step hp r1 r2 hcc (by rw [pred_of n hn]; exact g2)⟩
      · have hr : rng (l.drop a, false) = (⟨o1, []⟩, (m, true)) := by simp only [rng, t1, t2]
        rw [hr, many_bad_r]
        exact .inr ⟨m, rfl, l0_step hp r1 r2 hcc (l0_neg _ _ _ _ _ _)⟩
    · have hr : rng (l.drop a, false) = (⟨[], []⟩, (m, true)) := by simp only [rng, t1, text_bad]
      rw [hr, many_bad_r]
      exact .inr ⟨m, rfl, l0_step hp r1 (cut_bad l) hcc (l0_neg _ _ _ _ _ _)⟩
/-! Writes -/
theorem l1_neg (l : List Int) (c0 c1 c2 : Int) (rs : List S83) (j : Int) (acc : List S88) : Big (fun k => commonholdref_IntentDecoded.l1 k l (-1) j c0 c1 c2 rs acc) errV := by
  refine Big.succ (Big.succ (Big.eq fun k => ?_))
  simp only [commonholdref_IntentDecoded.l1]
  have e : ∀ x : Bool, x = false → commonholdref_IntentDecoded.j5 (k + 1) l (-1) j x c0 c1 c2 rs acc = some errV := fun x hx => by
    subst hx
    simp only [commonholdref_IntentDecoded.j5]
    rw [if_neg (by decide), if_neg (by omega)]
    rfl
  split
  · exact e _ (by decide)
  · exact e _ rfl
theorem l1_bad {l : List Int} {a : Nat} {j : Int} (hj : 0 < j) {c0 c1 c2 : Int} {rs : List S83} {acc : List S88} {o1 : List Int} {p1 : Int} (h1 : Big (fun k => commonholdref_cutText.f k l (a : Int)) (o1, p1)) (hp : p1 < 0 ∨ p1 ≥ (l.length : Int)) : Big (fun k => commonholdref_IntentDecoded.l1 k l (a : Int) j c0 c1 c2 rs acc) errV := by
  refine Big.succ (Big.succ ?_)
  simp only [commonholdref_IntentDecoded.l1]
  simp only [if_pos (show j > 0 from hj), commonholdref_IntentDecoded.j5]
  simp only [decide_eq_true (show (a : Int) ≥ 0 by omega), if_true]
  refine Big.bind h1 (Big.eq fun k => ?_)
  by_cases h : p1 < 0
  · simp only [if_pos h]; rfl
  · simp only [if_neg h, if_pos (show p1 ≥ (l.length : Int) by omega)]; rfl
theorem l1_step {l : List Int} {a : Nat} {j : Int} (hj : 0 < j) {c0 c1 c2 : Int} {rs : List S83} {acc : List S88} {o1 o2 : List Int} {b1 : Nat} {p2 : Int} {r : Res} (h1 : Big (fun k => commonholdref_cutText.f k l (a : Int)) (o1, (b1 : Int))) (hb1 : b1 < l.length) (hl : l.length ≤ 4000) (h2 : Big (fun k => commonholdref_cutText.f k l ((b1 + 1 : Nat) : Int)) (o2, p2)) (hc : acc.length < 2513169434916)
    (h : Big (fun k => commonholdref_IntentDecoded.l1 k l p2 (wrap64 (j - 1)) c0 c1 c2 rs (acc ++ [⟨o1, o2, decide (rd l (b1 : Int) = 1)⟩])) r) : Big (fun k => commonholdref_IntentDecoded.l1 k l (a : Int) j c0 c1 c2 rs acc) r := by
  refine Big.succ (Big.succ ?_)
  simp only [commonholdref_IntentDecoded.l1]
  simp only [if_pos (show j > 0 from hj), commonholdref_IntentDecoded.j5]
  simp only [decide_eq_true (show (a : Int) ≥ 0 by omega), if_true]
  refine Big.bind h1 ?_
  simp only [if_neg (show ¬ (b1 : Int) < 0 by omega), if_neg (show ¬ (b1 : Int) ≥ (l.length : Int) by omega), if_pos (show (0 : Int) ≤ (b1 : Int) by omega), if_pos (show (b1 : Int) < (l.length : Int) by omega)]
  rw [show wrap64 ((b1 : Int) + 1) = ((b1 + 1 : Nat) : Int) from by rw [w64 (by omega) (by omega)]; omega]
  refine Big.bind h2 ?_
  simp only [if_pos hc]
  exact h
/-- What has been read is what its bytes are; or they differ at some place. -/
def Rel (l E : List Int) (a : Nat) (odd : Bool) : Prop := (odd = false → l.take a = E) ∧ (odd = true → ∃ p, p < E.length ∧ l[p]? ≠ E[p]?)
theorem Rel.step {l E : List Int} {a b1 b2 : Nat} {odd : Bool} {o1 o2 : List Int} (h : Rel l E a odd) (hb1 : b1 < l.length) (h1 : l.take b1 = l.take a ++ (enc4 o1.length ++ o1)) (hf : 0 ≤ rd l (b1 : Int) ∧ rd l (b1 : Int) ≤ 255) (h2 : l.take b2 = l.take (b1 + 1) ++ (enc4 o2.length ++ o2)) :
    Rel l (E ++ encW ⟨o1, o2, decide (rd l (b1 : Int) = 1)⟩) b2 (odd || decide (1 < rd l (b1 : Int))) := by
  have hx : rd l (b1 : Int) = l[b1] := rd_at l b1 hb1
  rw [hx] at hf ⊢
  have h3 : l.take (b1 + 1) = l.take b1 ++ [l[b1]] := List.take_succ_eq_append_getElem hb1
  refine ⟨fun ho => ?_, fun ho => ?_⟩
  · simp only [Bool.or_eq_false_iff, decide_eq_false_iff_not] at ho
    rw [h2, h3, h1, h.1 ho.1]
    have hfl : (if decide (l[b1] = 1) = true then (1 : Int) else 0) = l[b1] := by
      by_cases q : l[b1] = 1
      · simp [q]
      · simp [q]; omega
    simp only [encW, hfl, List.append_assoc]
  · cases hodd : odd with
    | true =>
      obtain ⟨p, hp, hne⟩ := h.2 hodd
      exact ⟨p, by simp; omega, by rw [List.getElem?_append_left hp]; exact hne⟩
    | false =>
      rw [hodd] at ho
      simp only [Bool.false_or, decide_eq_true_eq] at ho
      have hE := h.1 hodd
      have hlen : (E ++ (enc4 o1.length ++ o1)).length = b1 := by rw [← hE, ← h1, List.length_take]; omega
      refine ⟨b1, ?_, ?_⟩
      · have q := hlen
        simp only [List.length_append] at q
        simp only [encW, List.length_append, List.length_singleton]
        omega
      · have e1 : E ++ encW ⟨o1, o2, decide (l[b1] = 1)⟩ = (E ++ (enc4 o1.length ++ o1)) ++ (0 :: (enc4 o2.length ++ o2)) := by simp [encW, show ¬ l[b1] = 1 by omega]
        rw [e1, List.getElem?_append_right (by omega), hlen, Nat.sub_self, List.getElem?_eq_getElem hb1]
        simp
        omega
open intent_Decode in
theorem writes_tell (l : List Int) (hb : b8 l) (hl : l.length ≤ 4000) (c0 c1 c2 : Int) (rs : List S83) : ∀ (n a : Nat) (acc : List S88) (odd : Bool), n ≤ 4294967295 → a ≤ l.length → acc.length ≤ a →
    (∃ (b : Nat) (odd' : Bool), b ≤ l.length ∧ a ≤ b ∧ (many (fun s => s.1.2) wrt n ((l.drop a, false), odd)).2 = ((l.drop b, false), odd') ∧ (many (fun s => s.1.2) wrt n ((l.drop a, false), odd)).1.length = n ∧ (∀ E, Rel l E a odd → Rel l (E ++ (many (fun s => s.1.2) wrt n ((l.drop a, false), odd)).1.flatMap encW) b odd') ∧
      ∀ r, Big (fun k => commonholdref_IntentDecoded.l1 k l (b : Int) 0 c0 c1 c2 rs (acc ++ (many (fun s => s.1.2) wrt n ((l.drop a, false), odd)).1)) r → Big (fun k => commonholdref_IntentDecoded.l1 k l (a : Int) (n : Int) c0 c1 c2 rs acc) r) ∨
    ∃ m odd', (many (fun s => s.1.2) wrt n ((l.drop a, false), odd)).2 = ((m, true), odd') ∧ Big (fun k => commonholdref_IntentDecoded.l1 k l (a : Int) (n : Int) c0 c1 c2 rs acc) errV := by
  intro n
  induction n with
  | zero =>
    intro a acc odd _ ha _
    exact .inl ⟨a, odd, ha, Nat.le_refl _, rfl, rfl, fun E h => by simpa [many] using h, fun r h => by simpa [many] using h⟩
  | succ n ih =>
    intro a acc odd hn ha hc
    have hp : (0 : Int) < ((n + 1 : Nat) : Int) := by omega
    have hcc : acc.length < 2513169434916 := by omega
    rw [many, if_neg (by simp)]
    rcases cut_at l hb hl a ha with ⟨o1, b1, r1, t1, h1, h2, h3⟩ | ⟨m, r1, t1⟩
    · by_cases hb1 : b1 < l.length
      · have hln : (l.drop b1).length = l.length - b1 := List.length_drop
        have tk : take (l.drop b1, false) 1 = ([rd l (b1 : Int)], (l.drop (b1 + 1), false)) := by
          rw [take_yes _ _ (by omega), List.drop_drop, List.take_one, List.head?_drop, List.getElem?_eq_getElem hb1, rd_at l b1 hb1]
          rfl
        rcases cut_at l hb hl (b1 + 1) (by omega) with ⟨o2, b2, r2, t2, h4, h5, h6⟩ | ⟨m, r2, t2⟩
        · have hr : wrt ((l.drop a, false), odd) = (⟨o1, o2, decide (rd l (b1 : Int) = 1)⟩, ((l.drop b2, false), odd || decide (1 < rd l (b1 : Int)))) := by
            simp only [wrt, t1, tk, t2]
            rfl
          rw [hr]
          have hf := rd_b8' hb b1 hb1
          rcases ih b2 (acc ++ [⟨o1, o2, decide (rd l (b1 : Int) = 1)⟩]) (odd || decide (1 < rd l (b1 : Int))) (by omega) h5 (by simp; omega) with ⟨b, od, g1, g2, g3, g4, g5, g6⟩ | ⟨m, od, g1, g2⟩
          · refine .inl ⟨b, od, g1, by omega, g3, by simp [g4], fun E h => ?_, fun r h => l1_step hp r1 hb1 hl r2 hcc ?_⟩
            · have q := g5 _ (h.step hb1 h3 hf h6)
              simpa [List.append_assoc] using q
            · rw [pred_of n hn]
              exact g6 r (by simpa [List.append_assoc] using h)
          · exact .inr ⟨m, od, g1, l1_step hp r1 hb1 hl r2 hcc (by rw [pred_of n hn]; exact g2)⟩
        · have hr : wrt ((l.drop a, false), odd) = (⟨o1, [], decide (rd l (b1 : Int) = 1)⟩, ((m, true), odd || decide (1 < rd l (b1 : Int)))) := by
            simp only [wrt, t1, tk, t2]
            rfl
          rw [hr, many_bad_w]
          exact .inr ⟨m, _, rfl, l1_step hp r1 hb1 hl r2 hcc (l1_neg _ _ _ _ _ _ _)⟩
      · have hr : ∃ x od, wrt ((l.drop a, false), odd) = (x, ((l.drop b1, true), od)) := by
          simp only [wrt, t1, take_no (l.drop b1) 1 (by rw [List.length_drop]; omega), text_bad]
          exact ⟨_, _, rfl⟩
        obtain ⟨x, od, hr⟩ := hr
        rw [hr, many_bad_w]
        exact .inr ⟨_, _, rfl, l1_bad hp r1 (.inr (by omega))⟩
    · have hr : ∃ x od, wrt ((l.drop a, false), odd) = (x, ((m, true), od)) := by
        have hk : take (m, true) 1 = ([], (m, true)) := by simp [take]
        simp only [wrt, t1, hk, text_bad]
        exact ⟨_, _, rfl⟩
      obtain ⟨x, od, hr⟩ := hr
      rw [hr, many_bad_w]
      exact .inr ⟨_, _, rfl, l1_bad hp r1 (.inl (by decide))⟩
/-! The whole -/
theorem str_inj {a b : List Int} (ha : intent_Decode.b8 a) (hb : intent_Decode.b8 b) (h : (strOfNums a).toList = (strOfNums b).toList) : a = b := by
  rw [ByteArray.toList_eq, ByteArray.toList_eq, strOfNums_data, strOfNums_data] at h
  have key : ∀ (a b : List Int), intent_Decode.b8 a → intent_Decode.b8 b → (a.map fun n => UInt8.ofNat n.toNat) = (b.map fun n => UInt8.ofNat n.toNat) → a = b := by
    intro a
    induction a with
    | nil => intro b _ _ h; cases b with | nil => rfl | cons _ _ => simp at h
    | cons x a ih =>
      intro b ha hb h
      cases b with
      | nil => simp at h
      | cons y b =>
        simp only [List.map_cons, List.cons.injEq] at h
        have hx := ha x (by simp)
        have hy := hb y (by simp)
        have e : x = y := by
          have h1 := congrArg UInt8.toNat h.1
          simp only [UInt8.toNat_ofNat'] at h1
          omega
        rw [e, ih b (fun z hz => ha z (by simp [hz])) (fun z hz => hb z (by simp [hz])) h.2]
  exact key a b ha hb h
theorem same_str (a b : List Int) (hb : intent_Decode.b8 b) (ha : a = b ∨ ∃ p : Nat, p < a.length ∧ b[p]? ≠ a[p]?) (h8 : intent_Decode.b8 a) : commonholdref_bytesSame.f a b = some (decide (a = b)) := by
  unfold commonholdref_bytesSame.f
  congr 1
  by_cases e : a = b
  · subst e
    simp
  · rw [decide_eq_false e]
    exact beq_eq_false_iff_ne.2 (fun q => e (str_inj h8 hb q))
open intent_Decode in
theorem num_len (s : List Int × Bool) : (num s).2.1.length ≤ s.1.length ∧ ((num s).2.2 = false → s.2 = false ∧ (num s).2.1.length + 4 = s.1.length) := ⟨(take_len s 4).2.1, (take_len s 4).2.2⟩
open intent_Decode in
theorem many_len_r : ∀ (n : Nat) (s : List Int × Bool), (many Prod.snd rng n s).2.2 = false → s.2 = false ∧ (many Prod.snd rng n s).2.1.length ≤ s.1.length
  | 0, s, h => ⟨h, Nat.le_refl _⟩
  | n + 1, s, h => by
    rw [many] at h ⊢
    by_cases hs : s.2 = true
    · simp [hs] at h
    · rw [if_neg hs] at h ⊢
      have h1 := many_len_r n _ h
      exact ⟨by simpa using hs, Nat.le_trans h1.2 (rng_len s).1⟩
open intent_Decode in
theorem many_len_w : ∀ (n : Nat) (s : (List Int × Bool) × Bool), (many (fun s => s.1.2) wrt n s).2.1.2 = false → s.1.2 = false ∧ (many (fun s => s.1.2) wrt n s).2.1.1.length ≤ s.1.1.length
  | 0, s, h => ⟨h, Nat.le_refl _⟩
  | n + 1, s, h => by
    rw [many] at h ⊢
    by_cases hs : s.1.2 = true
    · simp [hs] at h
    · rw [if_neg hs] at h ⊢
      have h1 := many_len_w n _ h
      exact ⟨by simpa using hs, Nat.le_trans h1.2 (wrt_len s).1⟩
open intent_Decode in
theorem short_bad (l : List Int) (h : l.length < 20) (u : List S88 × ((List Int × Bool) × Bool)) (r : List S83 × (List Int × Bool)) (hr : r = many Prod.snd rng (num (num (num (num (l, false)).2).2).2).1.toNat (num (num (num (num (l, false)).2).2).2).2) (hu : u = many (fun s => s.1.2) wrt (num r.2).1.toNat ((num r.2).2, false)) : u.2.1.2 = true := by
  cases hb : u.2.1.2 with
  | true => rfl
  | false =>
    exfalso
    rw [hu] at hb
    have h1 := many_len_w _ _ hb
    have h2 := (num_len r.2).2 h1.1
    have hrb := h2.1
    rw [hr] at hrb
    have h3 := many_len_r _ _ hrb
    rw [← hr] at h3
    have h4 := (num_len (num (num (num (l, false)).2).2).2).2 h3.1
    have h5 := (num_len (num (num (l, false)).2).2).2 h4.1
    have h6 := (num_len (num (l, false)).2).2 h5.1
    have h7 := (num_len (l, false)).2 h6.1
    have h8 : (l, false).1.length = l.length := rfl
    have h9 := h1.2
    have h10 := h3.2
    omega
/-- Do the two answer the same? -/
def Fine (x : Res) : Prop := x.2.2.2.1.length ≤ 400 ∧ x.2.2.2.2.1.length ≤ 400 ∧ (∀ y ∈ x.2.2.2.1, y.f0.length ≤ 140737488355328 ∧ y.f1.length ≤ 140737488355328) ∧ ∀ y ∈ x.2.2.2.2.1, y.f0.length ≤ 140737488355328 ∧ y.f1.length ≤ 140737488355328
theorem fine_err : Fine errV := ⟨by decide, by decide, fun y hy => (List.not_mem_nil hy).elim, fun y hy => (List.not_mem_nil hy).elim⟩
open intent_Decode in
theorem b8_encW (x : S88) (h0 : b8 x.f0) (h1 : b8 x.f1) : b8 (encW x) := by
  have h4 : ∀ n : Int, b8 (enc4 n) := fun n y hy => by
    simp only [enc4, List.mem_cons, List.not_mem_nil, or_false] at hy
    rcases hy with rfl | rfl | rfl | rfl <;> omega
  intro y hy
  simp only [encW, List.mem_append, List.mem_singleton] at hy
  rcases hy with (((hy | hy) | hy) | hy) | hy
  · exact h4 _ y hy
  · exact h0 y hy
  · rw [hy]; split <;> exact ⟨by decide, by decide⟩
  · exact h4 _ y hy
  · exact h1 y hy
open intent_Decode in
theorem b8_encR (x : S83) (h0 : b8 x.f0) (h1 : b8 x.f1) : b8 (encR x) := by
  have h4 : ∀ n : Int, b8 (enc4 n) := fun n y hy => by
    simp only [enc4, List.mem_cons, List.not_mem_nil, or_false] at hy
    rcases hy with rfl | rfl | rfl | rfl <;> omega
  intro y hy
  simp only [encR, List.mem_append] at hy
  rcases hy with ((hy | hy) | hy) | hy
  · exact h4 _ y hy
  · exact h0 y hy
  · exact h4 _ y hy
  · exact h1 y hy
open intent_Decode in
theorem many_b8_r : ∀ (n : Nat) (s : List Int × Bool), b8 s.1 → ∀ x ∈ (many Prod.snd rng n s).1, b8 x.f0 ∧ b8 x.f1
  | 0, _, _, x, hx => (List.not_mem_nil hx).elim
  | n + 1, s, h, x, hx => by
    rw [many] at hx
    by_cases hs : s.2 = true
    · rw [if_pos hs] at hx; exact (List.not_mem_nil hx).elim
    · rw [if_neg hs] at hx
      rcases List.mem_cons.1 hx with rfl | hx
      · exact ⟨(take_b8 (take_b8 h 4).2 _).1, (take_b8 (take_b8 (text_b8 h) 4).2 _).1⟩
      · exact many_b8_r n _ (text_b8 (text_b8 h)) x hx
open intent_Decode in
theorem many_b8_w : ∀ (n : Nat) (s : (List Int × Bool) × Bool), b8 s.1.1 → ∀ x ∈ (many (fun s => s.1.2) wrt n s).1, b8 x.f0 ∧ b8 x.f1
  | 0, _, _, x, hx => (List.not_mem_nil hx).elim
  | n + 1, s, h, x, hx => by
    rw [many] at hx
    by_cases hs : s.1.2 = true
    · rw [if_pos hs] at hx; exact (List.not_mem_nil hx).elim
    · rw [if_neg hs] at hx
      rcases List.mem_cons.1 hx with rfl | hx
      · exact ⟨(take_b8 (take_b8 h 4).2 _).1, (take_b8 (take_b8 (take_b8 (text_b8 h) 1).2 4).2 _).1⟩
      · exact many_b8_w n _ (wrt_b8 h) x hx
open intent_Decode in
theorem many_sz_w : ∀ (n : Nat) (s : (List Int × Bool) × Bool), ∀ x ∈ (many (fun s => s.1.2) wrt n s).1, x.f0.length ≤ s.1.1.length
  | 0, _, x, hx => (List.not_mem_nil hx).elim
  | n + 1, s, x, hx => by
    rw [many] at hx
    by_cases hs : s.1.2 = true
    · rw [if_pos hs] at hx; exact (List.not_mem_nil hx).elim
    · rw [if_neg hs] at hx
      rcases List.mem_cons.1 hx with rfl | hx
      · exact Nat.le_trans (take_len (num s.1).2 _).1 (num_len s.1).1
      · exact Nat.le_trans (many_sz_w n _ x hx) (wrt_len s).1
open intent_Decode in
theorem both_tell (l : List Int) (hb : b8 l) (hl : l.length ≤ 4000) (h20 : 20 ≤ l.length) : ∃ res : Res, Big (fun k => intent_Decode.f k l) res ∧ Big (fun k => commonholdref_IntentDecoded.f k l) res ∧ Fine res := by
  have hdl : ∀ a, (l.drop a).length = l.length - a := fun a => List.length_drop
  have n1 : num (l, false) = (le (l.take 4), (l.drop 4, false)) := num_yes l (by omega)
  have n2 : num (l.drop 4, false) = (le ((l.drop 4).take 4), (l.drop 8, false)) := by rw [num_yes _ (by rw [hdl]; omega), List.drop_drop]
  have n3 : num (l.drop 8, false) = (le ((l.drop 8).take 4), (l.drop 12, false)) := by rw [num_yes _ (by rw [hdl]; omega), List.drop_drop]
  have n4 : num (l.drop 12, false) = (le ((l.drop 12).take 4), (l.drop 16, false)) := by rw [num_yes _ (by rw [hdl]; omega), List.drop_drop]
  have f1 := fl_m l hb (by omega)
  have f2 := fl_m (l.drop 4) (b8_drop hb 4) (by rw [hdl]; omega)
  have f3 := fl_m (l.drop 8) (b8_drop hb 8) (by rw [hdl]; omega)
  have f4 := fl_m (l.drop 12) (b8_drop hb 12) (by rw [hdl]; omega)
  have e1 := enc_le (l.take 4) (b8_take hb 4) (by rw [List.length_take]; omega)
  have e2 := enc_le ((l.drop 4).take 4) (b8_take (b8_drop hb 4) 4) (by rw [List.length_take, hdl]; omega)
  have e3 := enc_le ((l.drop 8).take 4) (b8_take (b8_drop hb 8) 4) (by rw [List.length_take, hdl]; omega)
  have e4 := enc_le ((l.drop 12).take 4) (b8_take (b8_drop hb 12) 4) (by rw [List.length_take, hdl]; omega)
  obtain ⟨n, hn⟩ := Int.eq_ofNat_of_zero_le (le_range (b8_take (b8_drop hb 12) 4)).1
  have hn1 := (le_range (b8_take (b8_drop hb 12) 4)).2
  rw [hn] at n4 f4 e4 hn1
  have h16 : l.take 16 = encHead (le (l.take 4)) (le ((l.drop 4).take 4)) (le ((l.drop 8).take 4)) (n : Int) := by
    rw [encHead_at, e1, e2, e3, e4, take_add l 12 4, take_add l 8 4, take_add l 4 4]
  generalize le (l.take 4) = a at *
  generalize le ((l.drop 4).take 4) = b at *
  generalize le ((l.drop 8).take 4) = c at *
  have hneg : ¬ ¬ (∀ x ∈ l, 0 ≤ x ∧ x ≤ 255) := fun q => q hb
  have prog : ∀ k, intent_Decode.f k l = if (many (fun s => s.1.2) wrt (num (many Prod.snd rng n (l.drop 16, false)).2).1.toNat ((num (many Prod.snd rng n (l.drop 16, false)).2).2, false)).2.1.2 = true ∨ (many (fun s => s.1.2) wrt (num (many Prod.snd rng n (l.drop 16, false)).2).1.toNat ((num (many Prod.snd rng n (l.drop 16, false)).2).2, false)).2.2 = true ∨ 0 < (many (fun s => s.1.2) wrt (num (many Prod.snd rng n (l.drop 16, false)).2).1.toNat ((num (many Prod.snd rng n (l.drop 16, false)).2).2, false)).2.1.1.length then some errV else
      (intent_May.f k a b c (many Prod.snd rng n (l.drop 16, false)).1 (many (fun s => s.1.2) wrt (num (many Prod.snd rng n (l.drop 16, false)).2).1.toNat ((num (many Prod.snd rng n (l.drop 16, false)).2).2, false)).1).bind fun t => if t = true then some (a, b, c, (many Prod.snd rng n (l.drop 16, false)).1, (many (fun s => s.1.2) wrt (num (many Prod.snd rng n (l.drop 16, false)).2).1.toNat ((num (many Prod.snd rng n (l.drop 16, false)).2).2, false)).1, 0) else some errV := fun k => by
    unfold intent_Decode.f
    rw [if_neg hneg, if_neg (by omega)]
    simp only [n1, n2, n3, n4, Int.toNat_natCast]
    rfl
  have ref : ∀ {r : Res}, Big (fun k => commonholdref_IntentDecoded.l0 k l 16 (n : Int) a b c []) r → Big (fun k => commonholdref_IntentDecoded.f k l) r := fun {r} h => by
    refine Big.congr (g' := fun k => commonholdref_IntentDecoded.j0 k l (decide ((l.length : Int) < 20))) ?_ (fun k => by unfold commonholdref_IntentDecoded.f; rw [if_neg (by omega)])
    rw [decide_eq_false (by omega)]
    refine Big.succ (Big.congr h fun k => ?_)
    simp only [commonholdref_IntentDecoded.j0]
    rw [if_neg (by decide), f1, Option.bind_some, if_pos (by omega), f2, Option.bind_some, if_pos (by omega), f3, Option.bind_some, if_pos (by omega), f4, Option.bind_some]
  clear n1 n2 n3 n4 f1 f2 f3 f4 e1 e2 e3 e4 hneg
  have err2 : ∀ (m : List Int) (o : Bool), (many (fun s => s.1.2) wrt (num (many Prod.snd rng n (l.drop 16, false)).2).1.toNat ((num (many Prod.snd rng n (l.drop 16, false)).2).2, false)).2 = ((m, true), o) → Big (fun k => intent_Decode.f k l) errV := fun m o h => Big.congr (Big.of errV) (fun k => by rw [prog, if_pos (.inl (by rw [h]))])
  rcases reads_tell l hb hl a b c n 16 [] (by omega) (by omega) (by decide) with ⟨p, g1, g2, g3, g4, g5, g6⟩ | ⟨m, g1, g2⟩
  rotate_left
  · refine ⟨errV, err2 m false ?_, ref g2, fine_err⟩
    rw [g1, num_bad]
    rfl
  have hr8 := many_b8_r n (l.drop 16, false) (b8_drop hb 16)
  generalize (many Prod.snd rng n (l.drop 16, false)).1 = rs at *
  rw [g3] at prog err2
  rw [List.nil_append] at g6
  have e5 : wrap64 ((p : Int) + 4) = (p : Int) + 4 := w64 (by omega) (by omega)
  have refj : ∀ {r : Res}, Big (fun k => commonholdref_IntentDecoded.j3 k l (p : Int) (decide ((p : Int) + 4 > (l.length : Int))) a b c rs) r → Big (fun k => commonholdref_IntentDecoded.f k l) r := fun {r} h => by
    refine ref (g6 r (Big.succ (Big.succ (Big.congr h fun k => ?_))))
    simp only [commonholdref_IntentDecoded.l0]
    rw [if_neg (by decide)]
    simp only [commonholdref_IntentDecoded.j2]
    rw [if_neg (by decide), if_neg (by omega), e5]
  by_cases hp4 : p + 4 ≤ l.length
  rotate_left
  · refine ⟨errV, err2 (l.drop p) false ?_, refj ?_, fine_err⟩
    · rw [num_no _ (by rw [hdl]; omega)]
      rfl
    · rw [decide_eq_true (by omega)]
      exact Big.succ (Big.eq fun k => by simp only [commonholdref_IntentDecoded.j3]; rw [if_pos trivial]; rfl)
  obtain ⟨n2, hn2⟩ := Int.eq_ofNat_of_zero_le (le_range (b8_take (b8_drop hb p) 4)).1
  have hn3 := (le_range (b8_take (b8_drop hb p) 4)).2
  have e6 := enc_le ((l.drop p).take 4) (b8_take (b8_drop hb p) 4) (by rw [List.length_take, hdl]; omega)
  have f5 := fl_m (l.drop p) (b8_drop hb p) (by rw [hdl]; omega)
  have n5 : num (l.drop p, false) = ((n2 : Int), (l.drop (p + 4), false)) := by rw [num_yes _ (by rw [hdl]; omega), hn2, List.drop_drop]
  rw [hn2] at f5 e6 hn3
  rw [n5, Int.toNat_natCast] at prog err2
  have refw : ∀ {r : Res}, Big (fun k => commonholdref_IntentDecoded.l1 k l ((p + 4 : Nat) : Int) (n2 : Int) a b c rs []) r → Big (fun k => commonholdref_IntentDecoded.f k l) r := fun {r} h => by
    refine refj ?_
    rw [decide_eq_false (by omega)]
    refine Big.succ (Big.congr h fun k => ?_)
    simp only [commonholdref_IntentDecoded.j3]
    rw [if_neg (by decide), if_pos (by omega), if_pos (by omega), Int.toNat_natCast, f5, Option.bind_some, e5]
    rfl
  rcases writes_tell l hb hl a b c rs n2 (p + 4) [] false (by omega) hp4 (Nat.zero_le _) with ⟨q, od, k1, k2, k3, k4, k5, k6⟩ | ⟨m, od, k1, k2⟩
  rotate_left
  · exact ⟨errV, err2 m od k1, refw k2, fine_err⟩
  have hw8 := many_b8_w n2 ((l.drop (p + 4), false), false) (b8_drop hb _)
  have hwz : ∀ x ∈ (many (fun s => s.1.2) wrt n2 ((l.drop (p + 4), false), false)).1, x.f0.length ≤ (l.drop (p + 4)).length := many_sz_w n2 ((l.drop (p + 4), false), false)
  rw [k3] at prog
  generalize (many (fun s => s.1.2) wrt n2 ((l.drop (p + 4), false), false)).1 = ws at *
  rw [List.nil_append] at k6
  have hrel : Rel l (encAll a b c rs ws) q od := by
    have h0 : Rel l (encHead a b c rs.length ++ rs.flatMap encR ++ enc4 ws.length) (p + 4) false := by
      refine ⟨fun _ => ?_, fun h => by cases h⟩
      rw [take_add l p 4, g5, h16, g4, k4, e6]
    exact k5 _ h0
  have refe : ∀ {r : Res}, Big (fun k => commonholdref_IntentDecoded.j5 k l (q : Int) 0 false a b c rs ws) r → Big (fun k => commonholdref_IntentDecoded.f k l) r := fun {r} h => by
    refine refw (k6 r (Big.succ (Big.congr h fun k => ?_)))
    simp only [commonholdref_IntentDecoded.l1]
    rw [if_neg (by decide)]
  by_cases hq : q = l.length
  rotate_left
  · refine ⟨errV, Big.congr (Big.of errV) (fun k => by rw [prog, if_pos (.inr (.inr (by rw [hdl]; omega)))]), refe ?_, fine_err⟩
    refine Big.succ (Big.eq fun k => ?_)
    simp only [commonholdref_IntentDecoded.j5]
    rw [if_neg (by decide), if_neg (by omega)]
    rfl
  subst hq
  have hgw : ∀ x ∈ ws, gdW x := fun x hx => by
    have h1 := hwz x hx
    have h2 := hdl (p + 4)
    show x.f0.length ≤ 9223372036854775807
    omega
  have hmay := may_all a b c rs ws
  have href := ref_all a b c rs ws hgw
  have h8 : b8 (encAll a b c rs ws) := by
    have h4 : ∀ n : Int, b8 (enc4 n) := fun n y hy => by
      simp only [enc4, List.mem_cons, List.not_mem_nil, or_false] at hy
      rcases hy with rfl | rfl | rfl | rfl <;> omega
    intro y hy
    simp only [encAll, encHead_at, List.mem_append, List.mem_flatMap] at hy
    rcases hy with ((((((hy | hy) | hy) | hy) | ⟨x, hx, hy⟩) | hy) | ⟨x, hx, hy⟩)
    · exact h4 _ y hy
    · exact h4 _ y hy
    · exact h4 _ y hy
    · exact h4 _ y hy
    · exact b8_encR x (hr8 x hx).1 (hr8 x hx).2 y hy
    · exact h4 _ y hy
    · exact b8_encW x (hw8 x hx).1 (hw8 x hx).2 y hy
  cases hs : spec a b c rs ws with
  | false =>
    rw [hs] at hmay href
    refine ⟨errV, ?_, refe ?_, fine_err⟩
    · refine Big.congr ?_ prog
      split
      · exact Big.of _
      · exact Big.bind hmay (Big.of _)
    · refine Big.succ ?_
      simp only [commonholdref_IntentDecoded.j5, Bool.false_eq_true, if_false, if_true]
      exact Big.bind href (Big.of _)
  | true =>
    rw [hs] at hmay href
    have hbytes := bytes_all hs
    have hsp := spec_of hs
    cases od with
    | true =>
      obtain ⟨i, hi, hne⟩ := hrel.2 rfl
      have hd : encAll a b c rs ws ≠ l := fun e => hne (by rw [e])
      refine ⟨errV, Big.congr (Big.of errV) (fun k => by rw [prog, if_pos (.inr (.inl rfl))]), refe ?_, fine_err⟩
      refine Big.succ ?_
      simp only [commonholdref_IntentDecoded.j5, Bool.false_eq_true, if_false, if_true]
      refine Big.bind href ?_
      simp only [if_true]
      refine Big.bind hbytes ?_
      rw [same_str _ _ hb (.inr ⟨i, hi, hne⟩) h8, decide_eq_false hd]
      exact Big.of _
    | false =>
      have hd : encAll a b c rs ws = l := by
        have h := hrel.1 rfl
        rw [List.take_length] at h
        exact h.symm
      refine ⟨(a, b, c, rs, ws, 0), ?_, refe ?_, ⟨hsp.2.2.2.1, hsp.2.2.2.2.1, fun y hy => ?_, fun y hy => ?_⟩⟩
      · refine Big.congr ?_ (fun k => (prog k).trans (if_neg (by simp)))
        exact Big.bind hmay (Big.of _)
      · refine Big.succ ?_
        simp only [commonholdref_IntentDecoded.j5, Bool.false_eq_true, if_false, if_true]
        refine Big.bind href ?_
        simp only [if_true]
        refine Big.bind hbytes ?_
        rw [same_str _ _ hb (.inl hd) h8, decide_eq_true hd]
        exact Big.of _
      · have h1 := hsp.2.2.2.2.2.1 y hy
        simp only [rok, Bool.and_eq_true, decide_eq_true_eq] at h1
        omega
      · have h1 := hsp.2.2.2.2.2.2 y hy
        simp only [wok, Bool.and_eq_true, decide_eq_true_eq] at h1
        omega
theorem same_rr (rs : List S83) (hn : rs.length ≤ 400) (h : ∀ y ∈ rs, y.f0.length ≤ 140737488355328 ∧ y.f1.length ≤ 140737488355328) : ∀ (d i : Nat), i + d = rs.length → Big (fun k => commonholdlaw_sameRanges.l0 k rs rs (i : Int)) true
  | 0, i, hi => by
    refine Big.succ (Big.eq fun k => ?_)
    simp only [commonholdlaw_sameRanges.l0]
    rw [if_neg (by omega)]
  | d + 1, i, hi => by
    have hx := h _ (List.getElem_mem (show i < rs.length by omega))
    have e1 : wrap64 ((i : Int) + 1) = ((i + 1 : Nat) : Int) := by rw [w64 (by omega) (by omega)]; omega
    refine Big.succ ?_
    simp only [commonholdlaw_sameRanges.l0, if_pos (show (i : Int) < (rs.length : Int) by omega), if_pos (show (0 : Int) ≤ (i : Int) by omega), rd77 rs i (by omega), e1]
    refine Big.bind (r := true) ?_ ?_
    · unfold commonholdlaw_sameRange.f
      refine Big.bind (same_self _ (by omega)) ?_
      simp only [if_true]
      exact Big.bind (same_self _ (by omega)) (Big.of true)
    · simp only [if_true]
      exact same_rr rs hn h d (i + 1) (by omega)
theorem same_ww (ws : List S88) (hn : ws.length ≤ 400) (h : ∀ y ∈ ws, y.f0.length ≤ 140737488355328 ∧ y.f1.length ≤ 140737488355328) : ∀ (d i : Nat), i + d = ws.length → Big (fun k => commonholdlaw_sameWrites.l0 k ws ws (i : Int)) true
  | 0, i, hi => by
    refine Big.succ (Big.eq fun k => ?_)
    simp only [commonholdlaw_sameWrites.l0]
    rw [if_neg (by omega)]
  | d + 1, i, hi => by
    have hx := h _ (List.getElem_mem (show i < ws.length by omega))
    have e1 : wrap64 ((i : Int) + 1) = ((i + 1 : Nat) : Int) := by rw [w64 (by omega) (by omega)]; omega
    refine Big.succ ?_
    simp only [commonholdlaw_sameWrites.l0, if_pos (show (i : Int) < (ws.length : Int) by omega), if_pos (show (0 : Int) ≤ (i : Int) by omega), rd80 ws i (by omega), e1, bne_self_eq_false, if_neg (show ¬ (false = true) by decide)]
    refine Big.bind (same_self _ (by omega)) ?_
    simp only [if_true]
    refine Big.bind (same_self _ (by omega)) ?_
    simp only [if_true]
    exact same_ww ws hn h d (i + 1) (by omega)
theorem same_all (x : Res) (hf : Fine x) : Big (fun k => commonholdlaw_sameIntent.f k x.1 x.2.1 x.2.2.1 x.2.2.2.1 x.2.2.2.2.1 x.1 x.2.1 x.2.2.1 x.2.2.2.1 x.2.2.2.2.1) true := by
  obtain ⟨h1, h2, h3, h4⟩ := hf
  unfold commonholdlaw_sameIntent.f
  simp only [if_true]
  refine Big.bind (r := true) ?_ ?_
  · refine Big.congr (same_rr _ h1 h3 x.2.2.2.1.length 0 (Nat.zero_add _)) (fun k => ?_)
    unfold commonholdlaw_sameRanges.f
    rw [if_pos rfl]
    rfl
  · simp only [if_true]
    refine Big.bind (r := true) ?_ (Big.of true)
    refine Big.congr (same_ww _ h2 h4 x.2.2.2.2.1.length 0 (Nat.zero_add _)) (fun k => ?_)
    unfold commonholdlaw_sameWrites.f
    rw [if_pos rfl]
    rfl
theorem all_tell (l : List Int) (hb : intent_Decode.b8 l) : ∃ res : Res, Big (fun k => intent_Decode.f k l) res ∧ Big (fun k => commonholdref_IntentDecoded.f k l) res ∧ Fine res := by
  have hneg : ¬ ¬ (∀ x ∈ l, 0 ≤ x ∧ x ≤ 255) := fun q => q hb
  have jerr : Big (fun k => commonholdref_IntentDecoded.j0 k l true) errV := Big.succ (Big.eq fun k => by simp only [commonholdref_IntentDecoded.j0]; rw [if_pos trivial]; rfl)
  by_cases hl : l.length ≤ 4000
  · by_cases h20 : 20 ≤ l.length
    · exact both_tell l hb hl h20
    · refine ⟨errV, Big.eq (fun k => ?_), Big.congr jerr (fun k => ?_), fine_err⟩
      · unfold intent_Decode.f
        rw [if_neg hneg, if_neg (by omega)]
        dsimp only
        rw [if_pos (.inl (short_bad l (by omega) _ _ rfl rfl))]
        rfl
      · unfold commonholdref_IntentDecoded.f
        rw [if_neg (by omega), decide_eq_true (by omega)]
  · refine ⟨errV, Big.eq (fun k => ?_), Big.congr jerr (fun k => ?_), fine_err⟩
    · unfold intent_Decode.f
      rw [if_neg hneg, if_pos (by omega)]
      rfl
    · unfold commonholdref_IntentDecoded.f
      rw [if_pos (by omega)]
end Go.Proofs.Ytfkdldaadjhcfaa.Pure.IntentDecodesOf
namespace Go.Proofs.Ytfkdldaadjhcfaa.Pure
open Go Go.RowKit Go.Proofs.Ytfkdldaadjhcfaa.PIntentDecodes Go.Proofs.YtfkdldaadjhcfaaW.PrintWords Go.Proofs.YtfkdldaadjhcfaaW.PrintLast Go.Proofs.Ytfkdldaadjhcfaa.Bg IntentDecodesOf
theorem IntentDecodes : commonholdlaw_IntentDecodes.Pure := by
  intro l _ hs hw
  have hb : intent_Decode.b8 l := by
    intro x hx
    have := bounds_u8 (hw x hx)
    omega
  have ho : commonholdlaw_octets.f l = some l := by
    unfold commonholdlaw_octets.f
    rw [if_pos (by simp; omega), List.nil_append]
  obtain ⟨res, h1, h2, h3⟩ := all_tell l hb
  refine Big.to ?_
  unfold commonholdlaw_IntentDecodes.f
  refine Big.bind1 ho (Big.bind h1 (Big.bind h2 (Big.bind (same_all res h3) ?_)))
  simp only [if_true, beq_self_eq_true]
  exact Big.of true
end Go.Proofs.Ytfkdldaadjhcfaa.Pure
