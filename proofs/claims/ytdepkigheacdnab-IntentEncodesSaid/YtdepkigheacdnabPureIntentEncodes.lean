/- intent.Encode answers as its reference does, at every intent of sane size. No condition beyond the statement's own. -/
import Derived.Test.YtdepkigheacdnabPIntentEncodesx7
import Derived.Test.YtdepkigheacdnabBig
import Derived.Lib.BytesEntry
namespace Go.Proofs.Ytdepkigheacdnab.Pure.IntentEncodesOf
open Go Go.RowKit Go.Proofs.Ytdepkigheacdnab.PIntentEncodes Go.Proofs.YtdepkigheacdnabW.PrintWords Go.Proofs.YtdepkigheacdnabW.PrintLast Go.Proofs.Ytdepkigheacdnab.Bg
theorem drop_bytes (s : ByteArray) (i : Nat) (h : i < s.size) : s.data.toList.drop i = s[i] :: s.data.toList.drop (i + 1) := by
  rw [List.drop_eq_getElem_cons (by simpa using h)]
  rfl
/-- textOrder compares as the list does. -/
theorem order_from (s t : ByteArray) (hs : (s.size : Int) ≤ 9223372036854775807) (_ht : (t.size : Int) ≤ 9223372036854775807) (d : Nat) : ∀ i : Nat, i ≤ s.size → i ≤ t.size → s.size - i = d →
    Big (fun k => commonholdref_textOrder.l0 k s t (i : Int)) (Lib.compareBytes (s.data.toList.drop i) (t.data.toList.drop i)) := by
  induction d with
  | zero =>
    intro i h0 h1 hd
    have hi : i = s.size := by omega
    refine Big.succ ?_
    simp only [commonholdref_textOrder.l0]
    simp only [if_neg (show ¬ (i : Int) < (s.size : Int) by omega)]
    refine Big.succ ?_
    simp only [commonholdref_textOrder.j1]
    simp only [if_neg (show ¬ (false = true) by decide)]
    rw [List.drop_eq_nil_of_le (show s.data.toList.length ≤ i by simp; omega)]
    by_cases h : i < t.size
    · simp only [if_pos (show (s.size : Int) < (t.size : Int) by omega)]
      rw [drop_bytes t i h]
      exact Big.of _
    · simp only [if_neg (show ¬ (s.size : Int) < (t.size : Int) by omega), if_neg (show ¬ (s.size : Int) > (t.size : Int) by omega)]
      rw [List.drop_eq_nil_of_le (show t.data.toList.length ≤ i by simp; omega)]
      exact Big.of _
  | succ d ih =>
    intro i h0 h1 hd
    have hi : i < s.size := by omega
    refine Big.succ ?_
    simp only [commonholdref_textOrder.l0]
    simp only [if_pos (show (i : Int) < (s.size : Int) by omega)]
    refine Big.succ ?_
    simp only [commonholdref_textOrder.j1]
    rw [drop_bytes s i hi]
    by_cases h : i < t.size
    · simp only [decide_eq_true (show (i : Int) < (t.size : Int) by omega), if_pos (show (i : Int) < (t.size : Int) by omega), if_pos (show (i : Int) < (s.size : Int) by omega), if_pos (show (0 : Int) ≤ (i : Int) by omega), if_true]
      rw [drop_bytes t i h, bt_at' s i hi, bt_at' t i h]
      simp only [Lib.compareBytes]
      by_cases c1 : s[i] < t[i]
      · have c2 : (s[i].toNat : Int) < (t[i].toNat : Int) := by have := UInt8.lt_iff_toNat_lt.1 c1; omega
        simp only [if_pos c2, if_pos c1]
        exact Big.of _
      · have c2 : ¬ (s[i].toNat : Int) < (t[i].toNat : Int) := fun hc => c1 (UInt8.lt_iff_toNat_lt.2 (by omega))
        by_cases c3 : t[i] < s[i]
        · have c4 : (s[i].toNat : Int) > (t[i].toNat : Int) := by have := UInt8.lt_iff_toNat_lt.1 c3; omega
          simp only [if_neg c2, if_pos c4, if_neg c1, if_pos c3]
          exact Big.of _
        · have c4 : ¬ (s[i].toNat : Int) > (t[i].toNat : Int) := fun hc => c3 (UInt8.lt_iff_toNat_lt.2 (by omega))
          simp only [if_neg c2, if_neg c4, if_neg c1, if_neg c3]
          rw [w64 (x := (i : Int) + 1) (by omega) (by omega)]
          exact ih (i + 1) (by omega) (by omega) (by omega)
    · have hn : t.data.toList.drop i = [] := List.drop_eq_nil_of_le (by simp; omega)
      simp only [decide_eq_false (show ¬ (i : Int) < (t.size : Int) by omega)]
      simp only [if_neg (show ¬ (false = true) by decide), if_neg (show ¬ (s.size : Int) < (t.size : Int) by omega), if_pos (show (s.size : Int) > (t.size : Int) by omega)]
      rw [hn]
      exact Big.of _
theorem order_all (s t : ByteArray) (hs : (s.size : Int) ≤ 9223372036854775807) (ht : (t.size : Int) ≤ 9223372036854775807) :
    Big (fun k => commonholdref_textOrder.f k s t) (Lib.compareBytes s.data.toList t.data.toList) := by
  have h := order_from s t hs ht s.size 0 (by omega) (by omega) (by omega)
  simp only [List.drop_zero] at h
  exact h
theorem less_all (a b : List Int) (ha : (a.length : Int) ≤ 9223372036854775807) (hb : (b.length : Int) ≤ 9223372036854775807) :
    Big (fun k => commonholdref_bytesLess.f k a b) (decide (Lib.compareBytes (Lib.bytesOf a) (Lib.bytesOf b) < 0)) := by
  have sz : ∀ l : List Int, (strOfNums l).size = l.length := fun l => by simp [strOfNums, ByteArray.size]
  have e : ∀ l : List Int, (strOfNums l).data.toList = Lib.bytesOf l := fun l => rfl
  have h := order_all (strOfNums a) (strOfNums b) (by rw [sz]; exact ha) (by rw [sz]; exact hb)
  rw [e, e] at h
  unfold commonholdref_bytesLess.f
  exact Big.bind h (Big.of _)

/-- May a range be? -/
def rok (x : S77) : Bool := decide (x.f0.length ≤ 1201) && decide (x.f1.length ≤ 1201)
def rgo (l : List S77) : Nat → Nat → Bool
  | 0, _ => true
  | d + 1, i => rok (rd_T77 l i) && rgo l d (i + 1)
/-- May a write be, by itself? -/
def wok (x : S80) : Bool := decide (1 ≤ x.f0.length) && (decide (x.f0.length ≤ 1200) && (decide (x.f1.length ≤ 4000) && !(x.f2 && decide (0 < x.f1.length))))
/-- Does a write stand behind the one ahead of it? -/
def wbh (l : List S80) (i : Nat) : Bool := decide (i = 0) || decide (Lib.compareBytes (Lib.bytesOf (rd_T80 l ((i - 1 : Nat) : Int)).f0) (Lib.bytesOf (rd_T80 l i).f0) < 0)
def wgo (l : List S80) : Nat → Nat → Bool
  | 0, _ => true
  | d + 1, i => wok (rd_T80 l i) && (wbh l i && wgo l d (i + 1))
def spec (a b c : Int) (rs : List S77) (ws : List S80) : Bool :=
  decide (1 ≤ a) && (decide (a ≤ 1048576) && (decide (1 ≤ b) && (decide (b ≤ 1048576) && (decide (0 ≤ c) && (decide (c ≤ 1048576) && (decide (rs.length ≤ 400) && (decide (ws.length ≤ 400) && (rgo rs rs.length 0 && wgo ws ws.length 0))))))))

/-! The program's -/
theorem may_w (a b c : Int) (rs : List S77) (ws : List S80) (hw : ws.length ≤ 400) (d : Nat) : ∀ i : Nat, i + d = ws.length →
    Big (fun k => intent_May.l1 k ws (ws.length : Int) (i : Int) a b c rs ws) (wgo ws d i) := by
  induction d with
  | zero =>
    intro i hi
    refine Big.succ ?_
    simp only [intent_May.l1]
    simp only [if_neg (show ¬ (i : Int) < (ws.length : Int) by omega)]
    exact Big.of _
  | succ d ih =>
    intro i hi
    refine Big.succ ?_
    simp only [intent_May.l1]
    simp only [if_pos (show (i : Int) < (ws.length : Int) by omega), if_pos (show (0 : Int) ≤ (i : Int) by omega)]
    have hi1 := ih (i + 1) (by omega)
    have ew : wrap64 ((i : Int) + 1) = ((i + 1 : Nat) : Int) := by rw [w64 (by omega) (by omega)]; omega
    have hj : ∀ b2 : Bool, wok (rd_T80 ws i) = !b2 → Big (fun k => intent_May.j3 k (i : Int) ws (ws.length : Int) (i : Int) b2 a b c rs ws (rd_T80 ws i).f0 (rd_T80 ws i).f1 (rd_T80 ws i).f2) (wgo ws (d + 1) i) := by
      intro b2 hb
      refine Big.succ ?_
      simp only [intent_May.j3, ew]
      cases b2 with
      | true =>
        simp only [if_true]
        refine (Big.of false).cast ?_
        simp [wgo, hb]
      | false =>
        simp only [if_neg (show ¬ (false = true) by decide)]
        have hb' : wok (rd_T80 ws i) = true := by rw [hb]; rfl
        by_cases h0 : i = 0
        · subst h0
          simp only [if_neg (show ¬ ((0 : Nat) : Int) > 0 by omega)]
          refine hi1.cast ?_
          show _ = (wok (rd_T80 ws ((0 : Nat) : Int)) && (wbh ws 0 && wgo ws d (0 + 1)))
          rw [hb']
          simp [wbh]
        · have ep : wrap64 ((i : Int) - 1) = ((i - 1 : Nat) : Int) := by rw [w64 (by omega) (by omega)]; omega
          simp only [if_pos (show (i : Int) > 0 by omega), ep, if_pos (show (0 : Int) ≤ ((i - 1 : Nat) : Int) by omega), if_pos (show ((i - 1 : Nat) : Int) < (ws.length : Int) by omega)]
          refine Big.bind1 rfl ?_
          by_cases hc : Lib.compareBytes (Lib.bytesOf (rd_T80 ws ((i - 1 : Nat) : Int)).f0) (Lib.bytesOf (rd_T80 ws i).f0) ≥ 0
          · simp only [if_pos hc]
            refine (Big.of false).cast ?_
            have : wbh ws i = false := by
              unfold wbh
              rw [decide_eq_false h0, decide_eq_false (by omega)]; rfl
            simp [wgo, this]
          · simp only [if_neg hc]
            refine hi1.cast ?_
            have : wbh ws i = true := by
              unfold wbh
              rw [decide_eq_true (show _ < (0 : Int) by omega)]; simp
            simp [wgo, hb', this]
    by_cases h1 : ((rd_T80 ws i).f0.length : Int) < 1
    · simp only [if_pos h1]
      exact hj true (by unfold wok; rw [decide_eq_false (by omega)]; rfl)
    · simp only [if_neg h1]
      by_cases h2 : ((rd_T80 ws i).f0.length : Int) > 1200
      · simp only [if_pos h2]
        exact hj true (by unfold wok; rw [decide_eq_false (show ¬ (rd_T80 ws i).f0.length ≤ 1200 by omega)]; simp)
      · simp only [if_neg h2]
        by_cases h3 : ((rd_T80 ws i).f1.length : Int) > 4000
        · simp only [if_pos h3]
          exact hj true (by unfold wok; rw [decide_eq_false (show ¬ (rd_T80 ws i).f1.length ≤ 4000 by omega)]; simp)
        · simp only [if_neg h3]
          have hk : wok (rd_T80 ws i) = !((rd_T80 ws i).f2 && decide (0 < (rd_T80 ws i).f1.length)) := by
            unfold wok
            rw [decide_eq_true (show 1 ≤ (rd_T80 ws i).f0.length by omega), decide_eq_true (show (rd_T80 ws i).f0.length ≤ 1200 by omega), decide_eq_true (show (rd_T80 ws i).f1.length ≤ 4000 by omega)]
            simp
          by_cases h4 : (rd_T80 ws i).f2 = true
          · simp only [if_pos h4]
            refine hj _ ?_
            rw [hk, h4]
            simp
          · simp only [if_neg h4]
            refine hj _ ?_
            rw [hk]
            simp [h4]
theorem may_r (a b c : Int) (rs : List S77) (ws : List S80) (hr : rs.length ≤ 400) (hw : ws.length ≤ 400) (d : Nat) : ∀ i : Nat, i + d = rs.length →
    Big (fun k => intent_May.l0 k rs (rs.length : Int) (i : Int) a b c rs ws) (rgo rs d i && wgo ws ws.length 0) := by
  induction d with
  | zero =>
    intro i hi
    refine Big.succ ?_
    simp only [intent_May.l0]
    simp only [if_neg (show ¬ (i : Int) < (rs.length : Int) by omega)]
    exact may_w a b c rs ws hw ws.length 0 (by omega)
  | succ d ih =>
    intro i hi
    refine Big.succ ?_
    simp only [intent_May.l0]
    have hi1 := ih (i + 1) (by omega)
    have ew : wrap64 ((i : Int) + 1) = ((i + 1 : Nat) : Int) := by rw [w64 (by omega) (by omega)]; omega
    simp only [if_pos (show (i : Int) < (rs.length : Int) by omega), if_pos (show (0 : Int) ≤ (i : Int) by omega), ew]
    by_cases h1 : ((rd_T77 rs i).f0.length : Int) < ((rd_T77 rs i).f1.length : Int)
    · simp only [if_pos h1]
      by_cases h2 : ((rd_T77 rs i).f1.length : Int) > 1201
      · simp only [if_pos h2]
        refine (Big.of false).cast ?_
        have : rok (rd_T77 rs i) = false := by unfold rok; rw [decide_eq_false (show ¬ (rd_T77 rs i).f1.length ≤ 1201 by omega)]; simp
        simp [rgo, this]
      · simp only [if_neg h2]
        refine hi1.cast ?_
        have : rok (rd_T77 rs i) = true := by unfold rok; rw [decide_eq_true (show (rd_T77 rs i).f1.length ≤ 1201 by omega), decide_eq_true (show (rd_T77 rs i).f0.length ≤ 1201 by omega)]; simp
        simp [rgo, this]
    · simp only [if_neg h1]
      by_cases h2 : ((rd_T77 rs i).f0.length : Int) > 1201
      · simp only [if_pos h2]
        refine (Big.of false).cast ?_
        have : rok (rd_T77 rs i) = false := by unfold rok; rw [decide_eq_false (show ¬ (rd_T77 rs i).f0.length ≤ 1201 by omega)]; simp
        simp [rgo, this]
      · simp only [if_neg h2]
        refine hi1.cast ?_
        have : rok (rd_T77 rs i) = true := by unfold rok; rw [decide_eq_true (show (rd_T77 rs i).f1.length ≤ 1201 by omega), decide_eq_true (show (rd_T77 rs i).f0.length ≤ 1201 by omega)]; simp
        simp [rgo, this]
theorem may_all (a b c : Int) (rs : List S77) (ws : List S80) : Big (fun k => intent_May.f k a b c rs ws) (spec a b c rs ws) := by
  have hj : ∀ b2 : Bool, ∀ r : Bool, (b2 = true → r = false) → (b2 = false → rs.length ≤ 400 ∧ ws.length ≤ 400 ∧ r = (rgo rs rs.length 0 && wgo ws ws.length 0)) → Big (fun k => intent_May.j0 k b2 a b c rs ws) r := by
    intro b2 r h1 h2
    refine Big.succ ?_
    simp only [intent_May.j0]
    cases b2 with
    | true => simp only [if_true]; exact (Big.of false).cast (h1 rfl).symm
    | false =>
      simp only [if_neg (show ¬ (false = true) by decide)]
      obtain ⟨q1, q2, q3⟩ := h2 rfl
      exact (may_r a b c rs ws q1 q2 rs.length 0 (by omega)).cast q3.symm
  unfold intent_May.f intent_count.f
  have hc : ∀ x l : Int, (if x ≥ l then some (decide (x ≤ 1048576)) else some false) = some (decide (l ≤ x) && decide (x ≤ 1048576)) := by
    intro x l
    by_cases h : x ≥ l
    · rw [if_pos h, decide_eq_true (show l ≤ x from h)]; simp
    · rw [if_neg h, decide_eq_false (show ¬ l ≤ x from h)]; simp
  simp only [hc]
  have step : ∀ (t : Bool) (r : Bool) (F : Nat → Option Bool), (t = false → r = false) → (t = true → Big F r) → Big (fun k => (some t).bind fun t102 => (if t102 = true then F k else intent_May.j0 k true a b c rs ws)) r := by
    intro t r F h1 h2
    refine Big.bind1 rfl ?_
    cases t with
    | true => simp only [if_true]; exact h2 rfl
    | false => simp only [if_neg (show ¬ (false = true) by decide)]; exact hj true r (fun _ => h1 rfl) (fun h => by cases h)
  refine step _ _ _ (fun h => ?_) (fun h1 => step _ _ _ (fun h => ?_) (fun h2 => step _ _ _ (fun h => ?_) (fun h3 => ?_)))
  · unfold spec; rw [← Bool.and_assoc, h]; simp
  · unfold spec; rw [← Bool.and_assoc (decide (1 ≤ b)), h]; simp
  · unfold spec; rw [← Bool.and_assoc (decide (0 ≤ c)), h]; simp
  · have hs : spec a b c rs ws = (decide (rs.length ≤ 400) && (decide (ws.length ≤ 400) && (rgo rs rs.length 0 && wgo ws ws.length 0))) := by
      unfold spec
      rw [← Bool.and_assoc (decide (0 ≤ c)), h3, ← Bool.and_assoc (decide (1 ≤ b)), h2, ← Bool.and_assoc (decide (1 ≤ a)), h1]
      simp
    by_cases q : (rs.length : Int) > 400
    · simp only [if_pos q]
      refine hj _ _ (fun _ => ?_) (fun h => by cases h)
      rw [hs, decide_eq_false (by omega)]; rfl
    · simp only [if_neg q]
      refine hj _ _ (fun h => ?_) (fun h => ⟨by omega, ?_, ?_⟩)
      · have := of_decide_eq_true h
        rw [hs, decide_eq_false (show ¬ ws.length ≤ 400 by omega)]; simp
      · have := of_decide_eq_false h
        omega
      · have := of_decide_eq_false h
        rw [hs, decide_eq_true (show rs.length ≤ 400 by omega), decide_eq_true (show ws.length ≤ 400 by omega)]; simp

/-! The reference's -/
theorem len_rd (l : List S80) (hg : ∀ x ∈ l, gd80 x) (i : Nat) (h : i < l.length) : ((rd_T80 l (i : Int)).f0.length : Int) ≤ 9223372036854775807 := by
  have e : rd_T80 l (i : Int) = l[i] := by simp [rd_T80, List.getD_eq_getElem?_getD, h]
  rw [e]
  have := (hg l[i] (List.getElem_mem h)).1.1
  omega
theorem ref_w (a b c : Int) (rs : List S77) (ws : List S80) (hg : ∀ x ∈ ws, gd80 x) (hw : ws.length ≤ 400) (d : Nat) : ∀ i : Nat, i + d = ws.length →
    Big (fun k => commonholdref_IntentMay.l1 k ws (ws.length : Int) (i : Int) a b c rs ws) (wgo ws d i) := by
  induction d with
  | zero =>
    intro i hi
    refine Big.succ ?_
    simp only [commonholdref_IntentMay.l1]
    simp only [if_neg (show ¬ (i : Int) < (ws.length : Int) by omega)]
    exact Big.of _
  | succ d ih =>
    intro i hi
    refine Big.succ ?_
    simp only [commonholdref_IntentMay.l1]
    simp only [if_pos (show (i : Int) < (ws.length : Int) by omega), if_pos (show (0 : Int) ≤ (i : Int) by omega)]
    have hi1 := ih (i + 1) (by omega)
    have ew : wrap64 ((i : Int) + 1) = ((i + 1 : Nat) : Int) := by rw [w64 (by omega) (by omega)]; omega
    have hj : ∀ b2 : Bool, wok (rd_T80 ws i) = !b2 → Big (fun k => commonholdref_IntentMay.j4 k (i : Int) ws (ws.length : Int) (i : Int) b2 a b c rs ws (rd_T80 ws i).f0 (rd_T80 ws i).f1 (rd_T80 ws i).f2) (wgo ws (d + 1) i) := by
      intro b2 hb
      refine Big.succ ?_
      simp only [commonholdref_IntentMay.j4, ew]
      cases b2 with
      | true =>
        simp only [if_true]
        refine (Big.of false).cast ?_
        simp [wgo, hb]
      | false =>
        simp only [if_neg (show ¬ (false = true) by decide)]
        have hb' : wok (rd_T80 ws i) = true := by rw [hb]; rfl
        by_cases h0 : i = 0
        · subst h0
          simp only [if_neg (show ¬ ((0 : Nat) : Int) > 0 by omega)]
          refine hi1.cast ?_
          show _ = (wok (rd_T80 ws ((0 : Nat) : Int)) && (wbh ws 0 && wgo ws d (0 + 1)))
          rw [hb']
          simp [wbh]
        · have ep : wrap64 ((i : Int) - 1) = ((i - 1 : Nat) : Int) := by rw [w64 (by omega) (by omega)]; omega
          simp only [if_pos (show (i : Int) > 0 by omega), ep, if_pos (show (0 : Int) ≤ ((i - 1 : Nat) : Int) by omega), if_pos (show ((i - 1 : Nat) : Int) < (ws.length : Int) by omega)]
          refine Big.bind (less_all _ _ (len_rd ws hg (i - 1) (by omega)) (len_rd ws hg i (by omega))) ?_
          by_cases hc : Lib.compareBytes (Lib.bytesOf (rd_T80 ws ((i - 1 : Nat) : Int)).f0) (Lib.bytesOf (rd_T80 ws i).f0) < 0
          · simp only [decide_eq_true hc, if_true]
            refine hi1.cast ?_
            have : wbh ws i = true := by
              unfold wbh
              rw [decide_eq_true hc]; simp
            simp [wgo, hb', this]
          · simp only [decide_eq_false hc, if_neg (show ¬ (false = true) by decide)]
            refine (Big.of false).cast ?_
            have : wbh ws i = false := by
              unfold wbh
              rw [decide_eq_false h0, decide_eq_false hc]; rfl
            simp [wgo, this]
    by_cases h1 : ((rd_T80 ws i).f0.length : Int) = 0
    · simp only [if_pos h1]
      exact hj true (by unfold wok; rw [decide_eq_false (by omega)]; rfl)
    · simp only [if_neg h1]
      by_cases h2 : ((rd_T80 ws i).f0.length : Int) > 1200
      · simp only [if_pos h2]
        exact hj true (by unfold wok; rw [decide_eq_false (show ¬ (rd_T80 ws i).f0.length ≤ 1200 by omega)]; simp)
      · simp only [if_neg h2]
        by_cases h3 : ((rd_T80 ws i).f1.length : Int) > 4000
        · simp only [if_pos h3]
          exact hj true (by unfold wok; rw [decide_eq_false (show ¬ (rd_T80 ws i).f1.length ≤ 4000 by omega)]; simp)
        · simp only [if_neg h3]
          have hk : wok (rd_T80 ws i) = !((rd_T80 ws i).f2 && decide (0 < (rd_T80 ws i).f1.length)) := by
            unfold wok
            rw [decide_eq_true (show 1 ≤ (rd_T80 ws i).f0.length by omega), decide_eq_true (show (rd_T80 ws i).f0.length ≤ 1200 by omega), decide_eq_true (show (rd_T80 ws i).f1.length ≤ 4000 by omega)]
            simp
          by_cases h4 : (rd_T80 ws i).f2 = true
          · simp only [if_pos h4]
            refine hj _ ?_
            rw [hk, h4]
            by_cases h5 : (rd_T80 ws i).f1.length = 0
            · simp [h5]
            · rw [decide_eq_true (show 0 < (rd_T80 ws i).f1.length by omega)]
              have : ((((rd_T80 ws i).f1.length : Nat) : Int) != 0) = true := by rw [bne_iff_ne]; omega
              rw [this]; rfl
          · simp only [if_neg h4]
            refine hj _ ?_
            rw [hk]
            simp [h4]
theorem ref_r (a b c : Int) (rs : List S77) (ws : List S80) (hg : ∀ x ∈ ws, gd80 x) (hr : rs.length ≤ 400) (hw : ws.length ≤ 400) (d : Nat) : ∀ i : Nat, i + d = rs.length →
    Big (fun k => commonholdref_IntentMay.l0 k rs (rs.length : Int) (i : Int) a b c rs ws) (rgo rs d i && wgo ws ws.length 0) := by
  induction d with
  | zero =>
    intro i hi
    refine Big.succ ?_
    simp only [commonholdref_IntentMay.l0]
    simp only [if_neg (show ¬ (i : Int) < (rs.length : Int) by omega)]
    exact ref_w a b c rs ws hg hw ws.length 0 (by omega)
  | succ d ih =>
    intro i hi
    refine Big.succ ?_
    simp only [commonholdref_IntentMay.l0]
    have hi1 := ih (i + 1) (by omega)
    have ew : wrap64 ((i : Int) + 1) = ((i + 1 : Nat) : Int) := by rw [w64 (by omega) (by omega)]; omega
    simp only [if_pos (show (i : Int) < (rs.length : Int) by omega), if_pos (show (0 : Int) ≤ (i : Int) by omega), ew]
    by_cases h2 : ((rd_T77 rs i).f0.length : Int) > 1201
    · simp only [if_pos h2]
      refine (Big.of false).cast ?_
      have : rok (rd_T77 rs i) = false := by unfold rok; rw [decide_eq_false (show ¬ (rd_T77 rs i).f0.length ≤ 1201 by omega)]; simp
      simp [rgo, this]
    · simp only [if_neg h2]
      by_cases h3 : ((rd_T77 rs i).f1.length : Int) > 1201
      · simp only [if_pos h3]
        refine (Big.of false).cast ?_
        have : rok (rd_T77 rs i) = false := by unfold rok; rw [decide_eq_false (show ¬ (rd_T77 rs i).f1.length ≤ 1201 by omega)]; simp
        simp [rgo, this]
      · simp only [if_neg h3]
        refine hi1.cast ?_
        have : rok (rd_T77 rs i) = true := by unfold rok; rw [decide_eq_true (show (rd_T77 rs i).f1.length ≤ 1201 by omega), decide_eq_true (show (rd_T77 rs i).f0.length ≤ 1201 by omega)]; simp
        simp [rgo, this]
theorem ref_all (a b c : Int) (rs : List S77) (ws : List S80) (hg : ∀ x ∈ ws, gd80 x) : Big (fun k => commonholdref_IntentMay.f k a b c rs ws) (spec a b c rs ws) := by
  have hj1 : ∀ b2 : Bool, (b2 = false → rs.length ≤ 400 ∧ ws.length ≤ 400) → Big (fun k => commonholdref_IntentMay.j1 k b2 a b c rs ws) (!b2 && (rgo rs rs.length 0 && wgo ws ws.length 0)) := by
    intro b2 h2
    refine Big.succ ?_
    simp only [commonholdref_IntentMay.j1]
    cases b2 with
    | true => simp only [if_true]; exact Big.of false
    | false =>
      simp only [if_neg (show ¬ (false = true) by decide)]
      obtain ⟨q1, q2⟩ := h2 rfl
      exact (ref_r a b c rs ws hg q1 q2 rs.length 0 (by omega)).cast (by simp)
  have hj0 : ∀ b2 : Bool, Big (fun k => commonholdref_IntentMay.j0 k b2 a b c rs ws) (!b2 && (decide (rs.length ≤ 400) && (decide (ws.length ≤ 400) && (rgo rs rs.length 0 && wgo ws ws.length 0)))) := by
    intro b2
    refine Big.succ ?_
    simp only [commonholdref_IntentMay.j0]
    cases b2 with
    | true => simp only [if_true]; exact Big.of false
    | false =>
      simp only [if_neg (show ¬ (false = true) by decide)]
      by_cases q : (rs.length : Int) > 400
      · simp only [if_pos q]
        refine (hj1 true (fun h => by cases h)).cast ?_
        rw [decide_eq_false (show ¬ rs.length ≤ 400 by omega)]; rfl
      · simp only [if_neg q]
        by_cases q2 : (ws.length : Int) > 400
        · simp only [decide_eq_true q2]
          refine (hj1 true (fun h => by cases h)).cast ?_
          rw [decide_eq_false (show ¬ ws.length ≤ 400 by omega)]; simp
        · simp only [decide_eq_false q2]
          refine (hj1 false (fun _ => ⟨by omega, by omega⟩)).cast ?_
          rw [decide_eq_true (show rs.length ≤ 400 by omega), decide_eq_true (show ws.length ≤ 400 by omega)]; simp
  unfold commonholdref_IntentMay.f
  by_cases q1 : a < 1
  · simp only [if_pos q1]
    refine (hj0 true).cast ?_
    unfold spec; rw [decide_eq_false (show ¬ 1 ≤ a by omega)]; rfl
  simp only [if_neg q1]
  by_cases q2 : a > 1048576
  · simp only [if_pos q2]
    refine (hj0 true).cast ?_
    unfold spec; rw [decide_eq_false (show ¬ a ≤ 1048576 by omega)]; simp
  simp only [if_neg q2]
  by_cases q3 : b < 1
  · simp only [if_pos q3]
    refine (hj0 true).cast ?_
    unfold spec; rw [decide_eq_false (show ¬ 1 ≤ b by omega)]; simp
  simp only [if_neg q3]
  by_cases q4 : b > 1048576
  · simp only [if_pos q4]
    refine (hj0 true).cast ?_
    unfold spec; rw [decide_eq_false (show ¬ b ≤ 1048576 by omega)]; simp
  simp only [if_neg q4]
  by_cases q5 : c < 0
  · simp only [if_pos q5]
    refine (hj0 true).cast ?_
    unfold spec; rw [decide_eq_false (show ¬ 0 ≤ c by omega)]; simp
  simp only [if_neg q5]
  refine (hj0 _).cast ?_
  unfold spec
  rw [decide_eq_true (show 1 ≤ a by omega), decide_eq_true (show a ≤ 1048576 by omega), decide_eq_true (show 1 ≤ b by omega), decide_eq_true (show b ≤ 1048576 by omega), decide_eq_true (show 0 ≤ c by omega)]
  by_cases q6 : c > 1048576
  · rw [decide_eq_true q6, decide_eq_false (show ¬ c ≤ 1048576 by omega)]; simp
  · rw [decide_eq_false q6, decide_eq_true (show c ≤ 1048576 by omega)]; simp
theorem same_from (l : List Int) (hl : (l.length : Int) ≤ 140737488355328) (d : Nat) : ∀ (k : Nat) (i : Int), 0 ≤ i → i ≤ l.length → (l.length : Int) - i = d → d < k → commonholdlaw_sameBytes.l0 k l l i = some true := by
  induction d with
  | zero =>
    intro k i h0 h1 hd hk
    obtain ⟨k, rfl⟩ : ∃ m, k = m + 1 := ⟨k - 1, by omega⟩
    simp only [commonholdlaw_sameBytes.l0]
    rw [if_neg (by omega)]
  | succ d ih =>
    intro k i h0 h1 hd hk
    obtain ⟨k, rfl⟩ : ∃ m, k = m + 1 := ⟨k - 1, by omega⟩
    simp only [commonholdlaw_sameBytes.l0]
    rw [if_pos (show i < (l.length : Int) by omega), if_pos h0, if_pos (show i < (l.length : Int) by omega)]
    simp only [if_true]
    rw [show wrap64 (i + 1) = i + 1 from by unfold wrap64; omega]
    exact ih k (i + 1) (by omega) (by omega) (by omega) (by omega)
theorem same_self (l : List Int) (hl : (l.length : Int) ≤ 140737488355328) : Big (fun k => commonholdlaw_sameBytes.f k l l) true := by
  refine ⟨l.length + 1, fun k hk => ?_⟩
  show (if (l.length : Int) = (l.length : Int) then _ else _) = some true
  rw [if_pos rfl]
  exact same_from l hl l.length k 0 (by omega) (by omega) (by omega) (by omega)

theorem rd77 (l : List S77) (i : Nat) (h : i < l.length) : rd_T77 l (i : Int) = l[i] := by simp [rd_T77, List.getD_eq_getElem?_getD, h]
theorem rd80 (l : List S80) (i : Nat) (h : i < l.length) : rd_T80 l (i : Int) = l[i] := by simp [rd_T80, List.getD_eq_getElem?_getD, h]
theorem rgo_at (l : List S77) : ∀ (d i : Nat), rgo l d i = true → ∀ j : Nat, i ≤ j → j < i + d → rok (rd_T77 l (j : Int)) = true := by
  intro d
  induction d with
  | zero => intro i _ j h1 h2; omega
  | succ d ih =>
    intro i h j h1 h2
    simp only [rgo, Bool.and_eq_true] at h
    by_cases e : j = i
    · subst e; exact h.1
    · exact ih (i + 1) h.2 j (by omega) (by omega)
theorem wgo_at (l : List S80) : ∀ (d i : Nat), wgo l d i = true → ∀ j : Nat, i ≤ j → j < i + d → wok (rd_T80 l (j : Int)) = true := by
  intro d
  induction d with
  | zero => intro i _ j h1 h2; omega
  | succ d ih =>
    intro i h j h1 h2
    simp only [wgo, Bool.and_eq_true] at h
    by_cases e : j = i
    · subst e; exact h.1
    · exact ih (i + 1) h.2.2 j (by omega) (by omega)
theorem le_len (n : Int) : (intent_tape_number.le n).length = 4 := by simp [intent_tape_number.le]
theorem range_len (r : S77) (h : rok r = true) : (intent_Encode.range r).length ≤ 2410 := by
  simp only [rok, Bool.and_eq_true, decide_eq_true_eq] at h
  simp only [intent_Encode.range, List.length_append, le_len]
  omega
theorem write_len (x : S80) (h : wok x = true) : (intent_Encode.write x).length ≤ 5209 := by
  simp only [wok, Bool.and_eq_true, decide_eq_true_eq] at h
  simp only [intent_Encode.write, List.length_append, le_len, List.length_singleton]
  omega
theorem flat_le {α : Type} (F : α → List Int) (c : Nat) : ∀ l : List α, (∀ x ∈ l, (F x).length ≤ c) → (l.flatMap F).length ≤ c * l.length := by
  intro l
  induction l with
  | nil => intro _; simp
  | cons x l ih =>
    intro h
    have h1 := ih fun y hy => h y (List.mem_cons_of_mem _ hy)
    have h2 := h x (List.mem_cons_self ..)
    rw [List.flatMap_cons, List.length_append, List.length_cons, Nat.mul_add]
    omega
theorem spec_of {a b c : Int} {rs : List S77} {ws : List S80} (h : spec a b c rs ws = true) : (1 ≤ a ∧ a ≤ 1048576) ∧ (1 ≤ b ∧ b ≤ 1048576) ∧ (0 ≤ c ∧ c ≤ 1048576) ∧ rs.length ≤ 400 ∧ ws.length ≤ 400 ∧ (∀ x ∈ rs, rok x = true) ∧ ∀ x ∈ ws, wok x = true := by
  simp only [spec, Bool.and_eq_true, decide_eq_true_eq] at h
  obtain ⟨h1, h2, h3, h4, h5, h6, h7, h8, h9, h10⟩ := h
  refine ⟨⟨h1, h2⟩, ⟨h3, h4⟩, ⟨h5, h6⟩, h7, h8, fun x hx => ?_, fun x hx => ?_⟩
  · obtain ⟨i, hi, rfl⟩ := List.getElem_of_mem hx
    have := rgo_at rs _ _ h9 i (by omega) (by omega)
    rwa [rd77 rs i hi] at this
  · obtain ⟨i, hi, rfl⟩ := List.getElem_of_mem hx
    have := wgo_at ws _ _ h10 i (by omega) (by omega)
    rwa [rd80 ws i hi] at this
theorem bytes_len {a b c : Int} {rs : List S77} {ws : List S80} (h : spec a b c rs ws = true) : (intent_Encode.bytes a b c rs ws).length ≤ 4000000 := by
  obtain ⟨-, -, -, h1, h2, h3, h4⟩ := spec_of h
  have q1 := flat_le intent_Encode.range 2410 rs fun x hx => range_len x (h3 x hx)
  have q2 := flat_le intent_Encode.write 5209 ws fun x hx => write_len x (h4 x hx)
  have q3 : (intent_Encode.head a b c rs.length).length = 16 := rfl
  simp only [intent_Encode.bytes, List.length_append, le_len, q3]
  omega
theorem little_of (n : Int) (h0 : 0 ≤ n) (h1 : n ≤ 9223372036854775807) : commonholdref_little.f n = some (intent_tape_number.le n) := by
  unfold commonholdref_little.f intent_tape_number.le
  have q : ∀ m : Int, 0 ≤ m → m ≤ 9223372036854775807 → wrap64 m = m := fun m a b => w64 (by omega) (by omega)
  have e : ∀ d : Int, 0 < d → wrap64 (Int.tdiv n d) = n / d := by
    intro d hd
    rw [Int.tdiv_eq_ediv_of_nonneg h0]
    exact q _ (Int.ediv_nonneg h0 (by omega)) (Int.le_trans (Int.ediv_le_self _ h0) h1)
  rw [e 256 (by omega), e 65536 (by omega), e 16777216 (by omega)]
  have f : ∀ m : Int, 0 ≤ m → Int.tmod m 256 % 256 = m % 256 := by
    intro m hm
    rw [Int.tmod_eq_emod_of_nonneg hm]
    omega
  rw [f n h0, f _ (Int.ediv_nonneg h0 (by omega)), f _ (Int.ediv_nonneg h0 (by omega)), f _ (Int.ediv_nonneg h0 (by omega))]
theorem text_of (l m : List Int) (h : l.length + m.length ≤ 100000000) : commonholdref_withText.f l m = some (l ++ (intent_tape_number.le m.length ++ m)) := by
  unfold commonholdref_withText.f
  rw [little_of _ (by omega) (by omega)]
  have h1 : l.length + (intent_tape_number.le (m.length : Int)).length < 140737488355328 := by rw [le_len]; omega
  have h2 : (l ++ intent_tape_number.le (m.length : Int)).length + m.length < 140737488355328 := by rw [List.length_append, le_len]; omega
  simp only [Option.bind_some, if_pos h1, if_pos h2, List.append_assoc]
theorem bytes_w (ws : List S80) (h4 : ∀ x ∈ ws, wok x = true) (hw : ws.length ≤ 400) : ∀ (d i : Nat) (acc : List Int), i + d = ws.length → acc.length + 5209 * d ≤ 4000000 →
    Big (fun k => commonholdref_intentBytes.l1 k acc ws (ws.length : Int) (i : Int)) (acc ++ (ws.drop i).flatMap intent_Encode.write) := by
  intro d
  induction d with
  | zero =>
    intro i acc hi hl
    refine Big.succ ?_
    simp only [commonholdref_intentBytes.l1]
    simp only [if_neg (show ¬ (i : Int) < (ws.length : Int) by omega)]
    rw [List.drop_eq_nil_of_le (by omega)]
    simp only [List.flatMap_nil, List.append_nil]
    exact Big.of _
  | succ d ih =>
    intro i acc hi hl
    have hi' : i < ws.length := by omega
    refine Big.succ ?_
    simp only [commonholdref_intentBytes.l1]
    simp only [if_pos (show (i : Int) < (ws.length : Int) by omega), if_pos (show (0 : Int) ≤ (i : Int) by omega)]
    have ew : wrap64 ((i : Int) + 1) = ((i + 1 : Nat) : Int) := by rw [w64 (by omega) (by omega)]; omega
    rw [rd80 ws i hi', ew]
    have hk := h4 ws[i] (List.getElem_mem hi')
    have hn := write_len _ hk
    have hk' := hk
    simp only [wok, Bool.and_eq_true, decide_eq_true_eq] at hk'
    rw [text_of acc _ (by omega)]
    refine Big.bind1 rfl ?_
    refine Big.bind1 (r := if ws[i].f2 = true then 1 else 0) (by unfold commonholdref_flag.f; split <;> rfl) ?_
    have e1 : (if ws[i].f2 = true then (1 : Int) else 0) % 256 = if ws[i].f2 = true then 1 else 0 := by split <;> rfl
    have e3 : (acc ++ (intent_tape_number.le (ws[i].f0.length : Int) ++ ws[i].f0)).length < 140737488355328 := by simp only [List.length_append, le_len]; omega
    simp only [e1, if_pos e3]
    rw [text_of _ _ (by simp only [List.length_append, le_len, List.length_singleton]; omega)]
    refine Big.bind1 rfl ?_
    have := ih (i + 1) (acc ++ intent_Encode.write ws[i]) (by omega) (by rw [List.length_append]; omega)
    rw [List.drop_eq_getElem_cons hi', List.flatMap_cons]
    have e2 : acc ++ (intent_tape_number.le (ws[i].f0.length : Int) ++ ws[i].f0) ++ [if ws[i].f2 = true then (1 : Int) else 0] ++ (intent_tape_number.le (ws[i].f1.length : Int) ++ ws[i].f1) = acc ++ intent_Encode.write ws[i] := by simp [intent_Encode.write]
    rw [e2]
    exact this.cast (by simp)
theorem bytes_r (a b c : Int) (rs : List S77) (ws : List S80) (h3 : ∀ x ∈ rs, rok x = true) (h4 : ∀ x ∈ ws, wok x = true) (hr : rs.length ≤ 400) (hw : ws.length ≤ 400) : ∀ (d i : Nat) (acc : List Int), i + d = rs.length → acc.length + 2410 * d ≤ 1000000 →
    Big (fun k => commonholdref_intentBytes.l0 k acc rs (rs.length : Int) (i : Int) a b c rs ws) (acc ++ (rs.drop i).flatMap intent_Encode.range ++ intent_tape_number.le ws.length ++ ws.flatMap intent_Encode.write) := by
  intro d
  induction d with
  | zero =>
    intro i acc hi hl
    refine Big.succ ?_
    simp only [commonholdref_intentBytes.l0]
    simp only [if_neg (show ¬ (i : Int) < (rs.length : Int) by omega)]
    rw [List.drop_eq_nil_of_le (by omega), little_of _ (by omega) (by omega)]
    refine Big.bind1 rfl ?_
    have e3 : acc.length + (intent_tape_number.le (ws.length : Int)).length < 140737488355328 := by rw [le_len]; omega
    simp only [if_pos e3, List.flatMap_nil, List.append_nil]
    exact bytes_w ws h4 hw ws.length 0 _ (by omega) (by simp only [List.length_append, le_len]; omega)
  | succ d ih =>
    intro i acc hi hl
    have hi' : i < rs.length := by omega
    refine Big.succ ?_
    simp only [commonholdref_intentBytes.l0]
    simp only [if_pos (show (i : Int) < (rs.length : Int) by omega), if_pos (show (0 : Int) ≤ (i : Int) by omega)]
    have ew : wrap64 ((i : Int) + 1) = ((i + 1 : Nat) : Int) := by rw [w64 (by omega) (by omega)]; omega
    rw [rd77 rs i hi', ew]
    have hk := h3 rs[i] (List.getElem_mem hi')
    have hn := range_len _ hk
    have hk' := hk
    simp only [rok, Bool.and_eq_true, decide_eq_true_eq] at hk'
    rw [text_of acc _ (by omega)]
    refine Big.bind1 rfl ?_
    rw [text_of _ _ (by simp only [List.length_append, le_len]; omega)]
    refine Big.bind1 rfl ?_
    have := ih (i + 1) (acc ++ intent_Encode.range rs[i]) (by omega) (by rw [List.length_append]; omega)
    rw [List.drop_eq_getElem_cons hi', List.flatMap_cons]
    have e2 : acc ++ (intent_tape_number.le (rs[i].f0.length : Int) ++ rs[i].f0) ++ (intent_tape_number.le (rs[i].f1.length : Int) ++ rs[i].f1) = acc ++ intent_Encode.range rs[i] := by simp [intent_Encode.range]
    rw [e2]
    exact this.cast (by simp)
theorem bytes_all {a b c : Int} {rs : List S77} {ws : List S80} (h : spec a b c rs ws = true) : Big (fun k => commonholdref_intentBytes.f k a b c rs ws) (intent_Encode.bytes a b c rs ws) := by
  obtain ⟨ha, hb, hc, h1, h2, h3, h4⟩ := spec_of h
  unfold commonholdref_intentBytes.f
  simp only [little_of a (by omega) (by omega), little_of b (by omega) (by omega), little_of c (by omega) (by omega), little_of (rs.length : Int) (by omega) (by omega), Option.bind_some, le_len, List.length_append, List.nil_append, List.length_nil, Nat.zero_add]
  simp only [show (4 : Nat) < 140737488355328 by decide, show (4 + 4 : Nat) < 140737488355328 by decide, show (4 + 4 + 4 : Nat) < 140737488355328 by decide, show (4 + 4 + 4 + 4 : Nat) < 140737488355328 by decide, if_true]
  have := bytes_r a b c rs ws h3 h4 h1 h2 rs.length 0 (intent_Encode.head a b c rs.length) (by omega) (by rw [show (intent_Encode.head a b c rs.length).length = 16 from rfl]; omega)
  rw [intent_Encode.head_at] at this
  exact this.cast (by rw [List.drop_zero, intent_Encode.bytes, intent_Encode.head_at])
/-- What both give -/
def out (a b c : Int) (rs : List S77) (ws : List S80) : List Int × Int := if spec a b c rs ws = true then (if ((intent_Encode.bytes a b c rs ws).length : Int) > 4000 then ([], 1) else (intent_Encode.bytes a b c rs ws, 0)) else ([], 4)
theorem out_len (a b c : Int) (rs : List S77) (ws : List S80) : ((out a b c rs ws).1.length : Int) ≤ 140737488355328 := by
  unfold out
  split
  · next h => have := bytes_len h; split <;> simp <;> omega
  · simp
theorem enc_all (a b c : Int) (rs : List S77) (ws : List S80) : Big (fun k => intent_Encode.f k a b c rs ws) (out a b c rs ws) := by
  unfold intent_Encode.f
  refine Big.bind (may_all a b c rs ws) ?_
  unfold out
  cases h : spec a b c rs ws with
  | false => simp only [if_true, if_neg (show ¬ (false = true) by decide)]; exact Big.of _
  | true =>
    have := bytes_len h
    simp only [if_neg (show ¬ (true = false) by decide), if_true, if_pos (show (intent_Encode.bytes a b c rs ws).length < 140737488355328 by omega)]
    split <;> exact Big.of _
theorem refenc_all (a b c : Int) (rs : List S77) (ws : List S80) (hg : ∀ x ∈ ws, gd80 x) : Big (fun k => commonholdref_IntentEncoded.f k a b c rs ws) (out a b c rs ws) := by
  unfold commonholdref_IntentEncoded.f
  refine Big.bind (ref_all a b c rs ws hg) ?_
  unfold out
  cases h : spec a b c rs ws with
  | false => simp only [if_neg (show ¬ (false = true) by decide)]; exact Big.of _
  | true =>
    simp only [if_true]
    refine Big.bind (bytes_all h) ?_
    split <;> exact Big.of _
end Go.Proofs.Ytdepkigheacdnab.Pure.IntentEncodesOf
namespace Go.Proofs.Ytdepkigheacdnab.Pure
open Go Go.RowKit Go.Proofs.Ytdepkigheacdnab.PIntentEncodes Go.Proofs.YtdepkigheacdnabW.PrintWords Go.Proofs.YtdepkigheacdnabW.PrintLast Go.Proofs.Ytdepkigheacdnab.Bg IntentEncodesOf
theorem IntentEncodes : commonholdlaw_IntentEncodes.Pure := by
  intro x hx _
  refine Big.to ?_
  unfold commonholdlaw_IntentEncodes.f
  refine Big.bind (enc_all _ _ _ _ _) ?_
  refine Big.bind (refenc_all _ _ _ _ _ hx.2.2.2.2.2) ?_
  refine Big.bind (same_self _ (out_len _ _ _ _ _)) ?_
  simp only [beq_self_eq_true, if_true]
  exact Big.of true
end Go.Proofs.Ytdepkigheacdnab.Pure
