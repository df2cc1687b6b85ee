/- layout.Tail answers as its reference does, at every layout. No condition beyond the statement's own. -/
import Derived.Test.YtaadljjfckhinabPLayoutTailsx3
import Derived.Test.YtaadljjfckhinabBig
namespace Go.Proofs.Ytaadljjfckhinab.Pure.LayoutTailsOf
open Go Go.RowKit Go.Proofs.Ytaadljjfckhinab.PLayoutTails Go.Proofs.YtaadljjfckhinabW.PrintWords Go.Proofs.YtaadljjfckhinabW.PrintLast Go.Proofs.YtaadljjfckhinabW.PrintMore Go.Proofs.Ytaadljjfckhinab.Bg

/-- Every unit is one of the six, and none stands twice. -/
def chk : List Int → List Int → Bool
  | _, [] => true
  | pre, u :: r => if u < 0 ∨ 5 < u ∨ u ∈ pre then false else chk (pre ++ [u]) r
/-- The bits of s are the units that came. -/
def Seen (pre : List Int) (s : Nat) : Prop := ∀ u : Nat, s.testBit u = decide ((u : Int) ∈ pre)
theorem run_chk : ∀ (r pre : List Int) (s : Nat), Seen pre s → layout_May.run s r = chk pre r
  | [], _, _, _ => rfl
  | u :: r, pre, s, hs => by
    simp only [layout_May.run, chk]
    by_cases h0 : u < 0
    · simp [layout_May.bad, h0]
    by_cases h5 : 5 < u
    · simp [layout_May.bad, h5, show 6 ≤ u by omega]
    have hb := hs u.toNat
    rw [Nat.testBit_eq_decide_div_mod_eq, show ((u.toNat : Nat) : Int) = u by omega] at hb
    by_cases hm : u ∈ pre
    · rw [decide_eq_true hm] at hb
      rw [if_pos (by simp only [layout_May.bad, hb]; simp), if_pos (Or.inr (Or.inr hm))]
    · rw [decide_eq_false hm] at hb
      rw [if_neg (by simp only [layout_May.bad, hb]; simp; omega), if_neg (by simp [hm]; omega)]
      refine run_chk r (pre ++ [u]) _ (fun v => ?_)
      rw [Nat.testBit_or, hs v, Nat.testBit_two_pow]
      by_cases hv : (v : Int) = u
      · have e : u.toNat = v := by omega
        simp [hv, e]
      · have e : ¬ u.toNat = v := by omega
        simp [hv, e]
def spec (ep : Int) (l : List (List Int)) : Bool := decide (0 ≤ ep) && (decide (ep ≤ 1000000) && (decide (1 ≤ l.length) && (decide (l.length ≤ 6) && (layout_May.lens l && chk [] l.flatten))))
theorem may_law (ep : Int) (l : List (List Int)) : layout_May.f ep l = some (spec ep l) := by
  unfold layout_May.f spec
  rw [run_chk l.flatten [] 0 (fun u => by simp)]

theorem has_law (l : List Int) (n : Int) (d : Nat) (hl : l.length ≤ 1000) : ∀ i : Nat, i + d = l.length →
    Big (fun k => commonholdref_has.l0 k n l (l.length : Int) (i : Int)) (decide (n ∈ l.drop i)) := by
  induction d with
  | zero =>
    intro i hi
    refine Big.succ ?_
    simp only [commonholdref_has.l0]
    simp only [if_neg (show ¬ (i : Int) < (l.length : Int) by omega)]
    refine (Big.of false).cast ?_
    rw [List.drop_eq_nil_of_le (by omega)]; simp
  | succ d ih =>
    intro i hi
    refine Big.succ ?_
    simp only [commonholdref_has.l0]
    have ew : wrap64 ((i : Int) + 1) = ((i + 1 : Nat) : Int) := by rw [w64 (by omega) (by omega)]; omega
    simp only [if_pos (show (i : Int) < (l.length : Int) by omega), if_pos (show (0 : Int) ≤ (i : Int) by omega), rd_at l i (by omega), ew]
    rw [List.drop_eq_getElem_cons (show i < l.length by omega)]
    by_cases h : l[i]'(by omega) = n
    · simp only [if_pos h]
      refine (Big.of true).cast ?_
      simp [h]
    · simp only [if_neg h]
      refine (ih (i + 1) (by omega)).cast ?_
      have h' : ¬ n = l[i]'(by omega) := fun e => h e.symm
      exact decide_eq_decide.2 (by rw [List.mem_cons]; exact ⟨Or.inr, fun q => q.resolve_left h'⟩)
theorem has_f (l : List Int) (n : Int) (hl : l.length ≤ 1000) : Big (fun k => commonholdref_has.f k l n) (decide (n ∈ l)) := by
  have := has_law l n l.length hl 0 (by omega)
  simpa [commonholdref_has.f] using this

theorem chk_law (l : List Int) (hl : l.length ≤ 1000) (d : Nat) : ∀ i : Nat, i + d = l.length →
    Big (fun k => commonholdref_LayoutMay.l1 k l l (l.length : Int) (i : Int)) (chk (l.take i) (l.drop i)) := by
  induction d with
  | zero =>
    intro i hi
    refine Big.succ ?_
    simp only [commonholdref_LayoutMay.l1]
    simp only [if_neg (show ¬ (i : Int) < (l.length : Int) by omega)]
    refine (Big.of true).cast ?_
    rw [List.drop_eq_nil_of_le (by omega)]; rfl
  | succ d ih =>
    intro i hi
    refine Big.succ ?_
    simp only [commonholdref_LayoutMay.l1]
    have ew : wrap64 ((i : Int) + 1) = ((i + 1 : Nat) : Int) := by rw [w64 (by omega) (by omega)]; omega
    simp only [if_pos (show (i : Int) < (l.length : Int) by omega), if_pos (show (0 : Int) ≤ (i : Int) by omega), if_pos (show (i : Int) ≤ (l.length : Int) by omega), rd_at l i (by omega), ew, Int.toNat_natCast]
    rw [List.drop_eq_getElem_cons (show i < l.length by omega)]
    simp only [chk]
    have et : l.take (i + 1) = l.take i ++ [l[i]'(by omega)] := List.take_succ_eq_append_getElem (by omega)
    have ihh := ih (i + 1) (by omega)
    rw [et] at ihh
    generalize l[i]'(by omega) = u at *
    by_cases h0 : u < 0
    · simp only [if_pos h0]
      refine (Big.of false).cast ?_
      rw [if_pos (Or.inl h0)]
    simp only [if_neg h0]
    by_cases h5 : u > 5
    · simp only [if_pos h5]
      refine (Big.of false).cast ?_
      rw [if_pos (Or.inr (Or.inl h5))]
    simp only [if_neg h5]
    refine Big.bind (has_f (l.take i) u (by simp; omega)) ?_
    by_cases hm : u ∈ l.take i
    · rw [decide_eq_true hm]
      simp only [if_true]
      refine (Big.of false).cast ?_
      rw [if_pos (Or.inr (Or.inr hm))]
    · rw [decide_eq_false hm]
      simp only [if_neg (show ¬ (false = true) by decide)]
      refine ihh.cast ?_
      rw [if_neg (by simp only [not_or]; exact ⟨h0, h5, hm⟩)]

theorem rdL1 (l : List (List Int)) (i : Nat) (h : i < l.length) : rd_L1 l (i : Int) = l[i] := by simp [rd_L1, List.getD_eq_getElem?_getD, h]
theorem lens_law (l : List (List Int)) (h6 : l.length ≤ 6) (d : Nat) : ∀ (i : Nat) (acc : List Int), i + d = l.length → acc.length ≤ 3 * i →
    Big (fun k => commonholdref_LayoutMay.l0 k acc l (l.length : Int) (i : Int)) (layout_May.lens (l.drop i) && chk [] (acc ++ (l.drop i).flatten)) := by
  induction d with
  | zero =>
    intro i acc hi ha
    refine Big.succ ?_
    simp only [commonholdref_LayoutMay.l0]
    simp only [if_neg (show ¬ (i : Int) < (l.length : Int) by omega)]
    rw [List.drop_eq_nil_of_le (by omega)]
    have := chk_law acc (by omega) acc.length 0 (by omega)
    refine this.cast ?_
    simp [layout_May.lens]
  | succ d ih =>
    intro i acc hi ha
    refine Big.succ ?_
    simp only [commonholdref_LayoutMay.l0]
    have ew : wrap64 ((i : Int) + 1) = ((i + 1 : Nat) : Int) := by rw [w64 (by omega) (by omega)]; omega
    simp only [if_pos (show (i : Int) < (l.length : Int) by omega), if_pos (show (0 : Int) ≤ (i : Int) by omega), rdL1 l i (by omega), ew]
    rw [List.drop_eq_getElem_cons (show i < l.length by omega)]
    have ihh := fun a h => ih (i + 1) a (by omega) h
    generalize l[i]'(by omega) = c at *
    by_cases h0 : (c.length : Int) = 0
    · simp only [if_pos h0]
      refine (Big.of false).cast ?_
      have : decide (1 ≤ c.length) = false := decide_eq_false (by omega)
      simp [layout_May.lens, this]
    simp only [if_neg h0]
    by_cases h3 : (c.length : Int) > 3
    · simp only [if_pos h3]
      refine (Big.of false).cast ?_
      have : decide (c.length ≤ 3) = false := decide_eq_false (by omega)
      simp [layout_May.lens, this]
    simp only [if_neg h3, if_pos (show acc.length + c.length < 17592186044416 by omega)]
    refine (ihh (acc ++ c) (by simp; omega)).cast ?_
    have e1 : decide (1 ≤ c.length) = true := decide_eq_true (by omega)
    have e2 : decide (c.length ≤ 3) = true := decide_eq_true (by omega)
    simp only [layout_May.lens, List.all_cons, e1, e2, List.flatten_cons, List.append_assoc]
    rfl
theorem refMay_law (ep : Int) (l : List (List Int)) : Big (fun k => commonholdref_LayoutMay.f k ep l) (spec ep l) := by
  simp only [commonholdref_LayoutMay.f]
  by_cases h1 : ep < 0
  · simp only [if_pos h1]
    refine Big.succ ?_
    simp only [commonholdref_LayoutMay.j0, if_true]
    refine (Big.of false).cast ?_
    simp [spec, decide_eq_false (show ¬ 0 ≤ ep by omega)]
  simp only [if_neg h1]
  by_cases h2 : ep > 1000000
  · simp only [if_pos h2]
    refine Big.succ ?_
    simp only [commonholdref_LayoutMay.j0, if_true]
    refine (Big.of false).cast ?_
    simp [spec, decide_eq_false (show ¬ ep ≤ 1000000 by omega)]
  simp only [if_neg h2]
  by_cases h3 : (l.length : Int) = 0
  · simp only [if_pos h3]
    refine Big.succ ?_
    simp only [commonholdref_LayoutMay.j0, if_true]
    refine (Big.of false).cast ?_
    simp [spec, decide_eq_false (show ¬ 1 ≤ l.length by omega)]
  simp only [if_neg h3]
  refine Big.succ ?_
  by_cases h4 : (l.length : Int) > 6
  · simp only [commonholdref_LayoutMay.j0, decide_eq_true h4, if_true]
    refine (Big.of false).cast ?_
    simp [spec, decide_eq_false (show ¬ l.length ≤ 6 by omega)]
  · simp only [commonholdref_LayoutMay.j0, decide_eq_false h4, if_neg (show ¬ (false = true) by decide)]
    have := lens_law l (by omega) l.length 0 [] (by omega) (by simp)
    refine this.cast ?_
    rw [List.drop_zero, List.nil_append]
    rw [spec, decide_eq_true (show 0 ≤ ep by omega), decide_eq_true (show ep ≤ 1000000 by omega), decide_eq_true (show 1 ≤ l.length by omega), decide_eq_true (show l.length ≤ 6 by omega)]
    rfl

/-- The place of a position by counting. -/
theorem row_law (n : Nat) (pos : Int) (hn : n ≤ 6) (addr : Nat) (ha : addr < 64) (nxt : Int × Int × Int) (hnx : Big (fun k => commonholdref_PlaceOf.l0 k pos (n : Int) ((addr + 1 : Nat) : Int)) nxt) (d : Nat) : ∀ c : Nat, c + d = n →
    Big (fun k => commonholdref_PlaceOf.l1 k pos (n : Int) (addr : Int) (c : Int)) (if (addr : Int) * n + c ≤ pos ∧ pos < (addr : Int) * n + n then (pos - addr * n, (addr : Int), 0) else nxt) := by
  have hm : addr * n ≤ 64 * 6 := Nat.mul_le_mul (by omega) hn
  have hm' : (addr : Int) * (n : Int) = ((addr * n : Nat) : Int) := by simp
  induction d with
  | zero =>
    intro c hc
    refine Big.succ ?_
    simp only [commonholdref_PlaceOf.l1]
    have ew : wrap64 ((addr : Int) + 1) = ((addr + 1 : Nat) : Int) := by rw [w64 (by omega) (by omega)]; omega
    simp only [if_neg (show ¬ (c : Int) < (n : Int) by omega), ew]
    refine hnx.cast ?_
    rw [if_neg (by omega)]
  | succ d ih =>
    intro c hc
    refine Big.succ ?_
    simp only [commonholdref_PlaceOf.l1]
    have ew : wrap64 ((c : Int) + 1) = ((c + 1 : Nat) : Int) := by rw [w64 (by omega) (by omega)]; omega
    have ea : wrap64 (wrap64 ((addr : Int) * (n : Int)) + (c : Int)) = ((addr * n : Nat) : Int) + c := by rw [hm', w64 (x := ((addr * n : Nat) : Int)) (by omega) (by omega), w64 (by omega) (by omega)]
    simp only [if_pos (show (c : Int) < (n : Int) by omega), ew, ea]
    by_cases hp : ((addr * n : Nat) : Int) + (c : Int) = pos
    · simp only [if_pos hp]
      refine (Big.of _).cast ?_
      rw [if_pos (by omega)]
      have : (c : Int) = pos - addr * n := by omega
      rw [this]
    · simp only [if_neg hp]
      refine (ih (c + 1) (by omega)).cast ?_
      by_cases hin : (addr : Int) * n + c ≤ pos ∧ pos < (addr : Int) * n + n
      · rw [if_pos hin, if_pos (by omega)]
      · rw [if_neg hin, if_neg (by omega)]
theorem place_law (n : Nat) (pos : Int) (h1 : 1 ≤ n) (hn : n ≤ 6) (d : Nat) : ∀ addr : Nat, addr + d = 64 →
    Big (fun k => commonholdref_PlaceOf.l0 k pos (n : Int) (addr : Int)) (if (addr : Int) * n ≤ pos ∧ pos < 64 * n then (pos % n, pos / n, 0) else (0, 0, 2)) := by
  induction d with
  | zero =>
    intro addr ha
    refine Big.succ ?_
    simp only [commonholdref_PlaceOf.l0]
    simp only [if_neg (show ¬ (addr : Int) < 64 by omega)]
    refine (Big.of _).cast ?_
    obtain rfl : addr = 64 := by omega
    rw [if_neg (by omega)]
  | succ d ih =>
    intro addr ha
    refine Big.succ ?_
    simp only [commonholdref_PlaceOf.l0]
    simp only [if_pos (show (addr : Int) < 64 by omega)]
    refine (row_law n pos hn addr (by omega) _ (ih (addr + 1) (by omega)) n 0 (by omega)).cast ?_
    have hle : ((addr : Int) + 1) * n ≤ 64 * n := Int.mul_le_mul_of_nonneg_right (by omega) (by omega)
    have ea : ((addr + 1 : Nat) : Int) * (n : Int) = (addr : Int) * n + n := by rw [Int.natCast_add, Int.add_mul]; simp
    rw [Int.add_mul] at hle
    by_cases hin : (addr : Int) * n + ((0 : Nat) : Int) ≤ pos ∧ pos < (addr : Int) * n + n
    · rw [if_pos hin, if_pos (by omega)]
      have hq : pos / n = addr := by
        rw [Int.ediv_eq_iff_of_pos (by omega)]
        omega
      have hr : pos % n = pos - addr * n := by
        rw [Int.emod_def, hq, Int.mul_comm]
      rw [hq, hr]
    · rw [if_neg hin]
      rw [ea]
      by_cases hi2 : (addr : Int) * n + n ≤ pos ∧ pos < 64 * n
      · rw [if_pos hi2, if_pos (by omega)]
      · rw [if_neg hi2, if_neg (by omega)]
/-- What both answer. -/
def told (ep : Int) (l : List (List Int)) (pos : Int) : Int × Int × Int :=
  if spec ep l = true then (if 0 ≤ pos ∧ pos < 64 * (l.length : Int) then (pos % l.length, pos / l.length, 0) else (0, 0, 2)) else (0, 0, 4)
theorem spec_len {ep : Int} {l : List (List Int)} (h : spec ep l = true) : 1 ≤ l.length ∧ l.length ≤ 6 := by
  simp only [spec, Bool.and_eq_true, decide_eq_true_eq] at h
  exact ⟨h.2.2.1, h.2.2.2.1⟩
theorem theirs_law (ep : Int) (l : List (List Int)) (pos : Int) : Big (fun k => commonholdref_PlaceOf.f k ep l pos) (told ep l pos) := by
  simp only [commonholdref_PlaceOf.f, told]
  refine Big.bind (refMay_law ep l) ?_
  by_cases hs : spec ep l = true
  · have hl := spec_len hs
    simp only [if_pos hs]
    refine (place_law l.length pos hl.1 hl.2 64 0 (by omega)).cast ?_
    simp
  · simp only [if_neg hs]
    exact Big.of _
/-- A position that is written. -/
def P (T : List Int) (p : Nat) : Prop := ((p / T.length : Nat) : Int) < rd T ((p % T.length : Nat) : Int)
/-- Nothing, or one more than a position that is written. -/
def Ok (T : List Int) (out : Int) : Prop := out = 0 ∨ ∃ p : Nat, out = (p : Int) + 1 ∧ p < 64 * T.length ∧ P T p
theorem top_one (T : List Int) (a b : Int) (ha : Ok T a) (hb : Ok T b) (ma : ∀ p : Nat, p < 64 * T.length → P T p → (p : Int) < a) (mb : ∀ p : Nat, p < 64 * T.length → P T p → (p : Int) < b) : a = b := by
  have h1 : a ≤ b := by
    rcases ha with rfl | ⟨p, rfl, hp, hP⟩
    · rcases hb with rfl | ⟨q, rfl, _, _⟩ <;> omega
    · have := mb p hp hP; omega
  have h2 : b ≤ a := by
    rcases hb with rfl | ⟨p, rfl, hp, hP⟩
    · rcases ha with rfl | ⟨q, rfl, _, _⟩ <;> omega
    · have := ma p hp hP; omega
  omega
def inb (l : List Int) : Bool := l.all fun t => decide (0 ≤ t) && decide (t ≤ 64)
theorem inb_cons (t : Int) (l : List Int) : inb (t :: l) = (decide (0 ≤ t) && decide (t ≤ 64) && inb l) := rfl
theorem Ok.le {T : List Int} {a : Int} (h : Ok T a) : 0 ≤ a ∧ a ≤ ((64 * T.length : Nat) : Int) := by
  rcases h with rfl | ⟨p, rfl, hp, _⟩ <;> omega

theorem mine_loop (T : List Int) (h1 : 1 ≤ T.length) (h6 : T.length ≤ 6) (d : Nat) : ∀ (i : Nat) (out : Int), i + d = T.length → Ok T out → (∀ p : Nat, p < 64 * T.length → p % T.length < i → P T p → (p : Int) < out) →
    ∃ r, Big (fun k => layout_Tail.l0 k T out T (T.length : Int) (i : Int)) r ∧ (inb (T.drop i) = false → r = (0, 2)) ∧ (inb (T.drop i) = true → r.2 = 0 ∧ Ok T r.1 ∧ ∀ p : Nat, p < 64 * T.length → P T p → (p : Int) < r.1) := by
  induction d with
  | zero =>
    intro i out hi hok htop
    refine ⟨(out, 0), Big.succ ?_, ?_, ?_⟩
    · simp only [layout_Tail.l0]
      simp only [if_neg (show ¬ (i : Int) < (T.length : Int) by omega)]
      exact Big.of _
    · rw [List.drop_eq_nil_of_le (by omega)]; intro h; cases h
    · intro _
      exact ⟨rfl, hok, fun p hp hP => htop p hp (by have := Nat.mod_lt p (show 0 < T.length by omega); omega) hP⟩
  | succ d ih =>
    intro i out hi hok htop
    have hle := hok.le
    have ew : wrap64 ((i : Int) + 1) = ((i + 1 : Nat) : Int) := by rw [w64 (by omega) (by omega)]; omega
    have hrd : rd T (i : Int) = T[i]'(by omega) := rd_at T i (by omega)
    have hdrop := List.drop_eq_getElem_cons (show i < T.length by omega)
    have hbad : (T[i]'(by omega) < 0 ∨ T[i]'(by omega) > 64) → ∃ r, Big (fun k => layout_Tail.l0 k T out T (T.length : Int) (i : Int)) r ∧ (inb (T.drop i) = false → r = (0, 2)) ∧ (inb (T.drop i) = true → r.2 = 0 ∧ Ok T r.1 ∧ ∀ p : Nat, p < 64 * T.length → P T p → (p : Int) < r.1) := by
      intro hb
      refine ⟨(0, 2), Big.succ (Big.succ ?_), fun _ => rfl, fun h => ?_⟩
      · simp only [layout_Tail.l0, layout_Tail.j1]
        simp only [if_pos (show (i : Int) < (T.length : Int) by omega), if_pos (show (0 : Int) ≤ (i : Int) by omega), hrd, if_true]
        by_cases h0 : T[i]'(by omega) < 0
        · simp only [if_pos h0]
          exact Big.of _
        · simp only [if_neg h0, decide_eq_true (show T[i]'(by omega) > 64 by omega), if_true]
          exact Big.of _
      · rw [hdrop, inb_cons] at h
        simp at h
        omega
    by_cases h0 : T[i]'(by omega) < 0
    · exact hbad (.inl h0)
    by_cases h64 : T[i]'(by omega) > 64
    · exact hbad (.inr h64)
    clear hbad
    generalize ht : T[i]'(by omega) = t at *
    have hin : inb (T.drop i) = inb (T.drop (i + 1)) := by
      rw [hdrop, inb_cons, decide_eq_true (show 0 ≤ t by omega), decide_eq_true (show t ≤ 64 by omega)]; rfl
    rw [hin]
    by_cases hp : t > 0
    · obtain ⟨tn, rfl⟩ : ∃ tn : Nat, t = (tn : Int) + 1 := ⟨(t - 1).toNat, by omega⟩
      have hm : tn * T.length ≤ 63 * T.length := Nat.mul_le_mul_right _ (by omega)
      have hc : wrap64 (wrap64 (wrap64 (wrap64 ((tn : Int) + 1 - 1) * (T.length : Int)) + (i : Int)) + 1) = ((tn * T.length + i : Nat) : Int) + 1 := by
        rw [show (tn : Int) + 1 - 1 = (tn : Int) by omega, w64 (x := (tn : Int)) (by omega) (by omega), show (tn : Int) * (T.length : Int) = ((tn * T.length : Nat) : Int) by simp, w64 (x := ((tn * T.length : Nat) : Int)) (by omega) (by omega), w64 (x := ((tn * T.length : Nat) : Int) + (i : Int)) (by omega) (by omega), w64 (by omega) (by omega)]
        omega
      have hcm : (tn * T.length + i) % T.length = i := by rw [Nat.mul_comm, Nat.mul_add_mod, Nat.mod_eq_of_lt (by omega)]
      have hcd : (tn * T.length + i) / T.length = tn := by rw [Nat.mul_comm, Nat.mul_add_div (by omega), Nat.div_eq_of_lt (by omega)]; omega
      have hP : P T (tn * T.length + i) := by
        unfold P; rw [hcm, hcd, hrd]; omega
      have hok2 : Ok T (mx out (((tn * T.length + i : Nat) : Int) + 1)) := by
        unfold mx
        split
        · exact .inr ⟨_, rfl, by omega, hP⟩
        · exact hok
      have hge : out ≤ mx out (((tn * T.length + i : Nat) : Int) + 1) ∧ ((tn * T.length + i : Nat) : Int) + 1 ≤ mx out (((tn * T.length + i : Nat) : Int) + 1) := by unfold mx; split <;> omega
      obtain ⟨r, hr, hr1, hr2⟩ := ih (i + 1) (mx out (((tn * T.length + i : Nat) : Int) + 1)) (by omega) hok2 (fun p hp hpm hPp => by
        by_cases he : p % T.length = i
        · have hq : p / T.length ≤ tn := by unfold P at hPp; rw [he, hrd] at hPp; omega
          have hdm := Nat.div_add_mod p T.length
          have : T.length * (p / T.length) ≤ tn * T.length := by rw [Nat.mul_comm]; exact Nat.mul_le_mul_right _ hq
          omega
        · have := htop p hp (by omega) hPp; omega)
      refine ⟨r, Big.succ (Big.succ ?_), hr1, hr2⟩
      simp only [layout_Tail.l0, layout_Tail.j1]
      simp only [if_pos (show (i : Int) < (T.length : Int) by omega), if_pos (show (0 : Int) ≤ (i : Int) by omega), hrd, if_neg h0, decide_eq_false h64, if_neg (show ¬ (false = true) by decide), if_pos hp, hc, ew]
      exact hr
    · obtain ⟨r, hr, hr1, hr2⟩ := ih (i + 1) out (by omega) hok (fun p hp hpm hPp => by
        by_cases he : p % T.length = i
        · exfalso; unfold P at hPp; rw [he, hrd] at hPp; have h9 : (0 : Int) ≤ ((p / T.length : Nat) : Int) := Int.natCast_nonneg _; generalize ((p / T.length : Nat) : Int) = z at *; omega
        · exact htop p hp (by omega) hPp)
      refine ⟨r, Big.succ (Big.succ ?_), hr1, hr2⟩
      simp only [layout_Tail.l0, layout_Tail.j1]
      simp only [if_pos (show (i : Int) < (T.length : Int) by omega), if_pos (show (0 : Int) ≤ (i : Int) by omega), hrd, if_neg h0, decide_eq_false h64, if_neg (show ¬ (false = true) by decide), if_neg hp, ew]
      exact hr

theorem ref_pos (T : List Int) (ep : Int) (l : List (List Int)) (hs : spec ep l = true) (he : T.length = l.length) (d : Nat) : ∀ (q : Nat) (out : Int), q + d = 64 * T.length → Ok T out → (∀ p : Nat, p < q → P T p → (p : Int) < out) →
    ∃ r, Big (fun k => commonholdref_TailOf.l1 k T out (q : Int) ep l) r ∧ r.2 = 0 ∧ Ok T r.1 ∧ ∀ p : Nat, p < 64 * T.length → P T p → (p : Int) < r.1 := by
  have hl := spec_len hs
  have e64 : wrap64 (64 * (T.length : Int)) = ((64 * T.length : Nat) : Int) := by rw [w64 (by omega) (by omega)]; omega
  induction d with
  | zero =>
    intro q out hq hok htop
    refine ⟨(out, 0), Big.succ ?_, rfl, hok, fun p hp hP => htop p (by omega) hP⟩
    simp only [commonholdref_TailOf.l1]
    simp only [e64, if_neg (show ¬ (q : Int) < ((64 * T.length : Nat) : Int) by omega)]
    exact Big.of _
  | succ d ih =>
    intro q out hq hok htop
    have ew : wrap64 ((q : Int) + 1) = ((q + 1 : Nat) : Int) := by rw [w64 (by omega) (by omega)]; omega
    have hpl := theirs_law ep l (q : Int)
    have et : told ep l (q : Int) = (((q % T.length : Nat) : Int), ((q / T.length : Nat) : Int), 0) := by
      rw [told, if_pos hs, if_pos (by omega), he]
      simp
    rw [et] at hpl
    have hml := Nat.mod_lt q (show 0 < T.length by omega)
    by_cases hP : P T q
    · obtain ⟨r, hr, h2⟩ := ih (q + 1) ((q : Int) + 1) (by omega) (.inr ⟨q, rfl, by omega, hP⟩) (fun p hp hPp => by omega)
      refine ⟨r, Big.succ ?_, h2⟩
      simp only [commonholdref_TailOf.l1]
      simp only [e64, if_pos (show (q : Int) < ((64 * T.length : Nat) : Int) by omega)]
      refine Big.bind hpl ?_
      have hP' : ((q / T.length : Nat) : Int) < rd T ((q % T.length : Nat) : Int) := hP
      simp only [if_pos (show (0 : Int) ≤ ((q % T.length : Nat) : Int) by omega), if_pos (show ((q % T.length : Nat) : Int) < (T.length : Int) by omega), if_pos hP', ew]
      exact hr
    · obtain ⟨r, hr, h2⟩ := ih (q + 1) out (by omega) hok (fun p hp hPp => by
        by_cases e : p = q
        · subst e; exact absurd hPp hP
        · exact htop p (by omega) hPp)
      refine ⟨r, Big.succ ?_, h2⟩
      simp only [commonholdref_TailOf.l1]
      simp only [e64, if_pos (show (q : Int) < ((64 * T.length : Nat) : Int) by omega)]
      refine Big.bind hpl ?_
      have hP' : ¬ ((q / T.length : Nat) : Int) < rd T ((q % T.length : Nat) : Int) := hP
      simp only [if_pos (show (0 : Int) ≤ ((q % T.length : Nat) : Int) by omega), if_pos (show ((q % T.length : Nat) : Int) < (T.length : Int) by omega), if_neg hP', ew]
      exact hr
theorem ref_loop (T : List Int) (ep : Int) (l : List (List Int)) (r : Int × Int) (h6 : T.length ≤ 6) (hr : Big (fun k => commonholdref_TailOf.l1 k T 0 0 ep l) r) (d : Nat) : ∀ i : Nat, i + d = T.length →
    Big (fun k => commonholdref_TailOf.l0 k T T (T.length : Int) (i : Int) ep l) (if inb (T.drop i) = true then r else (0, 2)) := by
  induction d with
  | zero =>
    intro i hi
    refine Big.succ ?_
    simp only [commonholdref_TailOf.l0]
    simp only [if_neg (show ¬ (i : Int) < (T.length : Int) by omega)]
    rw [List.drop_eq_nil_of_le (by omega)]
    exact hr
  | succ d ih =>
    intro i hi
    refine Big.succ ?_
    simp only [commonholdref_TailOf.l0]
    have ew : wrap64 ((i : Int) + 1) = ((i + 1 : Nat) : Int) := by rw [w64 (by omega) (by omega)]; omega
    simp only [if_pos (show (i : Int) < (T.length : Int) by omega), if_pos (show (0 : Int) ≤ (i : Int) by omega), rd_at T i (by omega), ew]
    rw [List.drop_eq_getElem_cons (show i < T.length by omega), inb_cons]
    have ihh := ih (i + 1) (by omega)
    generalize T[i]'(by omega) = t at *
    by_cases h0 : t < 0
    · simp only [if_pos h0]
      refine (Big.of _).cast ?_
      rw [decide_eq_false (show ¬ 0 ≤ t by omega)]; rfl
    by_cases h64 : t > 64
    · simp only [if_neg h0, if_pos h64]
      refine (Big.of _).cast ?_
      rw [decide_eq_false (show ¬ t ≤ 64 by omega)]; simp
    · simp only [if_neg h0, if_neg h64]
      refine ihh.cast ?_
      rw [decide_eq_true (show 0 ≤ t by omega), decide_eq_true (show t ≤ 64 by omega)]; rfl

theorem both (ep : Int) (l : List (List Int)) (T : List Int) : ∃ r, Big (fun k => layout_Tail.f k ep l T) r ∧ Big (fun k => commonholdref_TailOf.f k ep l T) r := by
  simp only [layout_Tail.f, commonholdref_TailOf.f, may_law, Option.bind_some]
  by_cases hs : spec ep l = true
  · have hl := spec_len hs
    by_cases he : (T.length : Int) = (l.length : Int)
    · obtain ⟨r, hr, hr1, hr2⟩ := mine_loop T (by omega) (by omega) T.length 0 0 (by omega) (.inl rfl) (fun p _ h _ => by omega)
      obtain ⟨s, hs1, hs2, hs3, hs4⟩ := ref_pos T ep l hs (by omega) (64 * T.length) 0 0 (by omega) (.inl rfl) (fun p h => by omega)
      have hl := ref_loop T ep l s (by omega) hs1 T.length 0 (by omega)
      rw [List.drop_zero] at hr1 hr2 hl
      refine ⟨r, ?_, ?_⟩
      · simp only [if_pos hs, if_pos he]
        exact hr
      · refine Big.bind (refMay_law ep l) ?_
        simp only [if_pos hs, if_pos he]
        refine hl.cast ?_
        cases hb : inb T with
        | false => rw [hr1 hb]; rfl
        | true =>
          obtain ⟨h1, h2, h3⟩ := hr2 hb
          have := top_one T r.1 s.1 h2 hs3 h3 hs4
          rw [if_pos rfl]
          exact Prod.ext this.symm (by rw [hs2, h1])
    · refine ⟨(0, 1), ?_, ?_⟩
      · simp only [if_pos hs, if_neg he]
        exact Big.of _
      · refine Big.bind (refMay_law ep l) ?_
        simp only [if_pos hs, if_neg he]
        exact Big.of _
  · refine ⟨(0, 4), ?_, ?_⟩
    · simp only [if_neg hs]
      exact Big.of _
    · refine Big.bind (refMay_law ep l) ?_
      simp only [if_neg hs]
      exact Big.of _
end Go.Proofs.Ytaadljjfckhinab.Pure.LayoutTailsOf
namespace Go.Proofs.Ytaadljjfckhinab.Pure
open Go Go.RowKit Go.Proofs.Ytaadljjfckhinab.PLayoutTails Go.Proofs.YtaadljjfckhinabW.PrintWords Go.Proofs.YtaadljjfckhinabW.PrintLast Go.Proofs.Ytaadljjfckhinab.Bg LayoutTailsOf
theorem LayoutTails : commonholdlaw_LayoutTails.Pure := by
  intro a t _ _ _ ht
  refine Big.to ?_
  simp only [commonholdlaw_LayoutTails.f]
  have hl : ([] : List Int).length + t.length < 17592186044416 := by
    have := ht.1
    simp only [List.length_nil]
    omega
  simp only [if_pos hl, List.nil_append]
  obtain ⟨r, h1, h2⟩ := both a.f0 a.f1 t
  refine Big.bind h1 ?_
  refine Big.bind h2 ?_
  exact (Big.of true).congr (fun k => by simp)
end Go.Proofs.Ytaadljjfckhinab.Pure
