/- layout.Place answers as its reference does, at every layout. No condition beyond the statement's own. -/
import Derived.Test.YtaadljjfckhinabPLayoutPlacesx2
import Derived.Test.YtaadljjfckhinabBig
namespace Go.Proofs.Ytaadljjfckhinab.Pure.LayoutPlacesOf
open Go Go.RowKit Go.Proofs.Ytaadljjfckhinab.PLayoutPlaces Go.Proofs.YtaadljjfckhinabW.PrintWords Go.Proofs.YtaadljjfckhinabW.PrintLast Go.Proofs.Ytaadljjfckhinab.Bg

/-- Every unit is one of the six, and none stands twice. -/
def chk : List Int → List Int → Bool
  | _, [] => true
  | pre, u :: r => if u < 0 ∨ 5 < u ∨ u ∈ pre then false else chk (pre ++ [u]) r
/-- The bits of s are the units that came. -/
def Seen (pre : List Int) (s : Nat) : Prop := ∀ u : Nat, s.testBit u = decide ((u : Int) ∈ pre)
theorem run_chk : ∀ (r pre : List Int) (s : Nat), Seen pre s → layout_May.run s r = chk pre r
  | [], _, _, _ => rfl
  | u :: r, pre, s, hs => by
    simp only [layout_May.run, chk]
    by_cases h0 : u < 0
    · simp [layout_May.bad, h0]
    by_cases h5 : 5 < u
    · simp [layout_May.bad, h5, show 6 ≤ u by omega]
    have hb := hs u.toNat
    rw [Nat.testBit_eq_decide_div_mod_eq, show ((u.toNat : Nat) : Int) = u by omega] at hb
    by_cases hm : u ∈ pre
    · rw [decide_eq_true hm] at hb
      rw [if_pos (by simp only [layout_May.bad, hb]; simp), if_pos (Or.inr (Or.inr hm))]
    · rw [decide_eq_false hm] at hb
      rw [if_neg (by simp only [layout_May.bad, hb]; simp; omega), if_neg (by simp [hm]; omega)]
      refine run_chk r (pre ++ [u]) _ (fun v => ?_)
      rw [Nat.testBit_or, hs v, Nat.testBit_two_pow]
      by_cases hv : (v : Int) = u
      · have e : u.toNat = v := by omega
        simp [hv, e]
      · have e : ¬ u.toNat = v := by omega
        simp [hv, e]
def spec (ep : Int) (l : List (List Int)) : Bool := decide (0 ≤ ep) && (decide (ep ≤ 1000000) && (decide (1 ≤ l.length) && (decide (l.length ≤ 6) && (layout_May.lens l && chk [] l.flatten))))
theorem may_law (ep : Int) (l : List (List Int)) : layout_May.f ep l = some (spec ep l) := by
  unfold layout_May.f spec
  rw [run_chk l.flatten [] 0 (fun u => by simp)]

theorem has_law (l : List Int) (n : Int) (d : Nat) (hl : l.length ≤ 1000) : ∀ i : Nat, i + d = l.length →
    Big (fun k => commonholdref_has.l0 k n l (l.length : Int) (i : Int)) (decide (n ∈ l.drop i)) := by
  induction d with
  | zero =>
    intro i hi
    refine Big.succ ?_
    simp only [commonholdref_has.l0]
    simp only [if_neg (show ¬ (i : Int) < (l.length : Int) by omega)]
    refine (Big.of false).cast ?_
    rw [List.drop_eq_nil_of_le (by omega)]; simp
  | succ d ih =>
    intro i hi
    refine Big.succ ?_
    simp only [commonholdref_has.l0]
    have ew : wrap64 ((i : Int) + 1) = ((i + 1 : Nat) : Int) := by rw [w64 (by omega) (by omega)]; omega
    simp only [if_pos (show (i : Int) < (l.length : Int) by omega), if_pos (show (0 : Int) ≤ (i : Int) by omega), rd_at l i (by omega), ew]
    rw [List.drop_eq_getElem_cons (show i < l.length by omega)]
    by_cases h : l[i]'(by omega) = n
    · simp only [if_pos h]
      refine (Big.of true).cast ?_
      simp [h]
    · simp only [if_neg h]
      refine (ih (i + 1) (by omega)).cast ?_
      have h' : ¬ n = l[i]'(by omega) := fun e => h e.symm
      exact decide_eq_decide.2 (by rw [List.mem_cons]; exact ⟨Or.inr, fun q => q.resolve_left h'⟩)
theorem has_f (l : List Int) (n : Int) (hl : l.length ≤ 1000) : Big (fun k => commonholdref_has.f k l n) (decide (n ∈ l)) := by
  have := has_law l n l.length hl 0 (by omega)
  simpa [commonholdref_has.f] using this

theorem chk_law (l : List Int) (hl : l.length ≤ 1000) (d : Nat) : ∀ i : Nat, i + d = l.length →
    Big (fun k => commonholdref_LayoutMay.l1 k l l (l.length : Int) (i : Int)) (chk (l.take i) (l.drop i)) := by
  induction d with
  | zero =>
    intro i hi
    refine Big.succ ?_
    simp only [commonholdref_LayoutMay.l1]
    simp only [if_neg (show ¬ (i : Int) < (l.length : Int) by omega)]
    refine (Big.of true).cast ?_
    rw [List.drop_eq_nil_of_le (by omega)]; rfl
  | succ d ih =>
    intro i hi
    refine Big.succ ?_
    simp only [commonholdref_LayoutMay.l1]
    have ew : wrap64 ((i : Int) + 1) = ((i + 1 : Nat) : Int) := by rw [w64 (by omega) (by omega)]; omega
    simp only [if_pos (show (i : Int) < (l.length : Int) by omega), if_pos (show (0 : Int) ≤ (i : Int) by omega), if_pos (show (i : Int) ≤ (l.length : Int) by omega), rd_at l i (by omega), ew, Int.toNat_natCast]
    rw [List.drop_eq_getElem_cons (show i < l.length by omega)]
    simp only [chk]
    have et : l.take (i + 1) = l.take i ++ [l[i]'(by omega)] := List.take_succ_eq_append_getElem (by omega)
    have ihh := ih (i + 1) (by omega)
    rw [et] at ihh
    generalize l[i]'(by omega) = u at *
    by_cases h0 : u < 0
    · simp only [if_pos h0]
      refine (Big.of false).cast ?_
      rw [if_pos (Or.inl h0)]
    simp only [if_neg h0]
    by_cases h5 : u > 5
    · simp only [if_pos h5]
      refine (Big.of false).cast ?_
      rw [if_pos (Or.inr (Or.inl h5))]
    simp only [if_neg h5]
    refine Big.bind (has_f (l.take i) u (by simp; omega)) ?_
    by_cases hm : u ∈ l.take i
    · rw [decide_eq_true hm]
      simp only [if_true]
      refine (Big.of false).cast ?_
      rw [if_pos (Or.inr (Or.inr hm))]
    · rw [decide_eq_false hm]
      simp only [if_neg (show ¬ (false = true) by decide)]
      refine ihh.cast ?_
      rw [if_neg (by simp only [not_or]; exact ⟨h0, h5, hm⟩)]

theorem rdL1 (l : List (List Int)) (i : Nat) (h : i < l.length) : rd_L1 l (i : Int) = l[i] := by simp [rd_L1, List.getD_eq_getElem?_getD, h]
theorem lens_law (l : List (List Int)) (h6 : l.length ≤ 6) (d : Nat) : ∀ (i : Nat) (acc : List Int), i + d = l.length → acc.length ≤ 3 * i →
    Big (fun k => commonholdref_LayoutMay.l0 k acc l (l.length : Int) (i : Int)) (layout_May.lens (l.drop i) && chk [] (acc ++ (l.drop i).flatten)) := by
  induction d with
  | zero =>
    intro i acc hi ha
    refine Big.succ ?_
    simp only [commonholdref_LayoutMay.l0]
    simp only [if_neg (show ¬ (i : Int) < (l.length : Int) by omega)]
    rw [List.drop_eq_nil_of_le (by omega)]
    have := chk_law acc (by omega) acc.length 0 (by omega)
    refine this.cast ?_
    simp [layout_May.lens]
  | succ d ih =>
    intro i acc hi ha
    refine Big.succ ?_
    simp only [commonholdref_LayoutMay.l0]
    have ew : wrap64 ((i : Int) + 1) = ((i + 1 : Nat) : Int) := by rw [w64 (by omega) (by omega)]; omega
    simp only [if_pos (show (i : Int) < (l.length : Int) by omega), if_pos (show (0 : Int) ≤ (i : Int) by omega), rdL1 l i (by omega), ew]
    rw [List.drop_eq_getElem_cons (show i < l.length by omega)]
    have ihh := fun a h => ih (i + 1) a (by omega) h
    generalize l[i]'(by omega) = c at *
    by_cases h0 : (c.length : Int) = 0
    · simp only [if_pos h0]
      refine (Big.of false).cast ?_
      have : decide (1 ≤ c.length) = false := decide_eq_false (by omega)
      simp [layout_May.lens, this]
    simp only [if_neg h0]
    by_cases h3 : (c.length : Int) > 3
    · simp only [if_pos h3]
      refine (Big.of false).cast ?_
      have : decide (c.length ≤ 3) = false := decide_eq_false (by omega)
      simp [layout_May.lens, this]
    simp only [if_neg h3, if_pos (show acc.length + c.length < 17592186044416 by omega)]
    refine (ihh (acc ++ c) (by simp; omega)).cast ?_
    have e1 : decide (1 ≤ c.length) = true := decide_eq_true (by omega)
    have e2 : decide (c.length ≤ 3) = true := decide_eq_true (by omega)
    simp only [layout_May.lens, List.all_cons, e1, e2, List.flatten_cons, List.append_assoc]
    rfl
theorem refMay_law (ep : Int) (l : List (List Int)) : Big (fun k => commonholdref_LayoutMay.f k ep l) (spec ep l) := by
  simp only [commonholdref_LayoutMay.f]
  by_cases h1 : ep < 0
  · simp only [if_pos h1]
    refine Big.succ ?_
    simp only [commonholdref_LayoutMay.j0, if_true]
    refine (Big.of false).cast ?_
    simp [spec, decide_eq_false (show ¬ 0 ≤ ep by omega)]
  simp only [if_neg h1]
  by_cases h2 : ep > 1000000
  · simp only [if_pos h2]
    refine Big.succ ?_
    simp only [commonholdref_LayoutMay.j0, if_true]
    refine (Big.of false).cast ?_
    simp [spec, decide_eq_false (show ¬ ep ≤ 1000000 by omega)]
  simp only [if_neg h2]
  by_cases h3 : (l.length : Int) = 0
  · simp only [if_pos h3]
    refine Big.succ ?_
    simp only [commonholdref_LayoutMay.j0, if_true]
    refine (Big.of false).cast ?_
    simp [spec, decide_eq_false (show ¬ 1 ≤ l.length by omega)]
  simp only [if_neg h3]
  refine Big.succ ?_
  by_cases h4 : (l.length : Int) > 6
  · simp only [commonholdref_LayoutMay.j0, decide_eq_true h4, if_true]
    refine (Big.of false).cast ?_
    simp [spec, decide_eq_false (show ¬ l.length ≤ 6 by omega)]
  · simp only [commonholdref_LayoutMay.j0, decide_eq_false h4, if_neg (show ¬ (false = true) by decide)]
    have := lens_law l (by omega) l.length 0 [] (by omega) (by simp)
    refine this.cast ?_
    rw [List.drop_zero, List.nil_append]
    rw [spec, decide_eq_true (show 0 ≤ ep by omega), decide_eq_true (show ep ≤ 1000000 by omega), decide_eq_true (show 1 ≤ l.length by omega), decide_eq_true (show l.length ≤ 6 by omega)]
    rfl

/-- The place of a position by counting. -/
theorem row_law (n : Nat) (pos : Int) (hn : n ≤ 6) (addr : Nat) (ha : addr < 64) (nxt : Int × Int × Int) (hnx : Big (fun k => commonholdref_PlaceOf.l0 k pos (n : Int) ((addr + 1 : Nat) : Int)) nxt) (d : Nat) : ∀ c : Nat, c + d = n →
    Big (fun k => commonholdref_PlaceOf.l1 k pos (n : Int) (addr : Int) (c : Int)) (if (addr : Int) * n + c ≤ pos ∧ pos < (addr : Int) * n + n then (pos - addr * n, (addr : Int), 0) else nxt) := by
  have hm : addr * n ≤ 64 * 6 := Nat.mul_le_mul (by omega) hn
  have hm' : (addr : Int) * (n : Int) = ((addr * n : Nat) : Int) := by simp
  induction d with
  | zero =>
    intro c hc
    refine Big.succ ?_
    simp only [commonholdref_PlaceOf.l1]
    have ew : wrap64 ((addr : Int) + 1) = ((addr + 1 : Nat) : Int) := by rw [w64 (by omega) (by omega)]; omega
    simp only [if_neg (show ¬ (c : Int) < (n : Int) by omega), ew]
    refine hnx.cast ?_
    rw [if_neg (by omega)]
  | succ d ih =>
    intro c hc
    refine Big.succ ?_
    simp only [commonholdref_PlaceOf.l1]
    have ew : wrap64 ((c : Int) + 1) = ((c + 1 : Nat) : Int) := by rw [w64 (by omega) (by omega)]; omega
    have ea : wrap64 (wrap64 ((addr : Int) * (n : Int)) + (c : Int)) = ((addr * n : Nat) : Int) + c := by rw [hm', w64 (x := ((addr * n : Nat) : Int)) (by omega) (by omega), w64 (by omega) (by omega)]
    simp only [if_pos (show (c : Int) < (n : Int) by omega), ew, ea]
    by_cases hp : ((addr * n : Nat) : Int) + (c : Int) = pos
    · simp only [if_pos hp]
      refine (Big.of _).cast ?_
      rw [if_pos (by omega)]
      have : (c : Int) = pos - addr * n := by omega
      rw [this]
    · simp only [if_neg hp]
      refine (ih (c + 1) (by omega)).cast ?_
      by_cases hin : (addr : Int) * n + c ≤ pos ∧ pos < (addr : Int) * n + n
      · rw [if_pos hin, if_pos (by omega)]
      · rw [if_neg hin, if_neg (by omega)]
theorem place_law (n : Nat) (pos : Int) (h1 : 1 ≤ n) (hn : n ≤ 6) (d : Nat) : ∀ addr : Nat, addr + d = 64 →
    Big (fun k => commonholdref_PlaceOf.l0 k pos (n : Int) (addr : Int)) (if (addr : Int) * n ≤ pos ∧ pos < 64 * n then (pos % n, pos / n, 0) else (0, 0, 2)) := by
  induction d with
  | zero =>
    intro addr ha
    refine Big.succ ?_
    simp only [commonholdref_PlaceOf.l0]
    simp only [if_neg (show ¬ (addr : Int) < 64 by omega)]
    refine (Big.of _).cast ?_
    obtain rfl : addr = 64 := by omega
    rw [if_neg (by omega)]
  | succ d ih =>
    intro addr ha
    refine Big.succ ?_
    simp only [commonholdref_PlaceOf.l0]
    simp only [if_pos (show (addr : Int) < 64 by omega)]
    refine (row_law n pos hn addr (by omega) _ (ih (addr + 1) (by omega)) n 0 (by omega)).cast ?_
    have hle : ((addr : Int) + 1) * n ≤ 64 * n := Int.mul_le_mul_of_nonneg_right (by omega) (by omega)
    have ea : ((addr + 1 : Nat) : Int) * (n : Int) = (addr : Int) * n + n := by rw [Int.natCast_add, Int.add_mul]; simp
    rw [Int.add_mul] at hle
    by_cases hin : (addr : Int) * n + ((0 : Nat) : Int) ≤ pos ∧ pos < (addr : Int) * n + n
    · rw [if_pos hin, if_pos (by omega)]
      have hq : pos / n = addr := by
        rw [Int.ediv_eq_iff_of_pos (by omega)]
        omega
      have hr : pos % n = pos - addr * n := by
        rw [Int.emod_def, hq, Int.mul_comm]
      rw [hq, hr]
    · rw [if_neg hin]
      rw [ea]
      by_cases hi2 : (addr : Int) * n + n ≤ pos ∧ pos < 64 * n
      · rw [if_pos hi2, if_pos (by omega)]
      · rw [if_neg hi2, if_neg (by omega)]
/-- What both answer. -/
def told (ep : Int) (l : List (List Int)) (pos : Int) : Int × Int × Int :=
  if spec ep l = true then (if 0 ≤ pos ∧ pos < 64 * (l.length : Int) then (pos % l.length, pos / l.length, 0) else (0, 0, 2)) else (0, 0, 4)
theorem spec_len {ep : Int} {l : List (List Int)} (h : spec ep l = true) : 1 ≤ l.length ∧ l.length ≤ 6 := by
  simp only [spec, Bool.and_eq_true, decide_eq_true_eq] at h
  exact ⟨h.2.2.1, h.2.2.2.1⟩
theorem mine_law (ep : Int) (l : List (List Int)) (pos : Int) (hp : -9223372036854775808 ≤ pos ∧ pos ≤ 9223372036854775807) : layout_Place.f ep l pos = some (told ep l pos) := by
  simp only [layout_Place.f, may_law, Option.bind_some, told]
  by_cases hs : spec ep l = true
  · have hl := spec_len hs
    simp only [if_pos hs]
    by_cases h0 : pos < 0
    · rw [if_pos h0, if_neg (show ¬ (0 ≤ pos ∧ pos < 64 * (l.length : Int)) by omega)]
    rw [if_neg h0, if_neg (show ¬ (l.length : Int) = 0 by omega)]
    have et : Int.tdiv pos (l.length : Int) = pos / l.length := Int.tdiv_eq_ediv_of_nonneg (by omega)
    have em : Int.tmod pos (l.length : Int) = pos % l.length := Int.tmod_eq_emod_of_nonneg (by omega)
    have hd : 0 ≤ pos / (l.length : Int) ∧ pos / (l.length : Int) ≤ pos := ⟨Int.ediv_nonneg (by omega) (by omega), Int.ediv_le_self _ (by omega)⟩
    rw [et, em, w64 (by omega) (by omega)]
    have hq : pos / (l.length : Int) ≥ 64 ↔ 64 * (l.length : Int) ≤ pos := Int.le_ediv_iff_mul_le (by omega)
    by_cases h6 : pos / (l.length : Int) ≥ 64
    · have := hq.1 h6
      rw [if_pos h6, if_neg (show ¬ (0 ≤ pos ∧ pos < 64 * (l.length : Int)) by omega)]
    · have : ¬ 64 * (l.length : Int) ≤ pos := fun h => h6 (hq.2 h)
      rw [if_neg h6, if_pos (show (0 ≤ pos ∧ pos < 64 * (l.length : Int)) by omega)]
  · simp only [if_neg hs]
theorem theirs_law (ep : Int) (l : List (List Int)) (pos : Int) : Big (fun k => commonholdref_PlaceOf.f k ep l pos) (told ep l pos) := by
  simp only [commonholdref_PlaceOf.f, told]
  refine Big.bind (refMay_law ep l) ?_
  by_cases hs : spec ep l = true
  · have hl := spec_len hs
    simp only [if_pos hs]
    refine (place_law l.length pos hl.1 hl.2 64 0 (by omega)).cast ?_
    simp
  · simp only [if_neg hs]
    exact Big.of _
end Go.Proofs.Ytaadljjfckhinab.Pure.LayoutPlacesOf
namespace Go.Proofs.Ytaadljjfckhinab.Pure
open Go Go.RowKit Go.Proofs.Ytaadljjfckhinab.PLayoutPlaces Go.Proofs.YtaadljjfckhinabW.PrintWords Go.Proofs.YtaadljjfckhinabW.PrintLast Go.Proofs.Ytaadljjfckhinab.Bg
theorem LayoutPlaces : commonholdlaw_LayoutPlaces.Pure := by
  intro a pos _ hp
  refine Big.to ?_
  simp only [commonholdlaw_LayoutPlaces.f]
  refine Big.bind1 (LayoutPlacesOf.mine_law _ _ _ (bounds_i64 hp)) ?_
  refine Big.bind (LayoutPlacesOf.theirs_law _ _ _) ?_
  exact (Big.of true).congr (fun k => by simp)
end Go.Proofs.Ytaadljjfckhinab.Pure
