/- layout.Swap answers as its reference does, at every layout. No condition beyond the statement's own. -/
import Derived.Test.YtfkdldaadjhcfaaPLayoutSwapsx5
import Derived.Test.YtfkdldaadjhcfaaBig
namespace Go.Proofs.Ytfkdldaadjhcfaa.Pure.LayoutSwapsOf
open Go Go.RowKit Go.Proofs.Ytfkdldaadjhcfaa.PLayoutSwaps Go.Proofs.YtfkdldaadjhcfaaW.PrintWords Go.Proofs.YtfkdldaadjhcfaaW.PrintLast Go.Proofs.Ytfkdldaadjhcfaa.Bg

/-- Every unit is one of the six, and none stands twice. -/
def chk : List Int → List Int → Bool
  | _, [] => true
  | pre, u :: r => if u < 0 ∨ 5 < u ∨ u ∈ pre then false else chk (pre ++ [u]) r
/-- The bits of s are the units that came. -/
def Seen (pre : List Int) (s : Nat) : Prop := ∀ u : Nat, s.testBit u = decide ((u : Int) ∈ pre)
theorem run_chk : ∀ (r pre : List Int) (s : Nat), Seen pre s → layout_May.run s r = chk pre r
  | [], _, _, _ => rfl
  | u :: r, pre, s, hs => by
    simp only [layout_May.run, chk]
    by_cases h0 : u < 0
    · simp [layout_May.bad, h0]
    by_cases h5 : 5 < u
    · simp [layout_May.bad, h5, show 6 ≤ u by omega]
    have hb := hs u.toNat
    rw [Nat.testBit_eq_decide_div_mod_eq, show ((u.toNat : Nat) : Int) = u by omega] at hb
    by_cases hm : u ∈ pre
    · rw [decide_eq_true hm] at hb
      rw [if_pos (by simp only [layout_May.bad, hb]; simp), if_pos (Or.inr (Or.inr hm))]
    · rw [decide_eq_false hm] at hb
      rw [if_neg (by simp only [layout_May.bad, hb]; simp; omega), if_neg (by simp [hm]; omega)]
      refine run_chk r (pre ++ [u]) _ (fun v => ?_)
      rw [Nat.testBit_or, hs v, Nat.testBit_two_pow]
      by_cases hv : (v : Int) = u
      · have e : u.toNat = v := by omega
        simp [hv, e]
      · have e : ¬ u.toNat = v := by omega
        simp [hv, e]
def spec (ep : Int) (l : List (List Int)) : Bool := decide (0 ≤ ep) && (decide (ep ≤ 1000000) && (decide (1 ≤ l.length) && (decide (l.length ≤ 6) && (layout_May.lens l && chk [] l.flatten))))
theorem may_law (ep : Int) (l : List (List Int)) : layout_May.f ep l = some (spec ep l) := by
  unfold layout_May.f spec
  rw [run_chk l.flatten [] 0 (fun u => by simp)]

theorem has_law (l : List Int) (n : Int) (d : Nat) (hl : l.length ≤ 1000) : ∀ i : Nat, i + d = l.length →
    Big (fun k => commonholdref_has.l0 k n l (l.length : Int) (i : Int)) (decide (n ∈ l.drop i)) := by
  induction d with
  | zero =>
    intro i hi
    refine Big.succ ?_
    simp only [commonholdref_has.l0]
    simp only [if_neg (show ¬ (i : Int) < (l.length : Int) by omega)]
    refine (Big.of false).cast ?_
    rw [List.drop_eq_nil_of_le (by omega)]; simp
  | succ d ih =>
    intro i hi
    refine Big.succ ?_
    simp only [commonholdref_has.l0]
    have ew : wrap64 ((i : Int) + 1) = ((i + 1 : Nat) : Int) := by rw [w64 (by omega) (by omega)]; omega
    simp only [if_pos (show (i : Int) < (l.length : Int) by omega), if_pos (show (0 : Int) ≤ (i : Int) by omega), rd_at l i (by omega), ew]
    rw [List.drop_eq_getElem_cons (show i < l.length by omega)]
    by_cases h : l[i]'(by omega) = n
    · simp only [if_pos h]
      refine (Big.of true).cast ?_
      simp [h]
    · simp only [if_neg h]
      refine (ih (i + 1) (by omega)).cast ?_
      have h' : ¬ n = l[i]'(by omega) := fun e => h e.symm
      exact decide_eq_decide.2 (by rw [List.mem_cons]; exact ⟨Or.inr, fun q => q.resolve_left h'⟩)
theorem has_f (l : List Int) (n : Int) (hl : l.length ≤ 1000) : Big (fun k => commonholdref_has.f k l n) (decide (n ∈ l)) := by
  have := has_law l n l.length hl 0 (by omega)
  simpa [commonholdref_has.f] using this

theorem chk_law (l : List Int) (hl : l.length ≤ 1000) (d : Nat) : ∀ i : Nat, i + d = l.length →
    Big (fun k => commonholdref_LayoutMay.l1 k l l (l.length : Int) (i : Int)) (chk (l.take i) (l.drop i)) := by
  induction d with
  | zero =>
    intro i hi
    refine Big.succ ?_
    simp only [commonholdref_LayoutMay.l1]
    simp only [if_neg (show ¬ (i : Int) < (l.length : Int) by omega)]
    refine (Big.of true).cast ?_
    rw [List.drop_eq_nil_of_le (by omega)]; rfl
  | succ d ih =>
    intro i hi
    refine Big.succ ?_
    simp only [commonholdref_LayoutMay.l1]
    have ew : wrap64 ((i : Int) + 1) = ((i + 1 : Nat) : Int) := by rw [w64 (by omega) (by omega)]; omega
    simp only [if_pos (show (i : Int) < (l.length : Int) by omega), if_pos (show (0 : Int) ≤ (i : Int) by omega), if_pos (show (i : Int) ≤ (l.length : Int) by omega), rd_at l i (by omega), ew, Int.toNat_natCast]
    rw [List.drop_eq_getElem_cons (show i < l.length by omega)]
    simp only [chk]
    have et : l.take (i + 1) = l.take i ++ [l[i]'(by omega)] := List.take_succ_eq_append_getElem (by omega)
    have ihh := ih (i + 1) (by omega)
    rw [et] at ihh
    generalize l[i]'(by omega) = u at *
    by_cases h0 : u < 0
    · simp only [if_pos h0]
      refine (Big.of false).cast ?_
      rw [if_pos (Or.inl h0)]
    simp only [if_neg h0]
    by_cases h5 : u > 5
    · simp only [if_pos h5]
      refine (Big.of false).cast ?_
      rw [if_pos (Or.inr (Or.inl h5))]
    simp only [if_neg h5]
    refine Big.bind (has_f (l.take i) u (by simp; omega)) ?_
    by_cases hm : u ∈ l.take i
    · rw [decide_eq_true hm]
      simp only [if_true]
      refine (Big.of false).cast ?_
      rw [if_pos (Or.inr (Or.inr hm))]
    · rw [decide_eq_false hm]
      simp only [if_neg (show ¬ (false = true) by decide)]
      refine ihh.cast ?_
      rw [if_neg (by simp only [not_or]; exact ⟨h0, h5, hm⟩)]

theorem rdL1 (l : List (List Int)) (i : Nat) (h : i < l.length) : rd_L1 l (i : Int) = l[i] := by simp [rd_L1, List.getD_eq_getElem?_getD, h]
theorem lens_law (l : List (List Int)) (h6 : l.length ≤ 6) (d : Nat) : ∀ (i : Nat) (acc : List Int), i + d = l.length → acc.length ≤ 3 * i →
    Big (fun k => commonholdref_LayoutMay.l0 k acc l (l.length : Int) (i : Int)) (layout_May.lens (l.drop i) && chk [] (acc ++ (l.drop i).flatten)) := by
  induction d with
  | zero =>
    intro i acc hi ha
    refine Big.succ ?_
    simp only [commonholdref_LayoutMay.l0]
    simp only [if_neg (show ¬ (i : Int) < (l.length : Int) by omega)]
    rw [List.drop_eq_nil_of_le (by omega)]
    have := chk_law acc (by omega) acc.length 0 (by omega)
    refine this.cast ?_
    simp [layout_May.lens]
  | succ d ih =>
    intro i acc hi ha
    refine Big.succ ?_
    simp only [commonholdref_LayoutMay.l0]
    have ew : wrap64 ((i : Int) + 1) = ((i + 1 : Nat) : Int) := by rw [w64 (by omega) (by omega)]; omega
    simp only [if_pos (show (i : Int) < (l.length : Int) by omega), if_pos (show (0 : Int) ≤ (i : Int) by omega), rdL1 l i (by omega), ew]
    rw [List.drop_eq_getElem_cons (show i < l.length by omega)]
    have ihh := fun a h => ih (i + 1) a (by omega) h
    generalize l[i]'(by omega) = c at *
    by_cases h0 : (c.length : Int) = 0
    · simp only [if_pos h0]
      refine (Big.of false).cast ?_
      have : decide (1 ≤ c.length) = false := decide_eq_false (by omega)
      simp [layout_May.lens, this]
    simp only [if_neg h0]
    by_cases h3 : (c.length : Int) > 3
    · simp only [if_pos h3]
      refine (Big.of false).cast ?_
      have : decide (c.length ≤ 3) = false := decide_eq_false (by omega)
      simp [layout_May.lens, this]
    simp only [if_neg h3, if_pos (show acc.length + c.length < 17592186044416 by omega)]
    refine (ihh (acc ++ c) (by simp; omega)).cast ?_
    have e1 : decide (1 ≤ c.length) = true := decide_eq_true (by omega)
    have e2 : decide (c.length ≤ 3) = true := decide_eq_true (by omega)
    simp only [layout_May.lens, List.all_cons, e1, e2, List.flatten_cons, List.append_assoc]
    rfl
theorem refMay_law (ep : Int) (l : List (List Int)) : Big (fun k => commonholdref_LayoutMay.f k ep l) (spec ep l) := by
  simp only [commonholdref_LayoutMay.f]
  by_cases h1 : ep < 0
  · simp only [if_pos h1]
    refine Big.succ ?_
    simp only [commonholdref_LayoutMay.j0, if_true]
    refine (Big.of false).cast ?_
    simp [spec, decide_eq_false (show ¬ 0 ≤ ep by omega)]
  simp only [if_neg h1]
  by_cases h2 : ep > 1000000
  · simp only [if_pos h2]
    refine Big.succ ?_
    simp only [commonholdref_LayoutMay.j0, if_true]
    refine (Big.of false).cast ?_
    simp [spec, decide_eq_false (show ¬ ep ≤ 1000000 by omega)]
  simp only [if_neg h2]
  by_cases h3 : (l.length : Int) = 0
  · simp only [if_pos h3]
    refine Big.succ ?_
    simp only [commonholdref_LayoutMay.j0, if_true]
    refine (Big.of false).cast ?_
    simp [spec, decide_eq_false (show ¬ 1 ≤ l.length by omega)]
  simp only [if_neg h3]
  refine Big.succ ?_
  by_cases h4 : (l.length : Int) > 6
  · simp only [commonholdref_LayoutMay.j0, decide_eq_true h4, if_true]
    refine (Big.of false).cast ?_
    simp [spec, decide_eq_false (show ¬ l.length ≤ 6 by omega)]
  · simp only [commonholdref_LayoutMay.j0, decide_eq_false h4, if_neg (show ¬ (false = true) by decide)]
    have := lens_law l (by omega) l.length 0 [] (by omega) (by simp)
    refine this.cast ?_
    rw [List.drop_zero, List.nil_append]
    rw [spec, decide_eq_true (show 0 ≤ ep by omega), decide_eq_true (show ep ≤ 1000000 by omega), decide_eq_true (show 1 ≤ l.length by omega), decide_eq_true (show l.length ≤ 6 by omega)]
    rfl
theorem chk_nodup : ∀ (r pre : List Int), chk pre r = true → r.Nodup ∧ ∀ u ∈ r, u ∉ pre
  | [], _, _ => ⟨List.nodup_nil, fun _ h => (List.not_mem_nil h).elim⟩
  | u :: r, pre, h => by
    simp only [chk] at h
    split at h
    · cases h
    · rename_i hn
      obtain ⟨h1, h2⟩ := chk_nodup r _ h
      refine ⟨List.nodup_cons.2 ⟨fun hm => h2 u hm (by simp), h1⟩, fun v hv => ?_⟩
      rcases List.mem_cons.1 hv with rfl | hv
      · exact fun hp => hn (Or.inr (Or.inr hp))
      · exact fun hp => h2 v hv (by simp [hp])
/-- The first place of a number, from i on; -1: it isn't there. -/
def find (x : Int) : List Int → Nat → Int
  | [], _ => -1
  | y :: r, i => if x = y then (i : Int) else find x r (i + 1)
theorem find_at (x : Int) : ∀ (l : List Int) (i : Nat), (x ∈ l → ∃ j, ∃ h : j < l.length, find x l i = ((i + j : Nat) : Int) ∧ l[j] = x) ∧ (x ∉ l → find x l i = -1)
  | [], i => ⟨fun h => (List.not_mem_nil h).elim, fun _ => rfl⟩
  | y :: r, i => by
    obtain ⟨h1, h2⟩ := find_at x r (i + 1)
    by_cases hx : x = y
    · exact ⟨fun _ => ⟨0, by simp, by simp [find, hx], by simp [hx]⟩, fun h => absurd (by simp [hx]) h⟩
    · refine ⟨fun h => ?_, fun h => ?_⟩
      · obtain ⟨j, hj, e, hl⟩ := h1 ((List.mem_cons.1 h).resolve_left hx)
        exact ⟨j + 1, by simp; omega, by rw [find, if_neg hx, e]; congr 1; omega, by simpa using hl⟩
      · rw [find, if_neg hx, h2 (fun q => h (List.mem_cons_of_mem _ q))]
theorem index_law (l : List Int) (x : Int) (hl : l.length ≤ 1000) (d : Nat) : ∀ i : Nat, i + d = l.length → Big (fun k => slices_Index_int_int.l0 k l x (l.length : Int) (i : Int)) (find x (l.drop i) i) := by
  induction d with
  | zero =>
    intro i hi
    refine Big.succ ?_
    simp only [slices_Index_int_int.l0]
    simp only [if_neg (show ¬ (i : Int) < (l.length : Int) by omega)]
    refine (Big.of _).cast ?_
    rw [List.drop_eq_nil_of_le (by omega)]; rfl
  | succ d ih =>
    intro i hi
    refine Big.succ ?_
    simp only [slices_Index_int_int.l0]
    have ew : wrap64 ((i : Int) + 1) = ((i + 1 : Nat) : Int) := by rw [w64 (by omega) (by omega)]; omega
    simp only [if_pos (show (i : Int) < (l.length : Int) by omega), if_pos (show (0 : Int) ≤ (i : Int) by omega), rd_at l i (by omega), ew]
    rw [List.drop_eq_getElem_cons (show i < l.length by omega)]
    by_cases h : x = l[i]'(by omega)
    · simp only [if_pos h]
      refine (Big.of _).cast ?_
      rw [find, if_pos h]
    · simp only [if_neg h]
      refine (ih (i + 1) (by omega)).cast ?_
      rw [find, if_neg h]
theorem index_f (l : List Int) (x : Int) (hl : l.length ≤ 1000) : Big (fun k => slices_Index_int_int.f k l x) (find x l 0) := by
  have := index_law l x hl l.length 0 (by omega)
  simpa [slices_Index_int_int.f] using this
theorem contains_f (l : List Int) (x : Int) (hl : l.length ≤ 1000) : Big (fun k => slices_Contains_int_int.f k l x) (decide (x ∈ l)) := by
  unfold slices_Contains_int_int.f
  refine Big.bind (index_f l x hl) ?_
  refine (Big.of _).cast (decide_eq_decide.2 ?_)
  obtain ⟨h1, h2⟩ := find_at x l 0
  by_cases h : x ∈ l
  · obtain ⟨j, _, e, _⟩ := h1 h
    rw [e]
    exact ⟨fun _ => h, fun _ => by omega⟩
  · rw [h2 h]
    exact ⟨fun q => by omega, fun q => absurd q h⟩
def one (old next : Int) (u : Int) : Int := if u = old then next else u
theorem set_map (c : List Int) (old next : Int) (hn : c.Nodup) : (if find old c 0 ≥ 0 then c.set (find old c 0).toNat next else c) = c.map (one old next) := by
  obtain ⟨h1, h2⟩ := find_at old c 0
  by_cases h : old ∈ c
  · obtain ⟨j, hj, e, hl⟩ := h1 h
    rw [e, if_pos (by omega)]
    refine List.ext_getElem (by simp) (fun k hk1 hk2 => ?_)
    simp only [List.length_set] at hk1
    rw [List.getElem_set, List.getElem_map]
    by_cases hjk : j = k
    · subst hjk
      simp [one, hl]
    · have hp := List.pairwise_iff_getElem.1 hn
      have hne : ¬ c[k] = old := fun q => by
        rcases Nat.lt_or_gt_of_ne hjk with hlt | hlt
        · exact hp j k hj hk1 hlt (hl.trans q.symm)
        · exact hp k j hk1 hj hlt (q.trans hl.symm)
      rw [if_neg (by simpa using hjk), one, if_neg hne]
  · rw [h2 h, if_neg (by omega)]
    refine List.ext_getElem (by simp) (fun k hk1 hk2 => ?_)
    have hne : ¬ c[k] = old := fun q => h (q ▸ List.getElem_mem hk1)
    rw [List.getElem_map, one, if_neg hne]
def Fine (l : List (List Int)) : Prop := l.length ≤ 6 ∧ ∀ c ∈ l, c.length ≤ 3 ∧ c.Nodup
theorem mine_loop (l : List (List Int)) (hf : Fine l) (old next oep : Int) (d : Nat) : ∀ (i : Nat) (out : List (List Int)), i + d = l.length → out.length ≤ i →
    Big (fun k => layout_Swap.l0 k old next l (l.length : Int) (i : Int) oep out) (oep, out ++ (l.drop i).map (fun c => c.map (one old next)), 0) := by
  have h6 := hf.1
  induction d with
  | zero =>
    intro i out hi _
    refine Big.succ ?_
    simp only [layout_Swap.l0]
    simp only [if_neg (show ¬ (i : Int) < (l.length : Int) by omega)]
    refine (Big.of _).cast ?_
    rw [List.drop_eq_nil_of_le (by omega)]; simp
  | succ d ih =>
    intro i out hi ho
    have hc := hf.2 (l[i]'(by omega)) (List.getElem_mem _)
    refine Big.succ ?_
    simp only [layout_Swap.l0]
    have ew : wrap64 ((i : Int) + 1) = ((i + 1 : Nat) : Int) := by rw [w64 (by omega) (by omega)]; omega
    simp only [if_pos (show (i : Int) < (l.length : Int) by omega), if_pos (show (0 : Int) ≤ (i : Int) by omega), rdL1 l i (by omega), ew]
    rw [List.drop_eq_getElem_cons (show i < l.length by omega)]
    have ihh := fun o h => ih (i + 1) o (by omega) h
    generalize l[i]'(by omega) = c at *
    refine Big.bind1 (r := c) (by unfold slices_Clone_int_int.f; rw [if_pos (by omega)]) ?_
    refine Big.bind (index_f c old (by omega)) ?_
    have hs := set_map c old next hc.2
    simp only [if_pos (show out.length < 5864062014805 by omega)]
    by_cases h0 : find old c 0 ≥ 0
    · rw [if_pos h0] at hs
      obtain ⟨h1, h2⟩ := find_at old c 0
      have hlt : find old c 0 < (c.length : Int) := by
        by_cases h : old ∈ c
        · obtain ⟨j, hj, e, _⟩ := h1 h
          rw [e]; omega
        · rw [h2 h] at h0; omega
      simp only [if_pos h0, if_pos hlt, hs]
      refine (ihh (out ++ [c.map (one old next)]) (by simp; omega)).cast ?_
      simp
    · rw [if_neg h0] at hs
      simp only [if_neg h0]
      refine (ihh (out ++ [c]) (by simp; omega)).cast ?_
      simp [← hs]
abbrev Res := Int × List (List Int) × Int
theorem ref_row (L : List (List Int)) (Ln li : Int) (c : List Int) (hc : c.length ≤ 1000) (old next ep oep : Int) (l2 out : List (List Int)) (ho : out.length ≤ 1000) (R : Res) (d : Nat) : ∀ (i : Nat) (h t : Bool) (acc : List Int), i + d = c.length → acc.length ≤ i →
    Big (fun k => commonholdref_Swapped.l0 k old next (h || decide (old ∈ c.drop i)) (t || decide (next ∈ c.drop i)) L Ln (wrap64 (li + 1)) ep l2 oep (out ++ [acc ++ (c.drop i).map (one old next)])) R →
    Big (fun k => commonholdref_Swapped.l1 k old next h t acc L Ln li c (c.length : Int) (i : Int) ep l2 oep out) R := by
  induction d with
  | zero =>
    intro i h t acc hi ha hR
    refine Big.succ ?_
    simp only [commonholdref_Swapped.l1]
    simp only [if_neg (show ¬ (i : Int) < (c.length : Int) by omega), if_pos (show out.length < 5864062014805 by omega)]
    rw [List.drop_eq_nil_of_le (by omega)] at hR
    simpa using hR
  | succ d ih =>
    intro i h t acc hi ha hR
    refine Big.succ ?_
    simp only [commonholdref_Swapped.l1]
    have ew : wrap64 ((i : Int) + 1) = ((i + 1 : Nat) : Int) := by rw [w64 (by omega) (by omega)]; omega
    simp only [if_pos (show (i : Int) < (c.length : Int) by omega), if_pos (show (0 : Int) ≤ (i : Int) by omega), rd_at c i (by omega), ew, if_pos (show acc.length < 17592186044416 by omega)]
    rw [List.drop_eq_getElem_cons (show i < c.length by omega)] at hR
    have ihh := fun h t acc ha hR => ih (i + 1) h t acc (by omega) ha hR
    generalize c[i]'(by omega) = u at *
    have key : ∀ (h' t' : Bool), h' = (h || decide (u = old)) → t' = (t || decide (u = next)) →
        Big (fun k => commonholdref_Swapped.l1 k old next h' t' (acc ++ [one old next u]) L Ln li c (c.length : Int) ((i + 1 : Nat) : Int) ep l2 oep out) R := by
      intro h' t' e1 e2
      refine ihh h' t' _ (by simp; omega) ?_
      refine hR.congr (fun k => ?_)
      have q1 : (h' || decide (old ∈ c.drop (i + 1))) = (h || decide (old ∈ u :: c.drop (i + 1))) := by
        rw [e1, Bool.or_assoc]
        congr 1
        by_cases hu : u = old
        · simp [hu]
        · simp [hu, show ¬ old = u from fun q => hu q.symm]
      have q2 : (t' || decide (next ∈ c.drop (i + 1))) = (t || decide (next ∈ u :: c.drop (i + 1))) := by
        rw [e2, Bool.or_assoc]
        congr 1
        by_cases hu : u = next
        · simp [hu]
        · simp [hu, show ¬ next = u from fun q => hu q.symm]
      rw [q1, q2]
      simp
    by_cases ht : t = true
    · simp only [if_pos ht]
      by_cases hu : u = old
      · simp only [if_pos hu]
        have := key true true (by simp [hu]) (by simp [ht])
        rwa [one, if_pos hu] at this
      · simp only [if_neg hu]
        have := key h true (by simp [hu]) (by simp [ht])
        rwa [one, if_neg hu] at this
    · have ht' : t = false := by simpa using ht
      simp only [if_neg ht]
      have e2 : (u == next) = (t || decide (u = next)) := by rw [ht']; rfl
      by_cases hu : u = old
      · simp only [if_pos hu]
        have := key true (u == next) (by simp [hu]) e2
        rwa [one, if_pos hu] at this
      · simp only [if_neg hu]
        have := key h (u == next) (by simp [hu]) e2
        rwa [one, if_neg hu] at this
def fin (h t : Bool) (ep oep : Int) (out : List (List Int)) : Res := if h = true then (if t = true then (0, [], 7) else (if ep ≥ 1000000 then (0, [], 10) else (oep, out, 0))) else (0, [], 6)
theorem ref_loop (l : List (List Int)) (hf : Fine l) (old next ep oep : Int) (l2 : List (List Int)) (d : Nat) : ∀ (i : Nat) (h t : Bool) (out : List (List Int)), i + d = l.length → out.length ≤ i →
    Big (fun k => commonholdref_Swapped.l0 k old next h t l (l.length : Int) (i : Int) ep l2 oep out) (fin (h || decide (old ∈ (l.drop i).flatten)) (t || decide (next ∈ (l.drop i).flatten)) ep oep (out ++ (l.drop i).map (fun c => c.map (one old next)))) := by
  have h6 := hf.1
  induction d with
  | zero =>
    intro i h t out hi _
    refine Big.succ ?_
    simp only [commonholdref_Swapped.l0]
    simp only [if_neg (show ¬ (i : Int) < (l.length : Int) by omega)]
    rw [List.drop_eq_nil_of_le (by omega)]
    simp only [List.flatten_nil, List.not_mem_nil, decide_false, Bool.or_false, List.map_nil, List.append_nil, fin]
    cases h <;> cases t <;> simp only [if_true, Bool.false_eq_true, if_false]
    · exact Big.of _
    · exact Big.of _
    · split
      · exact Big.of _
      · exact Big.of _
    · exact Big.of _
  | succ d ih =>
    intro i h t out hi ho
    have hc := hf.2 (l[i]'(by omega)) (List.getElem_mem _)
    refine Big.succ ?_
    simp only [commonholdref_Swapped.l0]
    have ew : wrap64 ((i : Int) + 1) = ((i + 1 : Nat) : Int) := by rw [w64 (by omega) (by omega)]; omega
    simp only [if_pos (show (i : Int) < (l.length : Int) by omega), if_pos (show (0 : Int) ≤ (i : Int) by omega), rdL1 l i (by omega)]
    rw [List.drop_eq_getElem_cons (show i < l.length by omega)]
    have ihh := fun h t o ho => ih (i + 1) h t o (by omega) ho
    generalize l[i]'(by omega) = c at *
    refine ref_row l _ _ c (by omega) old next ep oep l2 out (by omega) _ c.length 0 h t [] (by omega) (by simp) ?_
    rw [ew]
    refine (ihh (h || decide (old ∈ c.drop 0)) (t || decide (next ∈ c.drop 0)) (out ++ [[] ++ (c.drop 0).map (one old next)]) (by simp; omega)).cast ?_
    rw [Bool.or_assoc, Bool.or_assoc]
    simp [List.mem_append]
theorem same_ints (l : List Int) (hl : l.length ≤ 1000) (d : Nat) : ∀ i : Nat, i + d = l.length → Big (fun k => commonholdlaw_sameInts.l0 k l l (i : Int)) true := by
  induction d with
  | zero =>
    intro i hi
    refine Big.succ ?_
    simp only [commonholdlaw_sameInts.l0]
    simp only [if_neg (show ¬ (i : Int) < (l.length : Int) by omega)]
    exact Big.of _
  | succ d ih =>
    intro i hi
    refine Big.succ ?_
    simp only [commonholdlaw_sameInts.l0]
    have ew : wrap64 ((i : Int) + 1) = ((i + 1 : Nat) : Int) := by rw [w64 (by omega) (by omega)]; omega
    simp only [if_pos (show (i : Int) < (l.length : Int) by omega), if_pos (show (0 : Int) ≤ (i : Int) by omega), ew, if_true]
    exact ih (i + 1) (by omega)
theorem same_lists (ep : Int) (l : List (List Int)) (h6 : l.length ≤ 6) (hc : ∀ c ∈ l, c.length ≤ 3) (d : Nat) : ∀ i : Nat, i + d = l.length → Big (fun k => commonholdlaw_sameLayout.l0 k (i : Int) ep l ep l) true := by
  induction d with
  | zero =>
    intro i hi
    refine Big.succ ?_
    simp only [commonholdlaw_sameLayout.l0]
    simp only [if_neg (show ¬ (i : Int) < (l.length : Int) by omega)]
    exact Big.of _
  | succ d ih =>
    intro i hi
    have h3 := hc (l[i]'(by omega)) (List.getElem_mem _)
    refine Big.succ ?_
    simp only [commonholdlaw_sameLayout.l0]
    have ew : wrap64 ((i : Int) + 1) = ((i + 1 : Nat) : Int) := by rw [w64 (by omega) (by omega)]; omega
    simp only [if_pos (show (i : Int) < (l.length : Int) by omega), if_pos (show (0 : Int) ≤ (i : Int) by omega), ew, rdL1 l i (by omega)]
    refine Big.bind (r := true) ?_ ?_
    · unfold commonholdlaw_sameInts.f
      simp only [if_true]
      exact same_ints (l[i]'(by omega)) (by omega) (l[i]'(by omega)).length 0 (by omega)
    · simp only [if_true]
      exact ih (i + 1) (by omega)
theorem same_f (ep : Int) (l : List (List Int)) (h6 : l.length ≤ 6) (hc : ∀ c ∈ l, c.length ≤ 3) : Big (fun k => commonholdlaw_sameLayout.f k ep l ep l) true := by
  unfold commonholdlaw_sameLayout.f
  simp only [if_true]
  refine Big.succ ?_
  simp only [commonholdlaw_sameLayout.j0, bne_self_eq_false, Bool.false_eq_true, if_false]
  exact same_lists ep l h6 hc l.length 0 (by omega)
theorem nodup_in : ∀ (l : List (List Int)), l.flatten.Nodup → ∀ c ∈ l, c.Nodup
  | [], _, c, hc => (List.not_mem_nil hc).elim
  | x :: r, h, c, hc => by
    rw [List.flatten_cons] at h
    obtain ⟨h1, h2, _⟩ := List.nodup_append.1 h
    rcases List.mem_cons.1 hc with rfl | hc
    · exact h1
    · exact nodup_in r h2 c hc
theorem fine_of {ep : Int} {l : List (List Int)} (h : spec ep l = true) : 0 ≤ ep ∧ ep ≤ 1000000 ∧ Fine l ∧ layout_May.lens l = true ∧ l.flatten.length ≤ 18 := by
  simp only [spec, Bool.and_eq_true, decide_eq_true_eq] at h
  obtain ⟨h1, h2, h3, h4, h5, h6⟩ := h
  have hl := slices_Collect_int.flat_le l h5
  refine ⟨h1, h2, ⟨h4, fun c hc => ?_⟩, h5, by omega⟩
  have hn := (chk_nodup _ _ h6).1
  have hm := List.all_eq_true.1 h5 c hc
  simp at hm
  exact ⟨hm.2, nodup_in l hn c hc⟩
def ans (ep : Int) (l : List (List Int)) (old next : Int) : Res :=
  if spec ep l = true then (if next < 0 ∨ 5 < next then (0, [], 2) else fin (decide (old ∈ l.flatten)) (decide (next ∈ l.flatten)) ep (wrap64 (ep + 1)) (l.map (fun c => c.map (one old next)))) else (0, [], 4)
theorem swap_law (ep : Int) (l : List (List Int)) (old next : Int) : Big (fun k => layout_Swap.f k ep l old next) (ans ep l old next) := by
  unfold layout_Swap.f ans
  refine Big.bind1 (may_law _ _) ?_
  by_cases hs : spec ep l = true
  · obtain ⟨h0, h1, hf, h5, h18⟩ := fine_of hs
    simp only [hs, if_true]
    have rest : ∀ b : Bool, b = decide (next < 0 ∨ 5 < next) → Big (fun k => layout_Swap.j0 k old next b ep l) (if next < 0 ∨ 5 < next then (0, [], 2) else fin (decide (old ∈ l.flatten)) (decide (next ∈ l.flatten)) ep (wrap64 (ep + 1)) (l.map (fun c => c.map (one old next)))) := by
      intro b hb
      refine Big.succ ?_
      simp only [layout_Swap.j0]
      by_cases hn : next < 0 ∨ 5 < next
      · rw [decide_eq_true hn] at hb
        simp only [if_pos hb, if_pos hn]
        exact Big.of _
      · rw [decide_eq_false hn] at hb
        subst hb
        simp only [Bool.false_eq_true, if_false, if_neg hn]
        refine Big.bind1 (r := l.flatten) (by unfold slices_Collect_int.f; rw [if_pos ⟨hf.1, h5⟩]) ?_
        refine Big.bind (contains_f _ old (by omega)) ?_
        by_cases ho : old ∈ l.flatten
        · simp only [decide_eq_true ho, if_true, fin]
          refine Big.bind (contains_f _ next (by omega)) ?_
          by_cases hx : next ∈ l.flatten
          · simp only [decide_eq_true hx, if_true]
            exact Big.of _
          · simp only [decide_eq_false hx, Bool.false_eq_true, if_false]
            by_cases he : ep = 1000000
            · simp only [if_pos he, if_pos (show ep ≥ 1000000 by omega)]
              exact Big.of _
            · simp only [if_neg he, if_neg (show ¬ ep ≥ 1000000 by omega)]
              have := mine_loop l hf old next (wrap64 (ep + 1)) l.length 0 [] (by omega) (by simp)
              simpa using this
        · simp only [decide_eq_false ho, Bool.false_eq_true, if_false, fin]
          exact Big.of _
    by_cases h2 : next < 0
    · simp only [if_pos h2]
      exact rest true (by rw [decide_eq_true (Or.inl h2)])
    · simp only [if_neg h2]
      exact rest _ (decide_eq_decide.2 (by omega))
  · simp only [if_neg hs]
    exact Big.of _
theorem swapped_law (ep : Int) (l : List (List Int)) (old next : Int) : Big (fun k => commonholdref_Swapped.f k ep l old next) (ans ep l old next) := by
  unfold commonholdref_Swapped.f ans
  refine Big.bind (refMay_law _ _) ?_
  by_cases hs : spec ep l = true
  · obtain ⟨h0, h1, hf, h5, h18⟩ := fine_of hs
    simp only [hs, if_true]
    have rest : ∀ b : Bool, b = decide (next < 0 ∨ 5 < next) → Big (fun k => commonholdref_Swapped.j0 k old next b ep l) (if next < 0 ∨ 5 < next then (0, [], 2) else fin (decide (old ∈ l.flatten)) (decide (next ∈ l.flatten)) ep (wrap64 (ep + 1)) (l.map (fun c => c.map (one old next)))) := by
      intro b hb
      refine Big.succ ?_
      simp only [commonholdref_Swapped.j0]
      by_cases hn : next < 0 ∨ 5 < next
      · rw [decide_eq_true hn] at hb
        simp only [if_pos hb, if_pos hn]
        exact Big.of _
      · rw [decide_eq_false hn] at hb
        subst hb
        simp only [Bool.false_eq_true, if_false, if_neg hn]
        have := ref_loop l hf old next ep (wrap64 (ep + 1)) l l.length 0 false false [] (by omega) (by simp)
        simpa using this
    by_cases h2 : next < 0
    · simp only [if_pos h2]
      exact rest true (by rw [decide_eq_true (Or.inl h2)])
    · simp only [if_neg h2]
      exact rest _ (decide_eq_decide.2 (by omega))
  · simp only [if_neg hs]
    exact Big.of _
theorem ans_same (ep : Int) (l : List (List Int)) (old next : Int) : (ans ep l old next).2.1.length ≤ 6 ∧ ∀ c ∈ (ans ep l old next).2.1, c.length ≤ 3 := by
  have hz : (([] : List (List Int))).length ≤ 6 ∧ ∀ c ∈ ([] : List (List Int)), c.length ≤ 3 := ⟨by simp, fun _ h => (List.not_mem_nil h).elim⟩
  unfold ans fin
  split
  · rename_i hs
    obtain ⟨_, _, hf, _, _⟩ := fine_of hs
    split
    · exact hz
    · split
      · split
        · exact hz
        · split
          · exact hz
          · refine ⟨by simpa using hf.1, fun c hc => ?_⟩
            obtain ⟨x, hx, rfl⟩ := List.mem_map.1 hc
            simpa using (hf.2 x hx).1
      · exact hz
  · exact hz
end Go.Proofs.Ytfkdldaadjhcfaa.Pure.LayoutSwapsOf
namespace Go.Proofs.Ytfkdldaadjhcfaa.Pure
open Go Go.RowKit Go.Proofs.Ytfkdldaadjhcfaa.PLayoutSwaps Go.Proofs.YtfkdldaadjhcfaaW.PrintWords Go.Proofs.YtfkdldaadjhcfaaW.PrintLast Go.Proofs.Ytfkdldaadjhcfaa.Bg
theorem LayoutSwaps : commonholdlaw_LayoutSwaps.Pure := by
  intro a old next _ _ _ _
  refine Big.to ?_
  simp only [commonholdlaw_LayoutSwaps.f]
  refine Big.bind (LayoutSwapsOf.swap_law _ _ _ _) ?_
  refine Big.bind (LayoutSwapsOf.swapped_law _ _ _ _) ?_
  have h := LayoutSwapsOf.ans_same a.f0 a.f1 old next
  refine Big.bind (LayoutSwapsOf.same_f _ _ h.1 h.2) ?_
  simp only [if_true]
  exact (Big.of _).cast (by simp)
end Go.Proofs.Ytfkdldaadjhcfaa.Pure
