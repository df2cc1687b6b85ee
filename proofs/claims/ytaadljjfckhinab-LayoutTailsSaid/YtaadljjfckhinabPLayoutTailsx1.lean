-- Written by wip/pp of this repo (over the kit's print, with additions of this session); Lean checks every line.
import Derived.Test.YtaadljjfckhinabPLayoutTailsx0
namespace Go.Proofs.Ytaadljjfckhinab.PLayoutTails
open Go.RowKit Go.Proofs.YtaadljjfckhinabW.PrintWords Go.Proofs.YtaadljjfckhinabW.PrintLast Go.Proofs.YtaadljjfckhinabW.PrintMore
attribute [local go_sem] max2_int min2_int max_two min_two max_three min_three max_four min_four   -- for this text's walks alone
set_option linter.unusedVariables false
set_option linter.unusedSimpArgs false

-- NOT PRINTED: function 35 (layout_units)

/-! ### layout_May: function 19, by hand -/
-- HAND rounds=0 making=1 imports=Derived.RangeFuncNested,Derived.RangeFuncBound,Derived.RangeFuncCalls,Derived.RangeFuncLeaves,Derived.Shelf.Abstract,Derived.Shelf.RegionOpen,Derived.OwnWalkIn,Derived.TacticsInMore,Derived.LoopNIn,Derived.LoopIn,Derived.RangeFuncBox,Derived.RangeFuncWrites
-- INFO 3
def layout_May.bad (seen : Nat) (u : Int) : Bool := decide (u < 0) || (decide (6 ≤ u) || decide (seen / 2 ^ u.toNat % 2 = 1))
def layout_May.run : Nat → List Int → Bool
  | _, [] => true
  | seen, u :: r => if layout_May.bad seen u = true then false else layout_May.run (seen ||| 2 ^ u.toNat) r
def layout_May.lens (l : List (List Int)) : Bool := l.all fun c => decide (1 ≤ c.length) && decide (c.length ≤ 3)
def layout_May.f (a0_0 : Int) (l0_1 : List (List Int)) : Option (Bool) := some (decide (0 ≤ a0_0) && (decide (a0_0 ≤ 1000000) && (decide (1 ≤ l0_1.length) && (decide (l0_1.length ≤ 6) && (layout_May.lens l0_1 && layout_May.run 0 l0_1.flatten)))))
/-- A list of lists of numbers lies in the world, in blocks below n₀. -/
def layout_May.Lies (n₀ : Nat) (W : World) (A : Option Addr) (l : List (List Int)) : Prop :=
  l.length ≤ 6 ∧ ∀ i, i < l.length → ∃ (ad : Addr) (Ai : Option Addr) (ci : Nat), A = some ad ∧ ad.block < n₀ ∧ W.cell? (ad.add i) = some (.slice Ai (l[i]?.getD []).length ci) ∧ (l[i]?.getD []).length ≤ 3 ∧
    ∀ j, j < (l[i]?.getD []).length → ∃ ai : Addr, Ai = some ai ∧ ai.block < n₀ ∧ W.cell? (ai.add j) = some (.int .i64 ((l[i]?.getD [])[j]?.getD 0))
theorem layout_May.blk (a : Addr) (k : Nat) : (a.add k).block = a.block := by unfold Addr.add; split <;> rfl
theorem layout_May.flat_at (l : List (List Int)) (k j : Nat) (hk : k < l.length) (hj : j < (l[k]?.getD []).length) :
    (l.take k).flatten ++ ((l[k]?.getD []).take j ++ [(l[k]?.getD [])[j]?.getD 0]) <+: l.flatten ∧ ((l.take k).flatten ++ (l[k]?.getD []).take j).length < l.flatten.length := by
  have e : l = l.take k ++ l[k] :: l.drop (k + 1) := by rw [← List.drop_eq_getElem_cons hk, List.take_append_drop]
  have ek : l[k]?.getD [] = l[k] := by simp [hk]
  rw [ek] at hj ⊢
  have ej : l[k][j]?.getD 0 = l[k][j] := by simp [hj]
  rw [ej]
  have ef : l.flatten = (l.take k).flatten ++ (l[k] ++ (l.drop (k + 1)).flatten) := by
    conv => lhs; rw [e]
    rw [List.flatten_append, List.flatten_cons]
  have e2 : l[k].take j ++ [l[k][j]] = l[k].take (j + 1) := (List.take_succ_eq_append_getElem hj).symm
  rw [ef, e2]
  refine ⟨?_, by simp; omega⟩
  rw [List.prefix_append_right_inj]
  exact (List.take_prefix _ _).trans (List.prefix_append _ _)
theorem layout_May.flat_succ (l : List (List Int)) (k : Nat) (hk : k < l.length) : (l.take (k + 1)).flatten = (l.take k).flatten ++ l[k]?.getD [] := by
  rw [List.take_succ_eq_append_getElem hk, List.flatten_append]
  simp [hk]
section layout_May_hand
open Go.Shelf
attribute [local go_sem] Oper.semAt_some
set_option maxRecDepth 100000 in
set_option maxHeartbeats 2000000 in
theorem layout_May.iter (F : Fence) (n : Nat) (hf : F.fn 39) (hro : F.round = none) (hn : 1 ≤ n) (lb Bs n₀ : Nat) (ep : Int) (A : Option Addr) (cap : Nat) (l : List (List Int)) (J Jx : List Int → World → Prop)
    (hY : ∀ pre x W, J pre W → pre.length < l.flatten.length → YieldAt F (n - 1) Try.prog lb #[.int .i64 x] W fun e W' =>
      (e = .returned (.bool true) ∧ J (pre ++ [x]) W' ∧ Below n₀ W W') ∨ (e = .returned (.bool false) ∧ Jx (pre ++ [x]) W'))
    (W : World) (hBs : W.cell? ⟨Bs, 1, none⟩ = some (.slice A l.length cap)) (hl : layout_May.Lies n₀ W A l) (h0 : J [] W) :
    CallsIn F n Try.prog 39 #[.func (.yield lb) #[] #[], .pointer (some ⟨Bs, 0, none⟩)] W fun e W' => (∃ v, e = .returned v) ∧
      ((∃ ys, ys = l.flatten ∧ J ys W') ∨ (∃ pre, pre <+: l.flatten ∧ Jx pre W')) := by
  have hl6 := hl.1
  refine callsIn_of_wp Try.func39 rfl hf ?_ hro
  simp only [Try.ntmps39, List.size_toArray, List.length_cons, List.length_nil, Nat.reduceAdd, Nat.reduceSub, Array.replicate_succ, Array.replicate_zero, List.push_toArray, List.append_toArray, List.nil_append, List.cons_append]
  gi_wp2
  gi_loopw [10] (fun i wr => ∃ k : Nat, k ≤ l.length ∧ i = .int .i64 k ∧ Hid (J (l.take k).flatten wr) ∧ Below n₀ W wr)
    (fun i _ => l.length - (intOf i).toNat)
  case atStart => exact ⟨0, Nat.zero_le _, rfl, Lib.hid h0, Below.refl _ _⟩
  case round =>
    obtain ⟨k, hk, rfl, hJs, hnx⟩ := hrel
    by_cases hlt : k < l.length
    · obtain ⟨ad, Ai, ci, rfl, hab, hce, hc3, hin⟩ := hl.2 k hlt
      have hce' : wr.cell? (ad.add k) = some (.slice Ai (l[k]?.getD []).length ci) := (hnx.cell (p := ad.add k) (by rw [layout_May.blk]; exact hab)).trans hce
      have hBs' : wr.cell? ⟨Bs, 1, none⟩ = some (.slice (some ad) l.length cap) ∨ True := .inr trivial
      clear hce hBs'
      have hfl : ∀ j, j < (l[k]?.getD []).length → _ := fun j hj => layout_May.flat_at l k j hlt hj
      have HFL := Lib.hid hfl
      have HFS := Lib.hid (layout_May.flat_succ l k hlt)
      clear hfl
      generalize hc : l[k]?.getD [] = c at *
      have HC := Lib.hid hc
      clear hc
      have HIN := Lib.hid hin
      clear hin
      gi_wp2
      obtain ⟨wo, rfl⟩ : ∃ wo : World, wo = wr := ⟨_, rfl⟩
      gi_loopw [16] (fun i wr => ∃ j : Nat, j ≤ c.length ∧ i = .int .i64 j ∧ Hid (J ((l.take k).flatten ++ c.take j) wr) ∧ Below n₀ W wr)
        (fun i _ => c.length - (intOf i).toNat)
      case atStart => exact ⟨0, Nat.zero_le _, rfl, by simpa using hJs, hnx⟩
      case round =>
        obtain ⟨j, hj, rfl, hJj, hnj⟩ := hrel
        by_cases hjl : j < c.length
        · obtain ⟨ai, rfl, hai, hci⟩ := HIN.out j hjl
          have hcx : wr.cell? (ai.add j) = some (.int .i64 (c[j]?.getD 0)) := (hnj.cell (p := ai.add j) (by rw [layout_May.blk]; exact hai)).trans hci
          clear hci
          obtain ⟨fn, tmps, assign, body, hy, hR⟩ := hY _ (c[j]?.getD 0) wr hJj.out (HFL.out j hjl).2
          generalize hx : c[j]?.getD 0 = x at *
          have HX := Lib.hid hx
          clear hx
          gi_wp2
          refine hR.mono ?_
          rintro e W3 (⟨rfl, hJ3, hk3⟩ | ⟨rfl, hJx3⟩)
          · have hJ3 := Lib.hid hJ3
            gi_wp2
            go_roundw
            case rel =>
              refine ⟨j + 1, by omega, by go_num, ?_, hnj.trans hk3⟩
              have e : c.take (j + 1) = c.take j ++ [x] := by
                rw [List.take_succ_eq_append_getElem hjl, ← HX.out]; simp [hjl]
              rw [e, ← List.append_assoc]
              exact hJ3
            case measure => simp [intOf]; omega
          · have hJx3 := Lib.hid hJx3
            gi_wp2
            refine bodyPost_ret (results_none rfl _ _ _) rfl ?_
            have hp := (HFL.out j hjl).1
            rw [HX.out, ← List.append_assoc] at hp
            exact ⟨⟨_, rfl⟩, .inr ⟨_, hp, hJx3.out⟩⟩
        · have hjc : j = c.length := by omega
          subst hjc
          gi_wp2
          go_roundw
          case rel =>
            refine ⟨k + 1, by omega, by go_num, ?_, hnj⟩
            rw [HFS.out]
            rw [List.take_length] at hJj
            exact hJj
          case measure => simp [intOf]; omega
    · have hkl : k = l.length := by omega
      subst hkl
      gi_wp2
      go_end0
      exact ⟨⟨_, rfl⟩, .inl ⟨_, rfl, by simpa using hJs.out⟩⟩
theorem layout_May.Lies.below {n₀ : Nat} {W W' : World} {A : Option Addr} {l : List (List Int)} (h : layout_May.Lies n₀ W A l) (hb : Below n₀ W W') : layout_May.Lies n₀ W' A l := by
  refine ⟨h.1, fun i hi => ?_⟩
  obtain ⟨ad, Ai, ci, e, hab, hce, hc3, hin⟩ := h.2 i hi
  refine ⟨ad, Ai, ci, e, hab, (hb.cell (p := ad.add i) (by rw [layout_May.blk]; exact hab)).trans hce, hc3, fun j hj => ?_⟩
  obtain ⟨ai, e2, hai, hci⟩ := hin j hj
  exact ⟨ai, e2, hai, (hb.cell (p := ai.add j) (by rw [layout_May.blk]; exact hai)).trans hci⟩
theorem layout_May.stops (F : Fence) (n : Nat) (hf : F.fn 39) (hro : F.round = none) (hn : 1 ≤ n) (Bs n₀ : Nat) (A : Option Addr) (cap : Nat) (l : List (List Int)) (w : World) (hBs : Bs < w.heap.size) (hn₀ : n₀ ≤ w.heap.size)
    (hc : w.cell? ⟨Bs, 1, none⟩ = some (.slice A l.length cap)) (hI : layout_May.Lies n₀ w A l) :
    SeqStopsK F n Try.prog 39 #[.pointer (some ⟨Bs, 0, none⟩)] (fun x : Int => #[Value.int .i64 x]) (Below n₀) (fun ys => ys = l.flatten) (fun pre => pre <+: l.flatten) l.flatten.length w := fun lb J Jx W hW _ _ hY h0 => by
  have hc' := (hW.cell (p := ⟨Bs, 1, none⟩) hBs).trans hc
  exact layout_May.iter F n hf hro hn lb Bs n₀ 0 A cap l J Jx hY W hc' (hI.below (hW.mono hn₀)) h0
set_option maxHeartbeats 1000000 in
theorem layout_May.units (F : Fence) (n : Nat) (hf : F.fn 35) (hro : F.round = none) (ep : Int) (A : Option Addr) (len cap : Nat) (w : World) :
    CallsIn F n Try.prog 35 #[.agg #[.int .i64 ep, .slice A len cap]] w fun e w' => e = .returned (.func (.func 39) #[] #[.pointer (some ⟨w.heap.size, 0, none⟩)]) ∧ w' = w.alloc (.cells #[.int .i64 ep, .slice A len cap] 44) := by
  refine callsIn_of_wp Try.func35 rfl hf ?_ hro
  simp only [Try.ntmps35, List.size_toArray, List.length_cons, List.length_nil, Nat.reduceAdd, Nat.reduceSub, Array.replicate_succ, Array.replicate_zero, List.push_toArray, List.append_toArray, List.nil_append, List.cons_append]
  gi_wp2
  go_ret
  exact ⟨rfl, rfl⟩
theorem layout_May.row {w : World} {A : Option Addr} {l : List (List Int)} (hr : Kd.C (Kd.slice 3 (Kd.int .i64)) w A l.length l) (i : Nat) (hi : i < l.length) :
    ∃ (ad : Addr) (Ai : Option Addr) (ci : Nat), A = some ad ∧ ad.block < w.heap.size ∧ w.cell? (ad.add i) = some (.slice Ai (l[i]?.getD []).length ci) ∧ (l[i]?.getD []).length ≤ 9223372036854775807 ∧
      ∀ j, j < (l[i]?.getD []).length → ∃ ai : Addr, Ai = some ai ∧ ai.block < w.heap.size ∧ w.cell? (ai.add j) = some (.int .i64 ((l[i]?.getD [])[j]?.getD 0)) := by
  obtain ⟨ad, c, e, _, hK, hc⟩ := Kd.C_get hr ([] : List Int) (i : Int) (by omega) (by omega)
  obtain ⟨Ai, ci, rfl, hci, hin⟩ := hK
  have h0 := hc 0 _ rfl
  have e1 : l.getD ((i : Int)).toNat [] = l[i]?.getD [] := by simp
  rw [e1] at h0 hin hci
  have e2 : ad.add (((i : Int)).toNat * (Kd.slice 3 (Kd.int .i64)).sz + 0) = ad.add i := by
    show ad.add (((i : Int)).toNat * 1 + 0) = _
    simp
  rw [e2] at h0
  refine ⟨ad, Ai, ci, e, ?_, h0, hin.2.1, fun j hj => ?_⟩
  · have := World.block_lt_of_cell? w _ h0
    rwa [layout_May.blk] at this
  · obtain ⟨ai, e3, h3⟩ := Kd.at_int hin (j : Int) (by omega) (by omega)
    have e4 : rd (l[i]?.getD []) (j : Int) = (l[i]?.getD [])[j]?.getD 0 := by simp [rd]
    rw [e4] at h3
    have h3' : w.cell? (ai.add j) = some (.int .i64 ((l[i]?.getD [])[j]?.getD 0)) := by simpa using h3
    refine ⟨ai, e3, ?_, h3'⟩
    have := World.block_lt_of_cell? w _ h3'
    rwa [layout_May.blk] at this
theorem layout_May.lies {w : World} {A : Option Addr} {l : List (List Int)} (hr : Kd.C (Kd.slice 3 (Kd.int .i64)) w A l.length l) (h6 : l.length ≤ 6) (h3 : layout_May.lens l = true) : layout_May.Lies w.heap.size w A l := by
  refine ⟨h6, fun i hi => ?_⟩
  obtain ⟨ad, Ai, ci, e, hab, hce, _, hin⟩ := layout_May.row hr i hi
  refine ⟨ad, Ai, ci, e, hab, hce, ?_, hin⟩
  have := List.all_eq_true.1 h3 l[i] (List.getElem_mem hi)
  simp [hi] at this ⊢
  omega
theorem layout_May.lens_at {l : List (List Int)} (k : Nat) (hk : k < l.length) (h : (l[k]?.getD []).length < 1 ∨ 3 < (l[k]?.getD []).length) : layout_May.lens l = false := by
  have e : l[k]?.getD [] = l[k] := by simp [hk]
  rw [e] at h
  unfold layout_May.lens
  rw [List.all_eq_false]
  exact ⟨l[k], List.getElem_mem hk, by simp; omega⟩
theorem layout_May.lens_of {l : List (List Int)} (h : ∀ k, k < l.length → 1 ≤ (l[k]?.getD []).length ∧ (l[k]?.getD []).length ≤ 3) : layout_May.lens l = true := by
  unfold layout_May.lens
  rw [List.all_eq_true]
  intro x hx
  obtain ⟨k, hk, rfl⟩ := List.getElem_of_mem hx
  have := h k hk
  simp [hk] at this
  simp
  exact this
theorem layout_May.bit_and_n : ∀ s : Nat, s < 64 → ∀ k : Nat, k < 6 → (bits BinOp.and IntKind.i64 ((s : Int) / 2 ^ k) 1 == 1) = decide (s / 2 ^ k % 2 = 1) := by decide
theorem layout_May.bit_and (s : Nat) (x : Int) (hs : s < 64) (h0 : 0 ≤ x) (h6 : x < 6) : (bits BinOp.and IntKind.i64 ((s : Int) / 2 ^ x.toNat) 1 == 1) = decide (s / 2 ^ x.toNat % 2 = 1) := layout_May.bit_and_n s hs x.toNat (by omega)
theorem layout_May.bit_or_n : ∀ s : Nat, s < 64 → ∀ k : Nat, k < 6 → bits BinOp.or IntKind.i64 (s : Int) (IntKind.i64.wrap (2 ^ k)) = ((s ||| 2 ^ k : Nat) : Int) ∧ (s ||| 2 ^ k) < 64 := by decide
set_option maxRecDepth 100000 in
set_option maxHeartbeats 2000000 in
theorem layout_May.may_in (F : Fence) (n : Nat) (hf : F.fn 19) (hf2 : F.fn 35) (hf3 : F.fn 39) (hro : F.round = none) (hn : 3 ≤ n) (ep : Int) (A : Option Addr) (cap : Nat) (l : List (List Int)) (w : World)
    (hr : Kd.C (Kd.slice 3 (Kd.int .i64)) w A l.length l) (r : Bool) (hs : Hid (layout_May.f ep l = some r)) :
    CallsIn F n Try.prog 19 #[.agg #[.int .i64 ep, .slice A l.length cap]] w fun e w' => e = .returned (.bool r) ∧ Below w.heap.size w w' := by
  have HR := Aside0.mk hr
  have hm := hr.2.1
  clear hr
  have hc0 : ((w.alloc (.cells #[.int .i64 ep, .slice A l.length cap] 44)).alloc (.cells #[.bool false] 4)).cell? ⟨w.heap.size + 1, 0, none⟩ = some (.bool false) := by simp [go_sem]
  by_cases h1 : ep < 0
  · refine callsIn_of_wp_marks Try.func19 rfl hf ?_ hro
    simp only [Try.ntmps19, List.size_toArray, List.length_cons, List.length_nil, Nat.reduceAdd, Nat.reduceSub, Array.replicate_succ, Array.replicate_zero, List.push_toArray, List.append_toArray, List.nil_append, List.cons_append]
    gi_wp2
    have hb : r = false := by
      have := Option.some.inj hs.out
      rw [← this, decide_eq_false (show ¬ (0 ≤ ep) by omega)]; simp
    subst hb
    exact ⟨.bool false, by simp [results, Try.f19, go_sem], rfl, below_alloc (below_alloc (Below.refl _ _) _) _⟩
  by_cases h2 : 1000000 < ep
  · refine callsIn_of_wp_marks Try.func19 rfl hf ?_ hro
    simp only [Try.ntmps19, List.size_toArray, List.length_cons, List.length_nil, Nat.reduceAdd, Nat.reduceSub, Array.replicate_succ, Array.replicate_zero, List.push_toArray, List.append_toArray, List.nil_append, List.cons_append]
    gi_wp2
    have hb : r = false := by
      have := Option.some.inj hs.out
      rw [← this, decide_eq_false (show ¬ (ep ≤ 1000000) by omega)]; simp
    subst hb
    exact ⟨.bool false, by simp [results, Try.f19, go_sem], rfl, below_alloc (below_alloc (Below.refl _ _) _) _⟩
  by_cases h3 : l.length < 1
  · refine callsIn_of_wp_marks Try.func19 rfl hf ?_ hro
    simp only [Try.ntmps19, List.size_toArray, List.length_cons, List.length_nil, Nat.reduceAdd, Nat.reduceSub, Array.replicate_succ, Array.replicate_zero, List.push_toArray, List.append_toArray, List.nil_append, List.cons_append]
    gi_wp2
    have hb : r = false := by
      have := Option.some.inj hs.out
      rw [← this, decide_eq_false (show ¬ (1 ≤ l.length) by omega)]; simp
    subst hb
    exact ⟨.bool false, by simp [results, Try.f19, go_sem], rfl, below_alloc (below_alloc (Below.refl _ _) _) _⟩
  by_cases h4 : 6 < l.length
  · refine callsIn_of_wp_marks Try.func19 rfl hf ?_ hro
    simp only [Try.ntmps19, List.size_toArray, List.length_cons, List.length_nil, Nat.reduceAdd, Nat.reduceSub, Array.replicate_succ, Array.replicate_zero, List.push_toArray, List.append_toArray, List.nil_append, List.cons_append]
    gi_wp2
    have hb : r = false := by
      have := Option.some.inj hs.out
      rw [← this, decide_eq_false (show ¬ (l.length ≤ 6) by omega)]; simp
    subst hb
    exact ⟨.bool false, by simp [results, Try.f19, go_sem], rfl, below_alloc (below_alloc (Below.refl _ _) _) _⟩
  refine callsIn_of_wp_marks Try.func19 rfl hf ?_ hro
  simp only [Try.ntmps19, List.size_toArray, List.length_cons, List.length_nil, Nat.reduceAdd, Nat.reduceSub, Array.replicate_succ, Array.replicate_zero, List.push_toArray, List.append_toArray, List.nil_append, List.cons_append]
  gi_wp2
  gi_loopw [30] (fun i wr => ∃ k : Nat, k ≤ l.length ∧ i = .int .i64 k ∧ Hid (∀ j, j < k → 1 ≤ (l[j]?.getD []).length ∧ (l[j]?.getD []).length ≤ 3) ∧ wr = (w.alloc (.cells #[.int .i64 ep, .slice A l.length cap] 44)).alloc (.cells #[.bool false] 4))
    (fun i _ => l.length - (intOf i).toNat)
  case atStart => exact ⟨0, Nat.zero_le _, rfl, Lib.hid (fun j hj => by omega), rfl⟩
  case round =>
    obtain ⟨k, hk, rfl, hJ, rfl⟩ := hrel
    by_cases hlt : k < l.length
    · obtain ⟨ad, Ai, ci, rfl, hab, hce, hcm, _⟩ := layout_May.row HR.out k hlt
      have hce' : ((w.alloc (.cells #[.int .i64 ep, .slice (some ad) l.length cap] 44)).alloc (.cells #[.bool false] 4)).cell? (ad.add k) = some (.slice Ai (l[k]?.getD []).length ci) :=
        pw_cell_below (below_alloc (below_alloc (Below.refl _ _) _) _) hce
      clear hce
      have hbad := fun h => Lib.hid (layout_May.lens_at k hlt h)
      have HB := Lib.hid hbad
      clear hbad
      generalize hc : l[k]?.getD [] = c at *
      have HC := Lib.hid hc
      clear hc
      by_cases q1 : c.length < 1
      · gi_wp2
        have hb : r = false := by
          have := Option.some.inj hs.out
          rw [← this, (HB.out (.inl q1)).out]; simp
        subst hb
        exact ⟨.bool false, by simp [results, Try.f19, go_sem], rfl, below_alloc (below_alloc (Below.refl _ _) _) _⟩
      · by_cases q2 : 3 < c.length
        · gi_wp2
          have hb : r = false := by
            have := Option.some.inj hs.out
            rw [← this, (HB.out (.inr q2)).out]; simp
          subst hb
          exact ⟨.bool false, by simp [results, Try.f19, go_sem], rfl, below_alloc (below_alloc (Below.refl _ _) _) _⟩
        · gi_wp2
          go_roundw
          case rel =>
            refine ⟨k + 1, by omega, by go_num, Lib.hid (fun j hj => ?_), trivial⟩
            by_cases hjk : j = k
            · subst hjk
              rw [HC.out]
              omega
            · exact hJ.out j (by omega)
          case measure => simp [intOf]; omega
    · have hkl : k = l.length := by omega
      subst hkl
      have hlens := Lib.hid (layout_May.lens_of hJ.out)
      have hlies := Lib.hid (layout_May.lies HR.out (by omega) hlens.out)
      have h1n : 1 ≤ n := by omega
      gi_wp2_with (gi_at_call 35; refine (layout_May.units F (n - 1) hf2 hro _ _ _ _ _).mono ?_; rintro e w' ⟨rfl, rfl⟩)
      have hB0 : Below w.heap.size w ((((w.alloc (.cells #[.int .i64 ep, .slice A l.length cap] 44)).alloc (.cells #[.bool false] 4)).alloc (.cells #[.int .i64 0] 3)).alloc (.cells #[.int .i64 ep, .slice A l.length cap] 44)) :=
        below_alloc (below_alloc (below_alloc (below_alloc (Below.refl _ _) _) _) _) _
      refine wpIn_rangeFunc_ownG hro h1n (gf := 39) (lb := #[.pointer (some ⟨w.heap.size + 1 + 1 + 1, 0, none⟩)]) rfl hf3 (enters_of Try.func39 (by kernel_rfl) rfl)
        (layout_May.stops F (n - 1) hf3 hro (by omega) (w.heap.size + 1 + 1 + 1) w.heap.size A cap l _ (by simp) (by simp; omega) (by simp [go_sem]) (hlies.out.below hB0)) belowK_t (belowK_b (by simp; omega)) (Below.refl _ _) (fun _ => rfl)
        (fun pre W => (∃ s : Nat, Hid (s < 64 ∧ ∀ r, layout_May.run 0 (pre ++ r) = layout_May.run s r) ∧ W.cell? ⟨w.heap.size + 1 + 1, 0, none⟩ = some (.int .i64 s) ∧ W.frozen? ⟨w.heap.size + 1 + 1, 0, none⟩ = false ∧ W.cell? ⟨w.heap.size + 1, 0, none⟩ = some (.bool false) ∧ W.frozen? ⟨w.heap.size + 1, 0, none⟩ = false) ∧ Below w.heap.size w W)
        (fun c pre W => (c = .ret ∧ Hid (∀ r, layout_May.run 0 (pre ++ r) = false) ∧ W.cell? ⟨w.heap.size + 1, 0, none⟩ = some (.bool false)) ∧ Below w.heap.size w W)
        (OwnFrom.and (Own.from (fun s A B row hs hg hr => by obtain ⟨q, h0, h1, h2, h3, h4⟩ := hs; exact ⟨q, h0, cell_kept h1 hg hr, (frozen_kept h1 hg hr).trans h2, cell_kept h3 hg hr, (frozen_kept h3 hg hr).trans h4⟩) _) (ownFrom_below (Nat.le_refl _) (by simp; omega)))
        (fun c => OwnFrom.and (Own.from (fun s A B row hs hg hr => by obtain ⟨hc, e1, e2⟩ := hs; exact ⟨hc, e1, cell_kept e2 hg hr⟩) _) (ownFrom_below (Nat.le_refl _) (by simp; omega)))
        ⟨⟨0, Lib.hid ⟨by omega, fun r => rfl⟩, by simp [go_sem], by simp [go_sem], by simp [go_sem], by simp [go_sem]⟩, hB0⟩
        ?a1 ?assign ?body ?done ?stop
      case assign =>
        intro l x W K hK
        gi_wp2
        exact hK
      case body =>
        rintro lp pre x W ⟨⟨s, hs0, hcs, hfs, hcr, hfr⟩, hB⟩ _
        by_cases q1 : x < 0
        · gi_wp2
          exact ⟨(KeepsOthers.setCell _ _ _).from _, ⟨rfl, Lib.hid (fun r => by rw [List.append_assoc, hs0.out.2]; simp [layout_May.run, layout_May.bad, q1]), World.cell?_setCell_same' _ _ _ (by rw [hcr]; rfl)⟩, hB.setCell (p := ⟨w.heap.size + 1, 0, none⟩) (by simp) _⟩
        by_cases q2 : 6 ≤ x
        · gi_wp2
          exact ⟨(KeepsOthers.setCell _ _ _).from _, ⟨rfl, Lib.hid (fun r => by rw [List.append_assoc, hs0.out.2]; simp [layout_May.run, layout_May.bad, q2]), World.cell?_setCell_same' _ _ _ (by rw [hcr]; rfl)⟩, hB.setCell (p := ⟨w.heap.size + 1, 0, none⟩) (by simp) _⟩
        gi_wp2
        · have hq : (bits BinOp.and IntKind.i64 ((s : Int) / 2 ^ x.toNat) 1 == 1) = true := by assumption
          rw [layout_May.bit_and s x hs0.out.1 (by omega) (by omega)] at hq
          exact ⟨(KeepsOthers.setCell _ _ _).from _, ⟨rfl, Lib.hid (fun r => by rw [List.append_assoc, hs0.out.2]; simp [layout_May.run, layout_May.bad, of_decide_eq_true hq]), World.cell?_setCell_same' _ _ _ (by rw [hcr]; rfl)⟩, hB.setCell (p := ⟨w.heap.size + 1, 0, none⟩) (by simp) _⟩
        · have hq : (bits BinOp.and IntKind.i64 ((s : Int) / 2 ^ x.toNat) 1 == 1) = false := by assumption
          rw [layout_May.bit_and s x hs0.out.1 (by omega) (by omega)] at hq
          have ho := layout_May.bit_or_n s hs0.out.1 x.toNat (by omega)
          gi_region
          all_goals
            refine ⟨((KeepsOthers.setCell _ _ _).trans (KeepsOthers.drew _)).from _, (Below.setCell (p := ⟨w.heap.size + 1 + 1, 0, none⟩) (Below.refl _ _) (by simp; omega) _).drew, ⟨s ||| 2 ^ x.toNat, Lib.hid ⟨ho.2, fun r => by rw [List.append_assoc, hs0.out.2]; simp [layout_May.run, layout_May.bad, q1, q2, of_decide_eq_false hq]⟩, ?_, ?_, ?_, ?_⟩, (hB.setCell (p := ⟨w.heap.size + 1 + 1, 0, none⟩) (by simp; omega) _).drew⟩
            · exact (World.cell?_setCell_same' _ _ _ (by rw [hcs]; rfl))
            · exact (World.frozen?_setCell W _ _ _).trans hfs
            · exact (World.cell?_setCell_other W _ _ _ (fun h => by have := congrArg Addr.block h; simp at this)).trans hcr
            · exact (World.frozen?_setCell W _ _ _).trans hfr
      case done =>
        rintro D ys W hD rfl ⟨⟨s, hs0, hcs, hfs, hcr, hfr⟩, hB⟩ hK
        gi_wp2
        have hK' := (KeepsOthers.setCell W ⟨w.heap.size + 1, 0, none⟩ (.bool true)).same D _ hK rfl
        refine ⟨by simp, .inl ⟨_, _, rfl, run_takeDeferred hK', ?_⟩⟩
        have hc5 := cell_kept (World.cell?_setCell_same' W ⟨w.heap.size + 1, 0, none⟩ (.bool true) (by rw [hcr]; rfl)) (grownBy_putObj' _ D (.deferred none)) (fun r e => by cases e; exact ⟨_, hK', rfl⟩)
        have hb : r = true := by
          have := Option.some.inj hs.out
          have e := hs0.out.2 []
          rw [List.append_nil] at e
          rw [← this, e, hlens.out, decide_eq_true (show 0 ≤ ep by omega), decide_eq_true (show ep ≤ 1000000 by omega), decide_eq_true (show 1 ≤ l.length by omega), decide_eq_true (show l.length ≤ 6 by omega)]; rfl
        subst hb
        refine ⟨.bool true, ?_, rfl, (hB.setCell (p := ⟨w.heap.size + 1, 0, none⟩) (by simp) _).trans (belowK_b (w := w) (Nat.le_refl _) _ D _ _ (by simp at hD; omega) hK' rfl rfl)⟩
        simp [results, Try.f19, go_sem, hc5]
      case stop =>
        rintro D c pre W hD ⟨rest, hrest⟩ ⟨⟨rfl, hbad, hcr⟩, hB⟩ hK
        gi_wp2
        refine ⟨by simp, .inl ⟨_, _, rfl, run_takeDeferred hK, ?_⟩⟩
        have hc5 := cell_kept hcr (grownBy_putObj' _ D (.deferred none)) (fun r e => by cases e; exact ⟨_, hK, rfl⟩)
        have hb : r = false := by
          have := Option.some.inj hs.out
          have e := hbad.out rest
          rw [hrest] at e
          rw [← this, e]; simp
        subst hb
        refine ⟨.bool false, ?_, rfl, hB.trans (belowK_b (w := w) (Nat.le_refl _) W D _ _ (by simp at hD; omega) hK rfl rfl)⟩
        simp [results, Try.f19, go_sem, hc5]
theorem layout_May.calls (a0_0 : Int) (A0_1 : Option Addr) (c0_1 : Nat) (l0_1 : List (List Int)) (r : Bool) (w : World) (hr0_1 : Kd.C (Kd.slice 3 (Kd.int .i64)) w A0_1 l0_1.length l0_1) (hc0_1 : l0_1.length ≤ c0_1) (h : layout_May.f a0_0 l0_1 = some r) :
    Calls Try.prog 19 #[.agg #[.int .i64 a0_0, .slice A0_1 l0_1.length c0_1]] w fun e w' => e = .returned (.bool r) ∧ Below w.heap.size w w' :=
  callsIn_wide.1 (layout_May.may_in Fence.wide 3 trivial trivial trivial rfl (by omega) a0_0 A0_1 c0_1 l0_1 w hr0_1 r (Lib.hid h))
end layout_May_hand

/-! ### layout_Tail: function 25 -/
mutual
def layout_Tail.l0 : Nat → List Int → Int → List Int → Int → Int → Option (Int × Int)
  | 0, _, _, _, _, _ => none
  | k + 1, x1, x6, x18, x19, x20 => if x20 < x19 then (if 0 ≤ x20 then (if x20 < (x18.length : Int) then (if (rd x18 x20) < 0 then (layout_Tail.j1 k x1 x6 x20 (rd x18 x20) x18 x19 x20 true) else (layout_Tail.j1 k x1 x6 x20 (rd x18 x20) x18 x19 x20 (decide ((rd x18 x20) > 64)))) else (none)) else (none)) else (some (x6, 0))
def layout_Tail.j1 : Nat → List Int → Int → Int → Int → List Int → Int → Int → Bool → Option (Int × Int)
  | 0, _, _, _, _, _, _, _, _ => none
  | k + 1, x1, x6, x7, x8, x18, x19, x20, x30 => if x30 = true then (some (0, 2)) else (if x8 > 0 then (layout_Tail.l0 k x1 (mx x6 (wrap64 ((wrap64 ((wrap64 ((wrap64 (x8 - 1)) * (x1.length : Int))) + x7)) + 1))) x18 x19 (wrap64 (x20 + 1))) else (layout_Tail.l0 k x1 x6 x18 x19 (wrap64 (x20 + 1))))
end
def layout_Tail.f (k : Nat) (a0_0 : Int) (l0_1 : List (List Int)) (l1 : List Int) : Option (Int × Int) := (layout_May.f a0_0 l0_1).bind fun t102 => (if t102 = true then (if (l1.length : Int) = (l0_1.length : Int) then (layout_Tail.l0 k l1 0 l1 (l1.length : Int) 0) else (some (0, 1))) else (some (0, 4)))
theorem layout_Tail.mono_l : ∀ k, (∀ y0 y1 y2 y3 y4, LeO (layout_Tail.l0 k y0 y1 y2 y3 y4) (layout_Tail.l0 (k + 1) y0 y1 y2 y3 y4)) ∧ (∀ y0 y1 y2 y3 y4 y5 y6 y7, LeO (layout_Tail.j1 k y0 y1 y2 y3 y4 y5 y6 y7) (layout_Tail.j1 (k + 1) y0 y1 y2 y3 y4 y5 y6 y7))
  | 0 => ⟨fun _ _ _ _ _ r h => by simp [layout_Tail.l0] at h, fun _ _ _ _ _ _ _ _ r h => by simp [layout_Tail.j1] at h⟩
  | k + 1 => by
    obtain ⟨ih0, ih1⟩ := layout_Tail.mono_l k
    refine ⟨?_, ?_⟩
    · intro y0 y1 y2 y3 y4
      unfold layout_Tail.l0
      repeat' first
      | (with_reducible exact ih0 _ _ _ _ _)
      | (with_reducible exact ih1 _ _ _ _ _ _ _ _)
      | (with_reducible exact LeO.refl _)
      | (with_reducible exact LeO.none _)
      | (with_reducible refine LeO.ite ?_ ?_)
      | (with_reducible refine LeO.bind ?_ (fun _ => ?_))
      | exact ih0 _ _ _ _ _
      | exact ih1 _ _ _ _ _ _ _ _
      | exact LeO.none _
      | refine LeO.ite ?_ ?_
      | refine LeO.bind ?_ (fun _ => ?_)
    · intro y0 y1 y2 y3 y4 y5 y6 y7
      unfold layout_Tail.j1
      repeat' first
      | (with_reducible exact ih0 _ _ _ _ _)
      | (with_reducible exact ih1 _ _ _ _ _ _ _ _)
      | (with_reducible exact LeO.refl _)
      | (with_reducible exact LeO.none _)
      | (with_reducible refine LeO.ite ?_ ?_)
      | (with_reducible refine LeO.bind ?_ (fun _ => ?_))
      | exact ih0 _ _ _ _ _
      | exact ih1 _ _ _ _ _ _ _ _
      | exact LeO.none _
      | refine LeO.ite ?_ ?_
      | refine LeO.bind ?_ (fun _ => ?_)
theorem layout_Tail.mono : ∀ a0 a1 a2 k, LeO (layout_Tail.f k a0 a1 a2) (layout_Tail.f (k + 1) a0 a1 a2) := by
  intro a0 a1 a2 k
  obtain ⟨ih0, ih1⟩ := layout_Tail.mono_l k
  unfold layout_Tail.f
  repeat' first
      | (with_reducible exact ih0 _ _ _ _ _)
      | (with_reducible exact ih1 _ _ _ _ _ _ _ _)
      | (with_reducible exact LeO.refl _)
      | (with_reducible exact LeO.none _)
      | (with_reducible refine LeO.ite ?_ ?_)
      | (with_reducible refine LeO.bind ?_ (fun _ => ?_))
      | exact ih0 _ _ _ _ _
      | exact ih1 _ _ _ _ _ _ _ _
      | exact LeO.none _
      | refine LeO.ite ?_ ?_
      | refine LeO.bind ?_ (fun _ => ?_)
set_option maxHeartbeats 8000000 in
set_option maxRecDepth 100000 in
theorem layout_Tail.calls (k : Nat) (a0_0 : Int) (A0_1 : Option Addr) (c0_1 : Nat) (l0_1 : List (List Int)) (A1 : Option Addr) (c1 : Nat) (l1 : List Int) (r1 : Int) (r2 : Int) (w : World) (hr0_1 : Kd.C (Kd.slice 3 (Kd.int .i64)) w A0_1 l0_1.length l0_1) (hc0_1 : l0_1.length ≤ c0_1) (hr1 : Kd.C (Kd.int .i64) w A1 l1.length l1) (hc1 : l1.length ≤ c1) (h : layout_Tail.f k a0_0 l0_1 l1 = some (r1, r2)) :
    Calls Try.prog 25 #[.agg #[.int .i64 a0_0, .slice A0_1 l0_1.length c0_1], .slice A1 l1.length c1] w fun e w' => e = .returned (.tuple #[.int .i64 r1, .int .i64 r2]) ∧ Below w.heap.size w w' := by
  have hu44 := Try.underlying44
  have HR0_1 := Aside0.mk hr0_1
  have HC0_1 := Aside0.mk hc0_1
  clear hr0_1 hc0_1
  have HR1 := Aside0.mk hr1
  have HC1 := Aside0.mk hc1
  clear hr1 hc1
  have HB := Aside0.mk (Below.refl w.heap.size w)
  have H : ((layout_May.f a0_0 l0_1).bind fun t102 => (if t102 = true then (if (l1.length : Int) = (l0_1.length : Int) then (layout_Tail.l0 k l1 0 l1 (l1.length : Int) 0) else (some (0, 1))) else (some (0, 4)))) = some (r1, r2) := h
  clear h
  replace H := Option.bind_eq_some_iff.mp H
  obtain ⟨t102, A30, H⟩ := H
  replace H : (if t102 = true then (if (l1.length : Int) = (l0_1.length : Int) then (layout_Tail.l0 k l1 0 l1 (l1.length : Int) 0) else (some (0, 1))) else (some (0, 4))) = some (r1, r2) := H
  have A3 := Aside0.mk A30
  clear A30
  by_cases c4 : t102 = true
  · subst c4
    have H1 : (if (l1.length : Int) = (l0_1.length : Int) then (layout_Tail.l0 k l1 0 l1 (l1.length : Int) 0) else (some (0, 1))) = some (r1, r2) := by rw [if_pos rfl] at H; exact H
    clear H
    have H := H1
    clear H1
    by_cases c5 : (l1.length : Int) = (l0_1.length : Int)
    · rw [if_pos c5] at H
      have c5b0 : ((l1.length : Int) == (l0_1.length : Int)) = true := beq_iff_eq.mpr c5
      have c5b1 : ((l1.length : Int) != (l0_1.length : Int)) = false := bne_eq_false_iff_eq.mpr c5
      have c5b2 : (l1.length == l0_1.length) = true := by first | simpa using c5 | (simp at c5 ⊢; omega)
      clear c5
      have H' := Aside0.mk H
      clear H
      go_enter Try.func25, Try.ntmps25
      go_wp2_with (first | ((with_reducible refine gate_dst (N := 2) rfl ?_); refine box_event ?hg (N := 2) ?hd (cs := #[.int .i64 a0_0, .slice A0_1 l0_1.length c0_1]) (t := 44) ?hr ?_; (case hd => rfl); (case hg => rfl); (case hr => first | (go_simp; done) | (go_simp; rfl)); intro gb101 hg w6 hbox hb; have n0_ := Aside0.mk (below_step (by repeat (first | (with_reducible first | exact HB.out | apply below_alloc | apply pw_below_drewN | apply below_drew1) | exact HB.out)) hb); have n1_ := Aside0.mk (hbox); have n2_ := Aside0.mk ((by rw [hg]; exact (below_size (by repeat (first | (with_reducible first | exact HB.out | apply below_alloc | apply pw_below_drewN | apply below_drew1) | exact HB.out))) : w.heap.size ≤ gb101)); have n3_ := Aside0.mk ((by rw [hg]; exact (below_size (by repeat (first | (with_reducible first | exact HB.out | apply below_alloc | apply pw_below_drewN | apply below_drew1) | exact HB.out))) : w.heap.size ≤ gb101)); clear HB; have HB := n0_; have BK101 := n1_; have GW101 := n2_; have GE101 := n3_; clear n0_ n1_ n2_ n3_; clear hb hbox hg; have hcz7_0 : w6.cell? ⟨gb101, 0, none⟩ = some (.int .i64 a0_0) := (blk_cell BK101.out 0).trans rfl; have hcz7_1 : w6.cell? ⟨gb101, 1, none⟩ = some (.slice A0_1 l0_1.length c0_1) := (blk_cell BK101.out 1).trans rfl; have hfz7_0 := blk_frozen BK101.out 0; have hfz7_1 := blk_frozen BK101.out 1) | ((with_reducible refine gate_callee (f := 19) rfl ?_); refine goesL_ (some 10) rfl rfl Try.func19 (by kernel_rfl) rfl #[.agg #[.int .i64 a0_0, .slice A0_1 l0_1.length c0_1]] rfl (by (try simp only [List.map_toArray, List.map_cons, List.map_nil]); first | done | rfl | (simp only [List.length_drop, List.length_take]; rfl)) ?_; (with_reducible refine (layout_May.calls a0_0 _ _ l0_1 true _ ?side1 ?side2 A3.out).mono ?_); (case side1 => repeat (first | exact (Kd.C_below HR0_1.out HB.out) | (with_reducible refine Kd.C_alloc ?_ _) | (with_reducible refine Kd.C_drewN ?_ _) | (with_reducible refine Kd.C_drew ?_))); (case side2 => exact HC0_1.out); rintro e w8 ⟨rfl, hb⟩; refine ⟨_, rfl, ?_⟩; have n0_ := Aside0.mk (blk_below (g := gb101) (o := .cells #[.int .i64 a0_0, .slice A0_1 l0_1.length c0_1] 44 (0, 0)) (by (with_reducible repeat (first | refine blk_drewN ?_ _ | refine blk_drew ?_ | refine blk_alloc ?_ _)); exact BK101.out) hb); have n1_ := Aside0.mk (below_step (by repeat (first | (with_reducible first | exact HB.out | apply below_alloc | apply pw_below_drewN | apply below_drew1 | refine below_set ?_ GE101.out) | exact HB.out)) hb); clear BK101; clear HB; have BK101 := n0_; have HB := n1_; clear n0_ n1_; (try clear hb); (try clear hb2); (try clear hk); (try clear hi); have hcz9_0 : w8.cell? ⟨gb101, 0, none⟩ = some (.int .i64 a0_0) := (blk_cell BK101.out 0).trans rfl; have hcz9_1 : w8.cell? ⟨gb101, 1, none⟩ = some (.slice A0_1 l0_1.length c0_1) := (blk_cell BK101.out 1).trans rfl; have hfz9_0 := blk_frozen BK101.out 0; have hfz9_1 := blk_frozen BK101.out 1))
      go_loopg [6, 20] k (fun kq v6 v20 w' => ∃ (x6_1 : Int) (x20_1 : Int), v6 = .int .i64 x6_1 ∧ v20 = .int .i64 x20_1 ∧ Aside0 (layout_Tail.l0 kq l1 x6_1 l1 (l1.length : Int) x20_1 = some (r1, r2)) ∧ Aside0 (kq ≤ k) ∧ Aside0 (w'.heap[gb101]? = some (.cells #[.int .i64 a0_0, (.slice A0_1 l0_1.length c0_1)] 44 (0, 0))) ∧ Aside0 (Below w.heap.size w w'))
      case atStart => exact ⟨(0), (0), (by first | rfl | (simp; done) | (simp [*]; done)), (by first | rfl | (simp; done) | (simp [*]; done)), H', ⟨Nat.le_refl _⟩, ⟨by (with_reducible repeat (first | refine blk_drewN ?_ _ | refine blk_drew ?_ | refine blk_alloc ?_ _)); exact BK101.out⟩, ⟨by repeat (first | (with_reducible first | exact HB.out | apply below_alloc | apply pw_below_drewN | apply below_drew1 | refine below_set ?_ GE101.out) | exact HB.out)⟩⟩
      case round =>
        clear H'
        try clear c1
        try clear c2
        try clear p2
        try clear c4
        try clear c5
        try clear c5b0
        try clear c5b1
        try clear c5b2
        try clear hcz7_0
        try clear hcz7_1
        try clear hcz9_0
        try clear hcz9_1
        try clear hfz7_0
        try clear hfz7_1
        try clear hfz9_0
        try clear hfz9_1
        obtain ⟨x6_1, x20_1, rfl, rfl, HA, HK1, BK101, HB⟩ := hrel
        cases gk with
        | zero => exact absurd HA.out (by simp [layout_Tail.l0])
        | succ k1 =>
          have H := HA.out
          clear HA
          simp only [layout_Tail.l0] at H
          by_cases c10 : x20_1 < (l1.length : Int)
          · rw [if_pos c10] at H
            have c10b0 : decide (x20_1 < (l1.length : Int)) = true := decide_eq_true c10
            clear c10
            by_cases c11 : 0 ≤ x20_1
            · rw [if_pos c11] at H
              have c11b0 : decide (0 ≤ x20_1) = true := decide_eq_true c11
              clear c11
              by_cases c12 : x20_1 < (l1.length : Int)
              · rw [if_pos c12] at H
                have c12b0 : decide (x20_1 < (l1.length : Int)) = true := decide_eq_true c12
                clear c12
                have HC13 := Aside0.mk H
                clear H
                have p103 : 0 ≤ (x20_1 : Int) := of_decide_eq_true (by first | (with_reducible assumption) | assumption)
                have q103 : x20_1 < (l1.length : Int) := of_decide_eq_true (by first | (with_reducible assumption) | assumption)
                obtain ⟨ad103, e103, hx103_0⟩ := Kd.at_int HR1.out x20_1 p103 q103
                cases e103
                replace hx103_0 := (HB.out.cell (World.block_lt_of_cell? w _ hx103_0)).trans hx103_0
                replace p103 := eq_true p103
                replace q103 := eq_true q103
                go_upto_region 9 with (fail)
                go_cut [30] (fun v30 wc => ∃ (kq : Nat) (x30_12 : Bool), v30 = .bool x30_12 ∧ Aside0 (layout_Tail.j1 kq l1 x6_1 x20_1 (rd l1 x20_1) l1 (l1.length : Int) x20_1 x30_12 = some (r1, r2)) ∧ Aside0 (kq ≤ k1) ∧ Aside0 (wc.heap[gb101]? = some (.cells #[.int .i64 a0_0, (.slice A0_1 l0_1.length c0_1)] 44 (0, 0))) ∧ Aside0 (Below w.heap.size w wc))
                case first =>
                  have H := HC13.out
                  clear HC13
                  by_cases c14 : (rd l1 x20_1) < 0
                  · rw [if_pos c14] at H
                    have c14b0 : decide ((rd l1 x20_1) < 0) = true := decide_eq_true c14
                    clear c14
                    (first | rw [c14b0] | (simp only [i64_w, i32_w]; rw [c14b0]) | skip)
                    have H' := Aside0.mk H
                    clear H
                    go_wp2
                    go_meet
                    case rel => exact ⟨_, (true), (by first | rfl | (simp; done) | (simp [*]; done)), H', ⟨by have := HK1.out; first | omega | exact Nat.le_refl _⟩, ⟨by (with_reducible repeat (first | refine blk_drewN ?_ _ | refine blk_drew ?_ | refine blk_alloc ?_ _)); exact BK101.out⟩, ⟨by repeat (first | (with_reducible first | exact HB.out | apply below_alloc | apply pw_below_drewN | apply below_drew1 | refine below_set ?_ GE101.out) | exact HB.out)⟩⟩
                  · rw [if_neg c14] at H
                    have c14b0 : decide ((rd l1 x20_1) < 0) = false := decide_eq_false c14
                    clear c14
                    (first | rw [c14b0] | (simp only [i64_w, i32_w]; rw [c14b0]) | skip)
                    have H' := Aside0.mk H
                    clear H
                    go_wp2
                    go_meet
                    case rel => exact ⟨_, (decide ((rd l1 x20_1) > 64)), (by first | rfl | (simp; done) | (simp [*]; done)), H', ⟨by have := HK1.out; first | omega | exact Nat.le_refl _⟩, ⟨by (with_reducible repeat (first | refine blk_drewN ?_ _ | refine blk_drew ?_ | refine blk_alloc ?_ _)); exact BK101.out⟩, ⟨by repeat (first | (with_reducible first | exact HB.out | apply below_alloc | apply pw_below_drewN | apply below_drew1 | refine below_set ?_ GE101.out) | exact HB.out)⟩⟩
                case rest =>
                  clear HC13
                  try clear c1
                  try clear p1
                  try clear q1
                  try clear hx1
                  try clear c2
                  try clear p2
                  try clear c4
                  try clear c5
                  try clear c5b0
                  try clear c5b1
                  try clear c5b2
                  try clear c10
                  try clear c10b0
                  try clear p10
                  try clear q10
                  try clear hx10
                  try clear c11
                  try clear c11b0
                  try clear c12
                  try clear c12b0
                  try clear c14
                  try clear c14b0
                  try clear hcz7_0
                  try clear hcz7_1
                  try clear hcz9_0
                  try clear hcz9_1
                  try clear hfz7_0
                  try clear hfz7_1
                  try clear hfz9_0
                  try clear hfz9_1
                  try clear hx103_0
                  try clear p103
                  try clear p2
                  try clear q103
                  obtain ⟨kq, x30_12, rfl, HA, HJ12, BK101, HB⟩ := hcut
                  cases kq with
                  | zero => exact absurd HA.out (by simp [layout_Tail.j1])
                  | succ kj12 =>
                    have H := HA.out
                    clear HA
                    simp only [layout_Tail.j1] at H
                    by_cases c15 : x30_12 = true
                    · subst c15
                      have H1 : (some (0, 2)) = some (r1, r2) := by rw [if_pos rfl] at H; exact H
                      clear H
                      have H := H1
                      clear H1
                      simp only [Option.some.injEq, Prod.mk.injEq] at H
                      obtain ⟨rfl, rfl⟩ := H
                      go_wp2
                      go_ret2
                      exact ⟨by first | rfl | (simp [errW_none, errW_some] <;> rfl) | (simp [*, errW_none, errW_some] <;> rfl), by repeat (first | (with_reducible first | exact HB.out | apply below_alloc | apply pw_below_drewN | apply below_drew1 | refine below_set ?_ GE101.out) | exact HB.out)⟩
                    · replace c15 := Bool.eq_false_iff.mpr c15
                      subst c15
                      have H1 : (if (rd l1 x20_1) > 0 then (layout_Tail.l0 kj12 l1 (mx x6_1 (wrap64 ((wrap64 ((wrap64 ((wrap64 ((rd l1 x20_1) - 1)) * (l1.length : Int))) + x20_1)) + 1))) l1 (l1.length : Int) (wrap64 (x20_1 + 1))) else (layout_Tail.l0 kj12 l1 x6_1 l1 (l1.length : Int) (wrap64 (x20_1 + 1)))) = some (r1, r2) := by rw [if_neg (show ¬ (false = true) by decide)] at H; exact H
                      clear H
                      have H := H1
                      clear H1
                      by_cases c16 : (rd l1 x20_1) > 0
                      · rw [if_pos c16] at H
                        have c16b0 : decide (0 < (rd l1 x20_1)) = true := decide_eq_true c16
                        clear c16
                        obtain ⟨ji17, hji17⟩ : ∃ j_ : Int, (mx x6_1 (wrap64 ((wrap64 ((wrap64 ((wrap64 ((rd l1 x20_1) - 1)) * (l1.length : Int))) + x20_1)) + 1))) = j_ := ⟨_, rfl⟩
                        replace H : (layout_Tail.l0 kj12 l1 ji17 l1 (l1.length : Int) (wrap64 (x20_1 + 1))) = some (r1, r2) := by first | (rw [hji17] at H; exact H) | (simp only [hji17] at H ⊢; exact H)
                        have hji17_ : (if x6_1 < (wrap64 ((wrap64 ((wrap64 ((wrap64 ((rd l1 x20_1) - 1)) * (l1.length : Int))) + x20_1)) + 1)) then (wrap64 ((wrap64 ((wrap64 ((wrap64 ((rd l1 x20_1) - 1)) * (l1.length : Int))) + x20_1)) + 1)) else x6_1) = ji17 := hji17
                        have H' := Aside0.mk H
                        clear H
                        go_wp2
                        go_roundg kj12
                        case measure => have := HK1.out; have := HJ12.out; omega
                        case rel => exact ⟨(ji17), (wrap64 (x20_1 + 1)), (by first | rfl | (simp; done) | (simp only [← hji17] <;> (first | rfl | simp)) | (simp [*]; done)), (by first | rfl | (simp; done) | (simp [*]; done)), H', ⟨by have := HK1.out; have := HJ12.out; omega⟩, ⟨by (with_reducible repeat (first | refine blk_drewN ?_ _ | refine blk_drew ?_ | refine blk_alloc ?_ _)); exact BK101.out⟩, ⟨by repeat (first | (with_reducible first | exact HB.out | apply below_alloc | apply pw_below_drewN | apply below_drew1 | refine below_set ?_ GE101.out) | exact HB.out)⟩⟩
                      · rw [if_neg c16] at H
                        have c16b0 : decide (0 < (rd l1 x20_1)) = false := decide_eq_false c16
                        clear c16
                        have H' := Aside0.mk H
                        clear H
                        go_wp2
                        go_roundg kj12
                        case measure => have := HK1.out; have := HJ12.out; omega
                        case rel => exact ⟨(x6_1), (wrap64 (x20_1 + 1)), (by first | rfl | (simp; done) | (simp [*]; done)), (by first | rfl | (simp; done) | (simp [*]; done)), H', ⟨by have := HK1.out; have := HJ12.out; omega⟩, ⟨by (with_reducible repeat (first | refine blk_drewN ?_ _ | refine blk_drew ?_ | refine blk_alloc ?_ _)); exact BK101.out⟩, ⟨by repeat (first | (with_reducible first | exact HB.out | apply below_alloc | apply pw_below_drewN | apply below_drew1 | refine below_set ?_ GE101.out) | exact HB.out)⟩⟩
              · rw [if_neg c12] at H
                exact absurd H (by simp)
            · rw [if_neg c11] at H
              exact absurd H (by simp)
          · rw [if_neg c10] at H
            have c10b0 : decide (x20_1 < (l1.length : Int)) = false := decide_eq_false c10
            clear c10
            simp only [Option.some.injEq, Prod.mk.injEq] at H
            obtain ⟨rfl, rfl⟩ := H
            go_wp2
            go_ret2
            exact ⟨by first | rfl | (simp [errW_none, errW_some] <;> rfl) | (simp [*, errW_none, errW_some] <;> rfl), by repeat (first | (with_reducible first | exact HB.out | apply below_alloc | apply pw_below_drewN | apply below_drew1 | refine below_set ?_ GE101.out) | exact HB.out)⟩
    · rw [if_neg c5] at H
      have c5b0 : ((l1.length : Int) == (l0_1.length : Int)) = false := beq_eq_false_iff_ne.mpr c5
      have c5b1 : ((l1.length : Int) != (l0_1.length : Int)) = true := bne_iff_ne.mpr c5
      have c5b2 : (l1.length == l0_1.length) = false := by first | simpa using c5 | (simp at c5 ⊢; omega)
      simp only [Option.some.injEq, Prod.mk.injEq] at H
      obtain ⟨rfl, rfl⟩ := H
      go_enter Try.func25, Try.ntmps25
      go_wp2_with (first | ((with_reducible refine gate_dst (N := 2) rfl ?_); refine box_event ?hg (N := 2) ?hd (cs := #[.int .i64 a0_0, .slice A0_1 l0_1.length c0_1]) (t := 44) ?hr ?_; (case hd => rfl); (case hg => rfl); (case hr => first | (go_simp; done) | (go_simp; rfl)); intro gb101 hg w18 hbox hb; have n0_ := Aside0.mk (below_step (by repeat (first | (with_reducible first | exact HB.out | apply below_alloc | apply pw_below_drewN | apply below_drew1) | exact HB.out)) hb); have n1_ := Aside0.mk (hbox); have n2_ := Aside0.mk ((by rw [hg]; exact (below_size (by repeat (first | (with_reducible first | exact HB.out | apply below_alloc | apply pw_below_drewN | apply below_drew1) | exact HB.out))) : w.heap.size ≤ gb101)); have n3_ := Aside0.mk ((by rw [hg]; exact (below_size (by repeat (first | (with_reducible first | exact HB.out | apply below_alloc | apply pw_below_drewN | apply below_drew1) | exact HB.out))) : w.heap.size ≤ gb101)); clear HB; have HB := n0_; have BK101 := n1_; have GW101 := n2_; have GE101 := n3_; clear n0_ n1_ n2_ n3_; clear hb hbox hg; have hcz19_0 : w18.cell? ⟨gb101, 0, none⟩ = some (.int .i64 a0_0) := (blk_cell BK101.out 0).trans rfl; have hcz19_1 : w18.cell? ⟨gb101, 1, none⟩ = some (.slice A0_1 l0_1.length c0_1) := (blk_cell BK101.out 1).trans rfl; have hfz19_0 := blk_frozen BK101.out 0; have hfz19_1 := blk_frozen BK101.out 1) | ((with_reducible refine gate_callee (f := 19) rfl ?_); refine goesL_ (some 10) rfl rfl Try.func19 (by kernel_rfl) rfl #[.agg #[.int .i64 a0_0, .slice A0_1 l0_1.length c0_1]] rfl (by (try simp only [List.map_toArray, List.map_cons, List.map_nil]); first | done | rfl | (simp only [List.length_drop, List.length_take]; rfl)) ?_; (with_reducible refine (layout_May.calls a0_0 _ _ l0_1 true _ ?side1 ?side2 A3.out).mono ?_); (case side1 => repeat (first | exact (Kd.C_below HR0_1.out HB.out) | (with_reducible refine Kd.C_alloc ?_ _) | (with_reducible refine Kd.C_drewN ?_ _) | (with_reducible refine Kd.C_drew ?_))); (case side2 => exact HC0_1.out); rintro e w20 ⟨rfl, hb⟩; refine ⟨_, rfl, ?_⟩; have n0_ := Aside0.mk (blk_below (g := gb101) (o := .cells #[.int .i64 a0_0, .slice A0_1 l0_1.length c0_1] 44 (0, 0)) (by (with_reducible repeat (first | refine blk_drewN ?_ _ | refine blk_drew ?_ | refine blk_alloc ?_ _)); exact BK101.out) hb); have n1_ := Aside0.mk (below_step (by repeat (first | (with_reducible first | exact HB.out | apply below_alloc | apply pw_below_drewN | apply below_drew1 | refine below_set ?_ GE101.out) | exact HB.out)) hb); clear BK101; clear HB; have BK101 := n0_; have HB := n1_; clear n0_ n1_; (try clear hb); (try clear hb2); (try clear hk); (try clear hi); have hcz21_0 : w20.cell? ⟨gb101, 0, none⟩ = some (.int .i64 a0_0) := (blk_cell BK101.out 0).trans rfl; have hcz21_1 : w20.cell? ⟨gb101, 1, none⟩ = some (.slice A0_1 l0_1.length c0_1) := (blk_cell BK101.out 1).trans rfl; have hfz21_0 := blk_frozen BK101.out 0; have hfz21_1 := blk_frozen BK101.out 1))
      go_ret2
      exact ⟨by first | rfl | (simp [errW_none, errW_some] <;> rfl) | (simp [*, errW_none, errW_some] <;> rfl), by repeat (first | (with_reducible first | exact HB.out | apply below_alloc | apply pw_below_drewN | apply below_drew1 | refine below_set ?_ GE101.out) | exact HB.out)⟩
  · replace c4 := Bool.eq_false_iff.mpr c4
    subst c4
    have H1 : (some (0, 4)) = some (r1, r2) := by rw [if_neg (show ¬ (false = true) by decide)] at H; exact H
    clear H
    have H := H1
    clear H1
    simp only [Option.some.injEq, Prod.mk.injEq] at H
    obtain ⟨rfl, rfl⟩ := H
    go_enter Try.func25, Try.ntmps25
    go_wp2_with (first | ((with_reducible refine gate_dst (N := 2) rfl ?_); refine box_event ?hg (N := 2) ?hd (cs := #[.int .i64 a0_0, .slice A0_1 l0_1.length c0_1]) (t := 44) ?hr ?_; (case hd => rfl); (case hg => rfl); (case hr => first | (go_simp; done) | (go_simp; rfl)); intro gb101 hg w22 hbox hb; have n0_ := Aside0.mk (below_step (by repeat (first | (with_reducible first | exact HB.out | apply below_alloc | apply pw_below_drewN | apply below_drew1) | exact HB.out)) hb); have n1_ := Aside0.mk (hbox); have n2_ := Aside0.mk ((by rw [hg]; exact (below_size (by repeat (first | (with_reducible first | exact HB.out | apply below_alloc | apply pw_below_drewN | apply below_drew1) | exact HB.out))) : w.heap.size ≤ gb101)); have n3_ := Aside0.mk ((by rw [hg]; exact (below_size (by repeat (first | (with_reducible first | exact HB.out | apply below_alloc | apply pw_below_drewN | apply below_drew1) | exact HB.out))) : w.heap.size ≤ gb101)); clear HB; have HB := n0_; have BK101 := n1_; have GW101 := n2_; have GE101 := n3_; clear n0_ n1_ n2_ n3_; clear hb hbox hg; have hcz23_0 : w22.cell? ⟨gb101, 0, none⟩ = some (.int .i64 a0_0) := (blk_cell BK101.out 0).trans rfl; have hcz23_1 : w22.cell? ⟨gb101, 1, none⟩ = some (.slice A0_1 l0_1.length c0_1) := (blk_cell BK101.out 1).trans rfl; have hfz23_0 := blk_frozen BK101.out 0; have hfz23_1 := blk_frozen BK101.out 1) | ((with_reducible refine gate_callee (f := 19) rfl ?_); refine goesL_ (some 10) rfl rfl Try.func19 (by kernel_rfl) rfl #[.agg #[.int .i64 a0_0, .slice A0_1 l0_1.length c0_1]] rfl (by (try simp only [List.map_toArray, List.map_cons, List.map_nil]); first | done | rfl | (simp only [List.length_drop, List.length_take]; rfl)) ?_; (with_reducible refine (layout_May.calls a0_0 _ _ l0_1 false _ ?side1 ?side2 A3.out).mono ?_); (case side1 => repeat (first | exact (Kd.C_below HR0_1.out HB.out) | (with_reducible refine Kd.C_alloc ?_ _) | (with_reducible refine Kd.C_drewN ?_ _) | (with_reducible refine Kd.C_drew ?_))); (case side2 => exact HC0_1.out); rintro e w24 ⟨rfl, hb⟩; refine ⟨_, rfl, ?_⟩; have n0_ := Aside0.mk (blk_below (g := gb101) (o := .cells #[.int .i64 a0_0, .slice A0_1 l0_1.length c0_1] 44 (0, 0)) (by (with_reducible repeat (first | refine blk_drewN ?_ _ | refine blk_drew ?_ | refine blk_alloc ?_ _)); exact BK101.out) hb); have n1_ := Aside0.mk (below_step (by repeat (first | (with_reducible first | exact HB.out | apply below_alloc | apply pw_below_drewN | apply below_drew1 | refine below_set ?_ GE101.out) | exact HB.out)) hb); clear BK101; clear HB; have BK101 := n0_; have HB := n1_; clear n0_ n1_; (try clear hb); (try clear hb2); (try clear hk); (try clear hi)))
    go_ret2
    exact ⟨by first | rfl | (simp [errW_none, errW_some] <;> rfl) | (simp [*, errW_none, errW_some] <;> rfl), by repeat (first | (with_reducible first | exact HB.out | apply below_alloc | apply pw_below_drewN | apply below_drew1 | refine below_set ?_ GE101.out) | exact HB.out)⟩

/-! ### commonholdref_has: function 36 -/
def commonholdref_has.l0 : Nat → Int → List Int → Int → Int → Option (Bool)
  | 0, _, _, _, _ => none
  | k + 1, x1, x7, x8, x9 => if x9 < x8 then (if 0 ≤ x9 then (if x9 < (x7.length : Int) then (if (rd x7 x9) = x1 then (some true) else (commonholdref_has.l0 k x1 x7 x8 (wrap64 (x9 + 1)))) else (none)) else (none)) else (some false)
def commonholdref_has.f (k : Nat) (l0 : List Int) (a1 : Int) : Option (Bool) := commonholdref_has.l0 k a1 l0 (l0.length : Int) 0
theorem commonholdref_has.mono_l : ∀ k, (∀ y0 y1 y2 y3, LeO (commonholdref_has.l0 k y0 y1 y2 y3) (commonholdref_has.l0 (k + 1) y0 y1 y2 y3))
  | 0 => fun _ _ _ _ r h => by simp [commonholdref_has.l0] at h
  | k + 1 => by
    have ih0 := commonholdref_has.mono_l k
    · intro y0 y1 y2 y3
      unfold commonholdref_has.l0
      repeat' first
      | (with_reducible exact ih0 _ _ _ _)
      | (with_reducible exact LeO.refl _)
      | (with_reducible exact LeO.none _)
      | (with_reducible refine LeO.ite ?_ ?_)
      | (with_reducible refine LeO.bind ?_ (fun _ => ?_))
      | exact ih0 _ _ _ _
      | exact LeO.none _
      | refine LeO.ite ?_ ?_
      | refine LeO.bind ?_ (fun _ => ?_)
theorem commonholdref_has.mono : ∀ a0 a1 k, LeO (commonholdref_has.f k a0 a1) (commonholdref_has.f (k + 1) a0 a1) := by
  intro a0 a1 k
  have ih0 := commonholdref_has.mono_l k
  unfold commonholdref_has.f
  repeat' first
      | (with_reducible exact ih0 _ _ _ _)
      | (with_reducible exact LeO.refl _)
      | (with_reducible exact LeO.none _)
      | (with_reducible refine LeO.ite ?_ ?_)
      | (with_reducible refine LeO.bind ?_ (fun _ => ?_))
      | exact ih0 _ _ _ _
      | exact LeO.none _
      | refine LeO.ite ?_ ?_
      | refine LeO.bind ?_ (fun _ => ?_)
set_option maxHeartbeats 8000000 in
set_option maxRecDepth 100000 in
theorem commonholdref_has.calls (k : Nat) (A0 : Option Addr) (c0 : Nat) (l0 : List Int) (a1 : Int) (r : Bool) (w : World) (hr0 : Kd.C (Kd.int .i64) w A0 l0.length l0) (hc0 : l0.length ≤ c0) (h : commonholdref_has.f k l0 a1 = some r) :
    Calls Try.prog 36 #[.slice A0 l0.length c0, .int .i64 a1] w fun e w' => e = .returned (.bool r) ∧ Drawn0 w w' := by
  have HR0 := Aside0.mk hr0
  have HC0 := Aside0.mk hc0
  clear hr0 hc0
  have H : (commonholdref_has.l0 k a1 l0 (l0.length : Int) 0) = some r := h
  clear h
  have H' := Aside0.mk H
  clear H
  go_enter Try.func36, Try.ntmps36
  go_wp2
  go_loopg [9] k (fun kq v9 w' => ∃ (x9_1 : Int), v9 = .int .i64 x9_1 ∧ Aside0 (commonholdref_has.l0 kq a1 l0 (l0.length : Int) x9_1 = some r) ∧ Aside0 (kq ≤ k) ∧ Drawn0 w w')
  case atStart => exact ⟨(0), (by first | rfl | (simp; done) | (simp [*]; done)), H', ⟨Nat.le_refl _⟩, by repeat (first | exact Drawn0.refl _ | apply Drawn0.step)⟩
  case round =>
    clear H'
    try clear p2
    obtain ⟨x9_1, rfl, HA, HK1, ⟨m1, rfl⟩⟩ := hrel
    cases gk with
    | zero => exact absurd HA.out (by simp [commonholdref_has.l0])
    | succ k1 =>
      have H := HA.out
      clear HA
      simp only [commonholdref_has.l0] at H
      by_cases c3 : x9_1 < (l0.length : Int)
      · rw [if_pos c3] at H
        have c3b0 : decide (x9_1 < (l0.length : Int)) = true := decide_eq_true c3
        clear c3
        by_cases c4 : 0 ≤ x9_1
        · rw [if_pos c4] at H
          have c4b0 : decide (0 ≤ x9_1) = true := decide_eq_true c4
          clear c4
          by_cases c5 : x9_1 < (l0.length : Int)
          · rw [if_pos c5] at H
            have c5b0 : decide (x9_1 < (l0.length : Int)) = true := decide_eq_true c5
            clear c5
            by_cases c6 : (rd l0 x9_1) = a1
            · rw [if_pos c6] at H
              have c6b0 : ((rd l0 x9_1) == a1) = true := beq_iff_eq.mpr c6
              have c6b1 : ((rd l0 x9_1) != a1) = false := bne_eq_false_iff_eq.mpr c6
              clear c6
              obtain rfl := Option.some.inj H
              have p104 : 0 ≤ (x9_1 : Int) := of_decide_eq_true (by first | (with_reducible assumption) | assumption)
              have q104 : x9_1 < (l0.length : Int) := of_decide_eq_true (by first | (with_reducible assumption) | assumption)
              obtain ⟨ad104, e104, hx104_0⟩ := Kd.at_int HR0.out x9_1 p104 q104
              cases e104
              replace p104 := eq_true p104
              replace q104 := eq_true q104
              go_wp2
              go_ret
              exact ⟨by first | rfl | (simp; done) | (simp [*]; done), by repeat (first | exact Drawn0.refl _ | apply Drawn0.step)⟩
            · rw [if_neg c6] at H
              have c6b0 : ((rd l0 x9_1) == a1) = false := beq_eq_false_iff_ne.mpr c6
              have c6b1 : ((rd l0 x9_1) != a1) = true := bne_iff_ne.mpr c6
              have H' := Aside0.mk H
              clear H
              have p104 : 0 ≤ (x9_1 : Int) := of_decide_eq_true (by first | (with_reducible assumption) | assumption)
              have q104 : x9_1 < (l0.length : Int) := of_decide_eq_true (by first | (with_reducible assumption) | assumption)
              obtain ⟨ad104, e104, hx104_0⟩ := Kd.at_int HR0.out x9_1 p104 q104
              cases e104
              replace p104 := eq_true p104
              replace q104 := eq_true q104
              go_wp2
              go_roundg k1
              case measure => have := HK1.out; omega
              case rel => exact ⟨(wrap64 (x9_1 + 1)), (by first | rfl | (simp; done) | (simp [*]; done)), H', ⟨by have := HK1.out; omega⟩, by repeat (first | exact Drawn0.refl _ | apply Drawn0.step)⟩
          · rw [if_neg c5] at H
            exact absurd H (by simp)
        · rw [if_neg c4] at H
          exact absurd H (by simp)
      · rw [if_neg c3] at H
        have c3b0 : decide (x9_1 < (l0.length : Int)) = false := decide_eq_false c3
        clear c3
        obtain rfl := Option.some.inj H
        go_wp2
        go_ret
        exact ⟨by first | rfl | (simp; done) | (simp [*]; done), by repeat (first | exact Drawn0.refl _ | apply Drawn0.step)⟩

end Go.Proofs.Ytaadljjfckhinab.PLayoutTails
