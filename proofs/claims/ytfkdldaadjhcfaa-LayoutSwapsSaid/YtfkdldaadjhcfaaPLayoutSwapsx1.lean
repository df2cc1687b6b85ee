-- Written by wip/pp of this repo (over the kit's print, with additions of this session); Lean checks every line.
import Derived.Test.YtfkdldaadjhcfaaPLayoutSwapsx0
namespace Go.Proofs.Ytfkdldaadjhcfaa.PLayoutSwaps
open Go.RowKit Go.Proofs.YtfkdldaadjhcfaaW.PrintWords Go.Proofs.YtfkdldaadjhcfaaW.PrintLast Go.Proofs.YtfkdldaadjhcfaaW.PrintMore
attribute [local go_sem] max2_int min2_int max_two min_two max_three min_three max_four min_four   -- for this text's walks alone
set_option linter.unusedVariables false
set_option linter.unusedSimpArgs false

-- NOT PRINTED: function 53 (layout_units)

/-! ### layout_May: function 51, by hand -/
-- HAND rounds=0 making=1 imports=Derived.RangeFuncNested,Derived.RangeFuncBound,Derived.RangeFuncCalls,Derived.RangeFuncLeaves,Derived.Shelf.Abstract,Derived.Shelf.RegionOpen,Derived.OwnWalkIn,Derived.TacticsInMore,Derived.LoopNIn,Derived.LoopIn,Derived.RangeFuncBox,Derived.RangeFuncWrites
-- INFO 3
def layout_May.bad (seen : Nat) (u : Int) : Bool := decide (u < 0) || (decide (6 ≤ u) || decide (seen / 2 ^ u.toNat % 2 = 1))
def layout_May.run : Nat → List Int → Bool
  | _, [] => true
  | seen, u :: r => if layout_May.bad seen u = true then false else layout_May.run (seen ||| 2 ^ u.toNat) r
def layout_May.lens (l : List (List Int)) : Bool := l.all fun c => decide (1 ≤ c.length) && decide (c.length ≤ 3)
def layout_May.f (a0_0 : Int) (l0_1 : List (List Int)) : Option (Bool) := some (decide (0 ≤ a0_0) && (decide (a0_0 ≤ 1000000) && (decide (1 ≤ l0_1.length) && (decide (l0_1.length ≤ 6) && (layout_May.lens l0_1 && layout_May.run 0 l0_1.flatten)))))
/-- A list of lists of numbers lies in the world, in blocks below n₀. -/
def layout_May.Lies (n₀ : Nat) (W : World) (A : Option Addr) (l : List (List Int)) : Prop :=
  l.length ≤ 6 ∧ ∀ i, i < l.length → ∃ (ad : Addr) (Ai : Option Addr) (ci : Nat), A = some ad ∧ ad.block < n₀ ∧ W.cell? (ad.add i) = some (.slice Ai (l[i]?.getD []).length ci) ∧ (l[i]?.getD []).length ≤ 3 ∧
    ∀ j, j < (l[i]?.getD []).length → ∃ ai : Addr, Ai = some ai ∧ ai.block < n₀ ∧ W.cell? (ai.add j) = some (.int .i64 ((l[i]?.getD [])[j]?.getD 0))
theorem layout_May.blk (a : Addr) (k : Nat) : (a.add k).block = a.block := by unfold Addr.add; split <;> rfl
theorem layout_May.flat_at (l : List (List Int)) (k j : Nat) (hk : k < l.length) (hj : j < (l[k]?.getD []).length) :
    (l.take k).flatten ++ ((l[k]?.getD []).take j ++ [(l[k]?.getD [])[j]?.getD 0]) <+: l.flatten ∧ ((l.take k).flatten ++ (l[k]?.getD []).take j).length < l.flatten.length := by
  have e : l = l.take k ++ l[k] :: l.drop (k + 1) := by rw [← List.drop_eq_getElem_cons hk, List.take_append_drop]
  have ek : l[k]?.getD [] = l[k] := by simp [hk]
  rw [ek] at hj ⊢
  have ej : l[k][j]?.getD 0 = l[k][j] := by simp [hj]
  rw [ej]
  have ef : l.flatten = (l.take k).flatten ++ (l[k] ++ (l.drop (k + 1)).flatten) := by
    conv => lhs; rw [e]
    rw [List.flatten_append, List.flatten_cons]
  have e2 : l[k].take j ++ [l[k][j]] = l[k].take (j + 1) := (List.take_succ_eq_append_getElem hj).symm
  rw [ef, e2]
  refine ⟨?_, by simp; omega⟩
  rw [List.prefix_append_right_inj]
  exact (List.take_prefix _ _).trans (List.prefix_append _ _)
theorem layout_May.flat_succ (l : List (List Int)) (k : Nat) (hk : k < l.length) : (l.take (k + 1)).flatten = (l.take k).flatten ++ l[k]?.getD [] := by
  rw [List.take_succ_eq_append_getElem hk, List.flatten_append]
  simp [hk]
section layout_May_hand
open Go.Shelf
attribute [local go_sem] Oper.semAt_some
set_option maxRecDepth 100000 in
set_option maxHeartbeats 2000000 in
theorem layout_May.iter (F : Fence) (n : Nat) (hf : F.fn 90) (hro : F.round = none) (hn : 1 ≤ n) (lb Bs n₀ : Nat) (ep : Int) (A : Option Addr) (cap : Nat) (l : List (List Int)) (J Jx : List Int → World → Prop)
    (hY : ∀ pre x W, J pre W → pre.length < l.flatten.length → YieldAt F (n - 1) Try.prog lb #[.int .i64 x] W fun e W' =>
      (e = .returned (.bool true) ∧ J (pre ++ [x]) W' ∧ Below n₀ W W') ∨ (e = .returned (.bool false) ∧ Jx (pre ++ [x]) W'))
    (W : World) (hBs : W.cell? ⟨Bs, 1, none⟩ = some (.slice A l.length cap)) (hl : layout_May.Lies n₀ W A l) (h0 : J [] W) :
    CallsIn F n Try.prog 90 #[.func (.yield lb) #[] #[], .pointer (some ⟨Bs, 0, none⟩)] W fun e W' => (∃ v, e = .returned v) ∧
      ((∃ ys, ys = l.flatten ∧ J ys W') ∨ (∃ pre, pre <+: l.flatten ∧ Jx pre W')) := by
  have hl6 := hl.1
  refine callsIn_of_wp Try.func90 rfl hf ?_ hro
  simp only [Try.ntmps90, List.size_toArray, List.length_cons, List.length_nil, Nat.reduceAdd, Nat.reduceSub, Array.replicate_succ, Array.replicate_zero, List.push_toArray, List.append_toArray, List.nil_append, List.cons_append]
  gi_wp2
  gi_loopw [10] (fun i wr => ∃ k : Nat, k ≤ l.length ∧ i = .int .i64 k ∧ Hid (J (l.take k).flatten wr) ∧ Below n₀ W wr)
    (fun i _ => l.length - (intOf i).toNat)
  case atStart => exact ⟨0, Nat.zero_le _, rfl, Lib.hid h0, Below.refl _ _⟩
  case round =>
    obtain ⟨k, hk, rfl, hJs, hnx⟩ := hrel
    by_cases hlt : k < l.length
    · obtain ⟨ad, Ai, ci, rfl, hab, hce, hc3, hin⟩ := hl.2 k hlt
      have hce' : wr.cell? (ad.add k) = some (.slice Ai (l[k]?.getD []).length ci) := (hnx.cell (p := ad.add k) (by rw [layout_May.blk]; exact hab)).trans hce
      have hBs' : wr.cell? ⟨Bs, 1, none⟩ = some (.slice (some ad) l.length cap) ∨ True := .inr trivial
      clear hce hBs'
      have hfl : ∀ j, j < (l[k]?.getD []).length → _ := fun j hj => layout_May.flat_at l k j hlt hj
      have HFL := Lib.hid hfl
      have HFS := Lib.hid (layout_May.flat_succ l k hlt)
      clear hfl
      generalize hc : l[k]?.getD [] = c at *
      have HC := Lib.hid hc
      clear hc
      have HIN := Lib.hid hin
      clear hin
      gi_wp2
      obtain ⟨wo, rfl⟩ : ∃ wo : World, wo = wr := ⟨_, rfl⟩
      gi_loopw [16] (fun i wr => ∃ j : Nat, j ≤ c.length ∧ i = .int .i64 j ∧ Hid (J ((l.take k).flatten ++ c.take j) wr) ∧ Below n₀ W wr)
        (fun i _ => c.length - (intOf i).toNat)
      case atStart => exact ⟨0, Nat.zero_le _, rfl, by simpa using hJs, hnx⟩
      case round =>
        obtain ⟨j, hj, rfl, hJj, hnj⟩ := hrel
        by_cases hjl : j < c.length
        · obtain ⟨ai, rfl, hai, hci⟩ := HIN.out j hjl
          have hcx : wr.cell? (ai.add j) = some (.int .i64 (c[j]?.getD 0)) := (hnj.cell (p := ai.add j) (by rw [layout_May.blk]; exact hai)).trans hci
          clear hci
          obtain ⟨fn, tmps, assign, body, hy, hR⟩ := hY _ (c[j]?.getD 0) wr hJj.out (HFL.out j hjl).2
          generalize hx : c[j]?.getD 0 = x at *
          have HX := Lib.hid hx
          clear hx
          gi_wp2
          refine hR.mono ?_
          rintro e W3 (⟨rfl, hJ3, hk3⟩ | ⟨rfl, hJx3⟩)
          · have hJ3 := Lib.hid hJ3
            gi_wp2
            go_roundw
            case rel =>
              refine ⟨j + 1, by omega, by go_num, ?_, hnj.trans hk3⟩
              have e : c.take (j + 1) = c.take j ++ [x] := by
                rw [List.take_succ_eq_append_getElem hjl, ← HX.out]; simp [hjl]
              rw [e, ← List.append_assoc]
              exact hJ3
            case measure => simp [intOf]; omega
          · have hJx3 := Lib.hid hJx3
            gi_wp2
            refine bodyPost_ret (results_none rfl _ _ _) rfl ?_
            have hp := (HFL.out j hjl).1
            rw [HX.out, ← List.append_assoc] at hp
            exact ⟨⟨_, rfl⟩, .inr ⟨_, hp, hJx3.out⟩⟩
        · have hjc : j = c.length := by omega
          subst hjc
          gi_wp2
          go_roundw
          case rel =>
            refine ⟨k + 1, by omega, by go_num, ?_, hnj⟩
            rw [HFS.out]
            rw [List.take_length] at hJj
            exact hJj
          case measure => simp [intOf]; omega
    · have hkl : k = l.length := by omega
      subst hkl
      gi_wp2
      go_end0
      exact ⟨⟨_, rfl⟩, .inl ⟨_, rfl, by simpa using hJs.out⟩⟩
theorem layout_May.Lies.below {n₀ : Nat} {W W' : World} {A : Option Addr} {l : List (List Int)} (h : layout_May.Lies n₀ W A l) (hb : Below n₀ W W') : layout_May.Lies n₀ W' A l := by
  refine ⟨h.1, fun i hi => ?_⟩
  obtain ⟨ad, Ai, ci, e, hab, hce, hc3, hin⟩ := h.2 i hi
  refine ⟨ad, Ai, ci, e, hab, (hb.cell (p := ad.add i) (by rw [layout_May.blk]; exact hab)).trans hce, hc3, fun j hj => ?_⟩
  obtain ⟨ai, e2, hai, hci⟩ := hin j hj
  exact ⟨ai, e2, hai, (hb.cell (p := ai.add j) (by rw [layout_May.blk]; exact hai)).trans hci⟩
theorem layout_May.stops (F : Fence) (n : Nat) (hf : F.fn 90) (hro : F.round = none) (hn : 1 ≤ n) (Bs n₀ : Nat) (A : Option Addr) (cap : Nat) (l : List (List Int)) (w : World) (hBs : Bs < w.heap.size) (hn₀ : n₀ ≤ w.heap.size)
    (hc : w.cell? ⟨Bs, 1, none⟩ = some (.slice A l.length cap)) (hI : layout_May.Lies n₀ w A l) :
    SeqStopsK F n Try.prog 90 #[.pointer (some ⟨Bs, 0, none⟩)] (fun x : Int => #[Value.int .i64 x]) (Below n₀) (fun ys => ys = l.flatten) (fun pre => pre <+: l.flatten) l.flatten.length w := fun lb J Jx W hW _ _ hY h0 => by
  have hc' := (hW.cell (p := ⟨Bs, 1, none⟩) hBs).trans hc
  exact layout_May.iter F n hf hro hn lb Bs n₀ 0 A cap l J Jx hY W hc' (hI.below (hW.mono hn₀)) h0
set_option maxHeartbeats 1000000 in
theorem layout_May.units (F : Fence) (n : Nat) (hf : F.fn 53) (hro : F.round = none) (ep : Int) (A : Option Addr) (len cap : Nat) (w : World) :
    CallsIn F n Try.prog 53 #[.agg #[.int .i64 ep, .slice A len cap]] w fun e w' => e = .returned (.func (.func 90) #[] #[.pointer (some ⟨w.heap.size, 0, none⟩)]) ∧ w' = w.alloc (.cells #[.int .i64 ep, .slice A len cap] 43) := by
  refine callsIn_of_wp Try.func53 rfl hf ?_ hro
  simp only [Try.ntmps53, List.size_toArray, List.length_cons, List.length_nil, Nat.reduceAdd, Nat.reduceSub, Array.replicate_succ, Array.replicate_zero, List.push_toArray, List.append_toArray, List.nil_append, List.cons_append]
  gi_wp2
  go_ret
  exact ⟨rfl, rfl⟩
theorem layout_May.row {w : World} {A : Option Addr} {l : List (List Int)} (hr : Kd.C (Kd.slice 3 (Kd.int .i64)) w A l.length l) (i : Nat) (hi : i < l.length) :
    ∃ (ad : Addr) (Ai : Option Addr) (ci : Nat), A = some ad ∧ ad.block < w.heap.size ∧ w.cell? (ad.add i) = some (.slice Ai (l[i]?.getD []).length ci) ∧ (l[i]?.getD []).length ≤ 9223372036854775807 ∧
      ∀ j, j < (l[i]?.getD []).length → ∃ ai : Addr, Ai = some ai ∧ ai.block < w.heap.size ∧ w.cell? (ai.add j) = some (.int .i64 ((l[i]?.getD [])[j]?.getD 0)) := by
  obtain ⟨ad, c, e, _, hK, hc⟩ := Kd.C_get hr ([] : List Int) (i : Int) (by omega) (by omega)
  obtain ⟨Ai, ci, rfl, hci, hin⟩ := hK
  have h0 := hc 0 _ rfl
  have e1 : l.getD ((i : Int)).toNat [] = l[i]?.getD [] := by simp
  rw [e1] at h0 hin hci
  have e2 : ad.add (((i : Int)).toNat * (Kd.slice 3 (Kd.int .i64)).sz + 0) = ad.add i := by
    show ad.add (((i : Int)).toNat * 1 + 0) = _
    simp
  rw [e2] at h0
  refine ⟨ad, Ai, ci, e, ?_, h0, hin.2.1, fun j hj => ?_⟩
  · have := World.block_lt_of_cell? w _ h0
    rwa [layout_May.blk] at this
  · obtain ⟨ai, e3, h3⟩ := Kd.at_int hin (j : Int) (by omega) (by omega)
    have e4 : rd (l[i]?.getD []) (j : Int) = (l[i]?.getD [])[j]?.getD 0 := by simp [rd]
    rw [e4] at h3
    have h3' : w.cell? (ai.add j) = some (.int .i64 ((l[i]?.getD [])[j]?.getD 0)) := by simpa using h3
    refine ⟨ai, e3, ?_, h3'⟩
    have := World.block_lt_of_cell? w _ h3'
    rwa [layout_May.blk] at this
theorem layout_May.lies {w : World} {A : Option Addr} {l : List (List Int)} (hr : Kd.C (Kd.slice 3 (Kd.int .i64)) w A l.length l) (h6 : l.length ≤ 6) (h3 : layout_May.lens l = true) : layout_May.Lies w.heap.size w A l := by
  refine ⟨h6, fun i hi => ?_⟩
  obtain ⟨ad, Ai, ci, e, hab, hce, _, hin⟩ := layout_May.row hr i hi
  refine ⟨ad, Ai, ci, e, hab, hce, ?_, hin⟩
  have := List.all_eq_true.1 h3 l[i] (List.getElem_mem hi)
  simp [hi] at this ⊢
  omega
theorem layout_May.lens_at {l : List (List Int)} (k : Nat) (hk : k < l.length) (h : (l[k]?.getD []).length < 1 ∨ 3 < (l[k]?.getD []).length) : layout_May.lens l = false := by
  have e : l[k]?.getD [] = l[k] := by simp [hk]
  rw [e] at h
  unfold layout_May.lens
  rw [List.all_eq_false]
  exact ⟨l[k], List.getElem_mem hk, by simp; omega⟩
theorem layout_May.lens_of {l : List (List Int)} (h : ∀ k, k < l.length → 1 ≤ (l[k]?.getD []).length ∧ (l[k]?.getD []).length ≤ 3) : layout_May.lens l = true := by
  unfold layout_May.lens
  rw [List.all_eq_true]
  intro x hx
  obtain ⟨k, hk, rfl⟩ := List.getElem_of_mem hx
  have := h k hk
  simp [hk] at this
  simp
  exact this
theorem layout_May.bit_and_n : ∀ s : Nat, s < 64 → ∀ k : Nat, k < 6 → (bits BinOp.and IntKind.i64 ((s : Int) / 2 ^ k) 1 == 1) = decide (s / 2 ^ k % 2 = 1) := by decide
theorem layout_May.bit_and (s : Nat) (x : Int) (hs : s < 64) (h0 : 0 ≤ x) (h6 : x < 6) : (bits BinOp.and IntKind.i64 ((s : Int) / 2 ^ x.toNat) 1 == 1) = decide (s / 2 ^ x.toNat % 2 = 1) := layout_May.bit_and_n s hs x.toNat (by omega)
theorem layout_May.bit_or_n : ∀ s : Nat, s < 64 → ∀ k : Nat, k < 6 → bits BinOp.or IntKind.i64 (s : Int) (IntKind.i64.wrap (2 ^ k)) = ((s ||| 2 ^ k : Nat) : Int) ∧ (s ||| 2 ^ k) < 64 := by decide
set_option maxRecDepth 100000 in
set_option maxHeartbeats 2000000 in
theorem layout_May.may_in (F : Fence) (n : Nat) (hf : F.fn 51) (hf2 : F.fn 53) (hf3 : F.fn 90) (hro : F.round = none) (hn : 3 ≤ n) (ep : Int) (A : Option Addr) (cap : Nat) (l : List (List Int)) (w : World)
    (hr : Kd.C (Kd.slice 3 (Kd.int .i64)) w A l.length l) (r : Bool) (hs : Hid (layout_May.f ep l = some r)) :
    CallsIn F n Try.prog 51 #[.agg #[.int .i64 ep, .slice A l.length cap]] w fun e w' => e = .returned (.bool r) ∧ Below w.heap.size w w' := by
  have HR := Aside0.mk hr
  have hm := hr.2.1
  clear hr
  have hc0 : ((w.alloc (.cells #[.int .i64 ep, .slice A l.length cap] 43)).alloc (.cells #[.bool false] 4)).cell? ⟨w.heap.size + 1, 0, none⟩ = some (.bool false) := by simp [go_sem]
  by_cases h1 : ep < 0
  · refine callsIn_of_wp_marks Try.func51 rfl hf ?_ hro
    simp only [Try.ntmps51, List.size_toArray, List.length_cons, List.length_nil, Nat.reduceAdd, Nat.reduceSub, Array.replicate_succ, Array.replicate_zero, List.push_toArray, List.append_toArray, List.nil_append, List.cons_append]
    gi_wp2
    have hb : r = false := by
      have := Option.some.inj hs.out
      rw [← this, decide_eq_false (show ¬ (0 ≤ ep) by omega)]; simp
    subst hb
    exact ⟨.bool false, by simp [results, Try.f51, go_sem], rfl, below_alloc (below_alloc (Below.refl _ _) _) _⟩
  by_cases h2 : 1000000 < ep
  · refine callsIn_of_wp_marks Try.func51 rfl hf ?_ hro
    simp only [Try.ntmps51, List.size_toArray, List.length_cons, List.length_nil, Nat.reduceAdd, Nat.reduceSub, Array.replicate_succ, Array.replicate_zero, List.push_toArray, List.append_toArray, List.nil_append, List.cons_append]
    gi_wp2
    have hb : r = false := by
      have := Option.some.inj hs.out
      rw [← this, decide_eq_false (show ¬ (ep ≤ 1000000) by omega)]; simp
    subst hb
    exact ⟨.bool false, by simp [results, Try.f51, go_sem], rfl, below_alloc (below_alloc (Below.refl _ _) _) _⟩
  by_cases h3 : l.length < 1
  · refine callsIn_of_wp_marks Try.func51 rfl hf ?_ hro
    simp only [Try.ntmps51, List.size_toArray, List.length_cons, List.length_nil, Nat.reduceAdd, Nat.reduceSub, Array.replicate_succ, Array.replicate_zero, List.push_toArray, List.append_toArray, List.nil_append, List.cons_append]
    gi_wp2
    have hb : r = false := by
      have := Option.some.inj hs.out
      rw [← this, decide_eq_false (show ¬ (1 ≤ l.length) by omega)]; simp
    subst hb
    exact ⟨.bool false, by simp [results, Try.f51, go_sem], rfl, below_alloc (below_alloc (Below.refl _ _) _) _⟩
  by_cases h4 : 6 < l.length
  · refine callsIn_of_wp_marks Try.func51 rfl hf ?_ hro
    simp only [Try.ntmps51, List.size_toArray, List.length_cons, List.length_nil, Nat.reduceAdd, Nat.reduceSub, Array.replicate_succ, Array.replicate_zero, List.push_toArray, List.append_toArray, List.nil_append, List.cons_append]
    gi_wp2
    have hb : r = false := by
      have := Option.some.inj hs.out
      rw [← this, decide_eq_false (show ¬ (l.length ≤ 6) by omega)]; simp
    subst hb
    exact ⟨.bool false, by simp [results, Try.f51, go_sem], rfl, below_alloc (below_alloc (Below.refl _ _) _) _⟩
  refine callsIn_of_wp_marks Try.func51 rfl hf ?_ hro
  simp only [Try.ntmps51, List.size_toArray, List.length_cons, List.length_nil, Nat.reduceAdd, Nat.reduceSub, Array.replicate_succ, Array.replicate_zero, List.push_toArray, List.append_toArray, List.nil_append, List.cons_append]
  gi_wp2
  gi_loopw [30] (fun i wr => ∃ k : Nat, k ≤ l.length ∧ i = .int .i64 k ∧ Hid (∀ j, j < k → 1 ≤ (l[j]?.getD []).length ∧ (l[j]?.getD []).length ≤ 3) ∧ wr = (w.alloc (.cells #[.int .i64 ep, .slice A l.length cap] 43)).alloc (.cells #[.bool false] 4))
    (fun i _ => l.length - (intOf i).toNat)
  case atStart => exact ⟨0, Nat.zero_le _, rfl, Lib.hid (fun j hj => by omega), rfl⟩
  case round =>
    obtain ⟨k, hk, rfl, hJ, rfl⟩ := hrel
    by_cases hlt : k < l.length
    · obtain ⟨ad, Ai, ci, rfl, hab, hce, hcm, _⟩ := layout_May.row HR.out k hlt
      have hce' : ((w.alloc (.cells #[.int .i64 ep, .slice (some ad) l.length cap] 43)).alloc (.cells #[.bool false] 4)).cell? (ad.add k) = some (.slice Ai (l[k]?.getD []).length ci) :=
        pw_cell_below (below_alloc (below_alloc (Below.refl _ _) _) _) hce
      clear hce
      have hbad := fun h => Lib.hid (layout_May.lens_at k hlt h)
      have HB := Lib.hid hbad
      clear hbad
      generalize hc : l[k]?.getD [] = c at *
      have HC := Lib.hid hc
      clear hc
      by_cases q1 : c.length < 1
      · gi_wp2
        have hb : r = false := by
          have := Option.some.inj hs.out
          rw [← this, (HB.out (.inl q1)).out]; simp
        subst hb
        exact ⟨.bool false, by simp [results, Try.f51, go_sem], rfl, below_alloc (below_alloc (Below.refl _ _) _) _⟩
      · by_cases q2 : 3 < c.length
        · gi_wp2
          have hb : r = false := by
            have := Option.some.inj hs.out
            rw [← this, (HB.out (.inr q2)).out]; simp
          subst hb
          exact ⟨.bool false, by simp [results, Try.f51, go_sem], rfl, below_alloc (below_alloc (Below.refl _ _) _) _⟩
        · gi_wp2
          go_roundw
          case rel =>
            refine ⟨k + 1, by omega, by go_num, Lib.hid (fun j hj => ?_), trivial⟩
            by_cases hjk : j = k
            · subst hjk
              rw [HC.out]
              omega
            · exact hJ.out j (by omega)
          case measure => simp [intOf]; omega
    · have hkl : k = l.length := by omega
      subst hkl
      have hlens := Lib.hid (layout_May.lens_of hJ.out)
      have hlies := Lib.hid (layout_May.lies HR.out (by omega) hlens.out)
      have h1n : 1 ≤ n := by omega
      gi_wp2_with (gi_at_call 53; refine (layout_May.units F (n - 1) hf2 hro _ _ _ _ _).mono ?_; rintro e w' ⟨rfl, rfl⟩)
      have hB0 : Below w.heap.size w ((((w.alloc (.cells #[.int .i64 ep, .slice A l.length cap] 43)).alloc (.cells #[.bool false] 4)).alloc (.cells #[.int .i64 0] 3)).alloc (.cells #[.int .i64 ep, .slice A l.length cap] 43)) :=
        below_alloc (below_alloc (below_alloc (below_alloc (Below.refl _ _) _) _) _) _
      refine wpIn_rangeFunc_ownG hro h1n (gf := 90) (lb := #[.pointer (some ⟨w.heap.size + 1 + 1 + 1, 0, none⟩)]) rfl hf3 (enters_of Try.func90 (by kernel_rfl) rfl)
        (layout_May.stops F (n - 1) hf3 hro (by omega) (w.heap.size + 1 + 1 + 1) w.heap.size A cap l _ (by simp) (by simp; omega) (by simp [go_sem]) (hlies.out.below hB0)) belowK_t (belowK_b (by simp; omega)) (Below.refl _ _) (fun _ => rfl)
        (fun pre W => (∃ s : Nat, Hid (s < 64 ∧ ∀ r, layout_May.run 0 (pre ++ r) = layout_May.run s r) ∧ W.cell? ⟨w.heap.size + 1 + 1, 0, none⟩ = some (.int .i64 s) ∧ W.frozen? ⟨w.heap.size + 1 + 1, 0, none⟩ = false ∧ W.cell? ⟨w.heap.size + 1, 0, none⟩ = some (.bool false) ∧ W.frozen? ⟨w.heap.size + 1, 0, none⟩ = false) ∧ Below w.heap.size w W)
        (fun c pre W => (c = .ret ∧ Hid (∀ r, layout_May.run 0 (pre ++ r) = false) ∧ W.cell? ⟨w.heap.size + 1, 0, none⟩ = some (.bool false)) ∧ Below w.heap.size w W)
        (OwnFrom.and (Own.from (fun s A B row hs hg hr => by obtain ⟨q, h0, h1, h2, h3, h4⟩ := hs; exact ⟨q, h0, cell_kept h1 hg hr, (frozen_kept h1 hg hr).trans h2, cell_kept h3 hg hr, (frozen_kept h3 hg hr).trans h4⟩) _) (ownFrom_below (Nat.le_refl _) (by simp; omega)))
        (fun c => OwnFrom.and (Own.from (fun s A B row hs hg hr => by obtain ⟨hc, e1, e2⟩ := hs; exact ⟨hc, e1, cell_kept e2 hg hr⟩) _) (ownFrom_below (Nat.le_refl _) (by simp; omega)))
        ⟨⟨0, Lib.hid ⟨by omega, fun r => rfl⟩, by simp [go_sem], by simp [go_sem], by simp [go_sem], by simp [go_sem]⟩, hB0⟩
        ?a1 ?assign ?body ?done ?stop
      case assign =>
        intro l x W K hK
        gi_wp2
        exact hK
      case body =>
        rintro lp pre x W ⟨⟨s, hs0, hcs, hfs, hcr, hfr⟩, hB⟩ _
        by_cases q1 : x < 0
        · gi_wp2
          exact ⟨(KeepsOthers.setCell _ _ _).from _, ⟨rfl, Lib.hid (fun r => by rw [List.append_assoc, hs0.out.2]; simp [layout_May.run, layout_May.bad, q1]), World.cell?_setCell_same' _ _ _ (by rw [hcr]; rfl)⟩, hB.setCell (p := ⟨w.heap.size + 1, 0, none⟩) (by simp) _⟩
        by_cases q2 : 6 ≤ x
        · gi_wp2
          exact ⟨(KeepsOthers.setCell _ _ _).from _, ⟨rfl, Lib.hid (fun r => by rw [List.append_assoc, hs0.out.2]; simp [layout_May.run, layout_May.bad, q2]), World.cell?_setCell_same' _ _ _ (by rw [hcr]; rfl)⟩, hB.setCell (p := ⟨w.heap.size + 1, 0, none⟩) (by simp) _⟩
        gi_wp2
        · have hq : (bits BinOp.and IntKind.i64 ((s : Int) / 2 ^ x.toNat) 1 == 1) = true := by assumption
          rw [layout_May.bit_and s x hs0.out.1 (by omega) (by omega)] at hq
          exact ⟨(KeepsOthers.setCell _ _ _).from _, ⟨rfl, Lib.hid (fun r => by rw [List.append_assoc, hs0.out.2]; simp [layout_May.run, layout_May.bad, of_decide_eq_true hq]), World.cell?_setCell_same' _ _ _ (by rw [hcr]; rfl)⟩, hB.setCell (p := ⟨w.heap.size + 1, 0, none⟩) (by simp) _⟩
        · have hq : (bits BinOp.and IntKind.i64 ((s : Int) / 2 ^ x.toNat) 1 == 1) = false := by assumption
          rw [layout_May.bit_and s x hs0.out.1 (by omega) (by omega)] at hq
          have ho := layout_May.bit_or_n s hs0.out.1 x.toNat (by omega)
          gi_region
          all_goals
            refine ⟨((KeepsOthers.setCell _ _ _).trans (KeepsOthers.drew _)).from _, (Below.setCell (p := ⟨w.heap.size + 1 + 1, 0, none⟩) (Below.refl _ _) (by simp; omega) _).drew, ⟨s ||| 2 ^ x.toNat, Lib.hid ⟨ho.2, fun r => by rw [List.append_assoc, hs0.out.2]; simp [layout_May.run, layout_May.bad, q1, q2, of_decide_eq_false hq]⟩, ?_, ?_, ?_, ?_⟩, (hB.setCell (p := ⟨w.heap.size + 1 + 1, 0, none⟩) (by simp; omega) _).drew⟩
            · exact (World.cell?_setCell_same' _ _ _ (by rw [hcs]; rfl))
            · exact (World.frozen?_setCell W _ _ _).trans hfs
            · exact (World.cell?_setCell_other W _ _ _ (fun h => by have := congrArg Addr.block h; simp at this)).trans hcr
            · exact (World.frozen?_setCell W _ _ _).trans hfr
      case done =>
        rintro D ys W hD rfl ⟨⟨s, hs0, hcs, hfs, hcr, hfr⟩, hB⟩ hK
        gi_wp2
        have hK' := (KeepsOthers.setCell W ⟨w.heap.size + 1, 0, none⟩ (.bool true)).same D _ hK rfl
        refine ⟨by simp, .inl ⟨_, _, rfl, run_takeDeferred hK', ?_⟩⟩
        have hc5 := cell_kept (World.cell?_setCell_same' W ⟨w.heap.size + 1, 0, none⟩ (.bool true) (by rw [hcr]; rfl)) (grownBy_putObj' _ D (.deferred none)) (fun r e => by cases e; exact ⟨_, hK', rfl⟩)
        have hb : r = true := by
          have := Option.some.inj hs.out
          have e := hs0.out.2 []
          rw [List.append_nil] at e
          rw [← this, e, hlens.out, decide_eq_true (show 0 ≤ ep by omega), decide_eq_true (show ep ≤ 1000000 by omega), decide_eq_true (show 1 ≤ l.length by omega), decide_eq_true (show l.length ≤ 6 by omega)]; rfl
        subst hb
        refine ⟨.bool true, ?_, rfl, (hB.setCell (p := ⟨w.heap.size + 1, 0, none⟩) (by simp) _).trans (belowK_b (w := w) (Nat.le_refl _) _ D _ _ (by simp at hD; omega) hK' rfl rfl)⟩
        simp [results, Try.f51, go_sem, hc5]
      case stop =>
        rintro D c pre W hD ⟨rest, hrest⟩ ⟨⟨rfl, hbad, hcr⟩, hB⟩ hK
        gi_wp2
        refine ⟨by simp, .inl ⟨_, _, rfl, run_takeDeferred hK, ?_⟩⟩
        have hc5 := cell_kept hcr (grownBy_putObj' _ D (.deferred none)) (fun r e => by cases e; exact ⟨_, hK, rfl⟩)
        have hb : r = false := by
          have := Option.some.inj hs.out
          have e := hbad.out rest
          rw [hrest] at e
          rw [← this, e]; simp
        subst hb
        refine ⟨.bool false, ?_, rfl, hB.trans (belowK_b (w := w) (Nat.le_refl _) W D _ _ (by simp at hD; omega) hK rfl rfl)⟩
        simp [results, Try.f51, go_sem, hc5]
theorem layout_May.calls (a0_0 : Int) (A0_1 : Option Addr) (c0_1 : Nat) (l0_1 : List (List Int)) (r : Bool) (w : World) (hr0_1 : Kd.C (Kd.slice 3 (Kd.int .i64)) w A0_1 l0_1.length l0_1) (hc0_1 : l0_1.length ≤ c0_1) (h : layout_May.f a0_0 l0_1 = some r) :
    Calls Try.prog 51 #[.agg #[.int .i64 a0_0, .slice A0_1 l0_1.length c0_1]] w fun e w' => e = .returned (.bool r) ∧ Below w.heap.size w w' :=
  callsIn_wide.1 (layout_May.may_in Fence.wide 3 trivial trivial trivial rfl (by omega) a0_0 A0_1 c0_1 l0_1 w hr0_1 r (Lib.hid h))
end layout_May_hand

-- NOT PRINTED: function 89 (slices_AppendSeq_int_int)

/-! ### slices_Collect_int: function 52, by hand -/
-- HAND rounds=0 making=1 ptype=0:43 after=51 imports=Derived.Lib.SliceRun,Derived.RangeFuncNested,Derived.RangeFuncBound,Derived.RangeFuncCalls,Derived.RangeFuncLeaves,Derived.Shelf.Abstract,Derived.Shelf.RegionOpen,Derived.OwnWalkIn,Derived.TacticsInMore,Derived.LoopNIn,Derived.LoopIn,Derived.RangeFuncBox,Derived.RangeFuncWrites,Derived.Maps.AppendAt
-- INFO 3
/-- The lists, one behind the other. -/
def slices_Collect_int.f (_ : Int) (l0_1 : List (List Int)) : Option (List Int) := if l0_1.length ≤ 6 ∧ layout_May.lens l0_1 = true then some l0_1.flatten else none
section slices_Collect_int_hand
open Go.Shelf
attribute [local go_sem] Oper.semAt_some
set_option maxRecDepth 100000 in
set_option maxHeartbeats 2000000 in
theorem slices_Collect_int.append_in (F : Fence) (n : Nat) (hf : F.fn 89) (hf3 : F.fn 90) (hro : F.round = none) (hn : 3 ≤ n) (B : Nat) (A : Option Addr) (cap : Nat) (l : List (List Int)) (w : World)
    (hB : B < w.heap.size) (hc : w.cell? ⟨B, 1, none⟩ = some (.slice A l.length cap)) (hI : layout_May.Lies w.heap.size w A l) (h18 : l.flatten.length ≤ 18) :
    CallsIn F n Try.prog 89 #[.slice none 0 0, .func (.func 90) #[] #[.pointer (some ⟨B, 0, none⟩)]] w fun e W' => ∃ v, e = .returned v ∧ W'.ownsRow w.heap.size 3 1 v l.flatten.length (l.flatten.map (Value.int .i64)) ∧ Below w.heap.size w W' := by
  have h1 : 1 ≤ n := by omega
  obtain ⟨i0, hi, hz0, hz1, hz2⟩ := info_parts info3
  refine callsIn_of_wp_marks Try.func89 rfl hf ?_ hro
  simp only [Try.ntmps89, List.size_toArray, List.length_cons, List.length_nil, Nat.reduceAdd, Nat.reduceSub, Array.replicate_succ, Array.replicate_zero, List.push_toArray, List.append_toArray, List.nil_append, List.cons_append]
  gi_wp2
  have bO := Boxed.new w 100 (.slice none 0 0)
  have hB0 : Below w.heap.size w (w.alloc (.cells #[.slice none 0 0] 100)) := (Below.refl _ w).alloc (Nat.le_refl _) _
  refine wpIn_rangeFunc_ownG hro h1 (gf := 90) (lb := #[.pointer (some ⟨B, 0, none⟩)]) rfl hf3 (enters_of Try.func90 (by kernel_rfl) rfl)
    (layout_May.stops F (n - 1) hf3 hro (by omega) B w.heap.size A cap l _ (by simp; omega) (by simp) ((hB0.cell (p := ⟨B, 1, none⟩) hB).trans hc) (hI.below hB0)) belowK_t (belowK_b (by simp)) (Below.refl _ _) (fun _ => rfl)
    (fun (pre : List Int) W => (∃ v, Boxed W w.heap.size 100 v ∧ W.ownsRow w.heap.size 3 1 v pre.length (pre.map (Value.int .i64)) ∧ True) ∧ Below w.heap.size w W)
    (fun _ _ _ => False)
    (OwnFrom.and (Own.from (holdsRow_own w.heap.size w.heap.size 100 3 1 (fun pre : List Int => pre.length) (fun pre : List Int => pre.map (Value.int .i64)) (fun _ _ => True)) _) (ownFrom_below (Nat.le_refl _) (by simp)))
    (fun _ _ _ _ _ hs _ _ => hs)
    ⟨⟨_, bO, World.ownsRow_nil _ _ _ _, trivial⟩, hB0⟩
    ?a1 ?assign ?body ?done ?stop
  case assign =>
    intro l x W K hK
    gi_wp2
    exact hK
  case body =>
    rintro lp pre x W ⟨⟨v, hv, hrow, _⟩, hB⟩ hlt
    have hc := hv.cell
    gi_wp2_with (gi_at_builtin; refine wpListIn_append_own _ rfl _ _ 100 rfl w.heap.size 3 i0 (.int .i64 0) 1 8 Try.underlying100 hi hz0 hz1 hz2 rfl (by decide) _ _ _ rfl (hrow.alloc _) ⟨W.heap.size, 0, none⟩ 1 1 [.int .i64 x] rfl rfl (cell_one_new _ _ _) (by simp [Value.oneCell']) (by unfold maxLen; omega) (by omega) (by have := hB.size; simp; omega) ?_; intro v' w1 hown' hgrow _; obtain ⟨g', cap', rfl⟩ := ownsRow_succ hown'; obtain ⟨hv1, hv2, hr2, hk2, hb2⟩ := hv.appended (by decide) hrow hB.size (Nat.le_refl _) hown' hgrow; have hc1 := hv1.cell; have hf1 := hv1.frozen)
    exact ⟨hk2.from _, hb2, ⟨_, hv2, by simpa using hr2, trivial⟩, hB.trans hb2⟩
  case done =>
    rintro D ys W hD rfl ⟨⟨v, hv, hrow, _⟩, hB⟩ hK
    have hc := hv.cell
    gi_wp2
    refine ⟨by simp, .inl ⟨_, _, rfl, run_takeDeferred hK, ?_⟩⟩
    exact ⟨_, results_tmp rfl _ _ _, v, rfl, ownsRow_putObj hrow _ hK rfl, hB.trans (belowK_b (w := w) (Nat.le_refl _) W D _ _ (by simp at hD; omega) hK rfl rfl)⟩
  case stop =>
    rintro D c pre W _ _ h _
    exact h.elim
theorem slices_Collect_int.flat_le : ∀ l : List (List Int), layout_May.lens l = true → l.flatten.length ≤ 3 * l.length
  | [], _ => by simp
  | c :: r, h => by
    have h' : (decide (1 ≤ c.length) && decide (c.length ≤ 3)) = true ∧ layout_May.lens r = true := by simpa [layout_May.lens] using h
    have := slices_Collect_int.flat_le r h'.2
    have h3 : c.length ≤ 3 := by have := h'.1; simp at this; omega
    rw [List.flatten_cons, List.length_append, List.length_cons]
    omega
set_option maxRecDepth 100000 in
set_option maxHeartbeats 1000000 in
theorem slices_Collect_int.collect_in (F : Fence) (n : Nat) (hf0 : F.fn 52) (hf : F.fn 89) (hf3 : F.fn 90) (hro : F.round = none) (hn : 4 ≤ n) (B : Nat) (A : Option Addr) (cap : Nat) (l : List (List Int)) (w : World)
    (hB : B < w.heap.size) (hc : w.cell? ⟨B, 1, none⟩ = some (.slice A l.length cap)) (hI : layout_May.Lies w.heap.size w A l) (h18 : l.flatten.length ≤ 18) :
    CallsIn F n Try.prog 52 #[.func (.func 90) #[] #[.pointer (some ⟨B, 0, none⟩)]] w fun e W' => ∃ v, e = .returned v ∧ W'.ownsRow w.heap.size 3 1 v l.flatten.length (l.flatten.map (Value.int .i64)) ∧ Below w.heap.size w W' := by
  have H := Aside0.mk (slices_Collect_int.append_in F (n - 1) hf hf3 hro (by omega) B A cap l w hB hc hI h18)
  refine callsIn_of_wp Try.func52 rfl hf0 ?_ hro
  simp only [Try.ntmps52, List.size_toArray, List.length_cons, List.length_nil, Nat.reduceAdd, Nat.reduceSub, Array.replicate_succ, Array.replicate_zero, List.push_toArray, List.append_toArray, List.nil_append, List.cons_append]
  clear hc hI
  have h1 : 1 ≤ n := by omega
  gi_wp2_with (gi_at_call 89; refine H.out.mono ?_; rintro e w' ⟨v, rfl, ho, hb⟩; have HO := Aside0.mk ho; have HB := Aside0.mk hb; clear ho hb)
  go_ret
  exact ⟨_, rfl, HO.out, HB.out⟩
/-- slices.Collect(units(l)), behind the making of the function. -/
theorem slices_Collect_int.calls (a0_0 : Int) (A0_1 : Option Addr) (c0_1 : Nat) (l0_1 : List (List Int)) (r : List Int) (w : World) (hr0_1 : Kd.C (Kd.slice 3 (Kd.int .i64)) w A0_1 l0_1.length l0_1) (_hc0_1 : l0_1.length ≤ c0_1) (h : slices_Collect_int.f a0_0 l0_1 = some r) :
    Calls Try.prog 52 #[.func (.func 90) #[] #[.pointer (some ⟨w.heap.size, 0, none⟩)]] (w.alloc (.cells #[.int .i64 a0_0, .slice A0_1 l0_1.length c0_1] 43)) fun e w' => ∃ v0_ : Value, e = .returned v0_ ∧ Kd.R (Kd.int .i64) 3 w' w.heap.size (fun _ => True) v0_ r ∧ Below w.heap.size w w' := by
  unfold slices_Collect_int.f at h
  split at h
  · rename_i hb
    obtain rfl := Option.some.inj h
    have hB0 : Below w.heap.size w (w.alloc (.cells #[.int .i64 a0_0, .slice A0_1 l0_1.length c0_1] 43)) := (Below.refl _ w).alloc (Nat.le_refl _) _
    have hl := layout_May.lies hr0_1 hb.1 hb.2
    have h3 := slices_Collect_int.flat_le l0_1 hb.2
    have h6 := hb.1
    refine (callsIn_wide.1 (slices_Collect_int.collect_in Fence.wide 4 trivial trivial trivial rfl (by omega) w.heap.size A0_1 c0_1 l0_1 _ (by simp) (by simp [go_sem]) ?_ (by omega))).mono ?_
    · have hl' := hl.below hB0
      exact ⟨hl'.1, fun i hi => by
        obtain ⟨ad, Ai, ci, e, hab, hce, hc3, hin⟩ := hl'.2 i hi
        exact ⟨ad, Ai, ci, e, by simp; omega, hce, hc3, fun j hj => by obtain ⟨ai, e2, hai, hcx⟩ := hin j hj; exact ⟨ai, e2, by simp; omega, hcx⟩⟩⟩
    · rintro e w' ⟨v, rfl, ho, hb⟩
      refine ⟨v, rfl, Kd.R_lower (⟨fun _ _ => trivial, _, ho, ?_⟩ : Kd.R (Kd.int .i64) 3 w' _ (fun _ => True) v l0_1.flatten) (by simp), hB0.trans (hb.mono hB0.size)⟩
      exact Kd.reps_scalar l0_1.flatten
  · cases h
end slices_Collect_int_hand

/-! ### slices_Index_int_int: function 56 -/
def slices_Index_int_int.l0 : Nat → List Int → Int → Int → Int → Option (Int)
  | 0, _, _, _, _ => none
  | k + 1, x0, x1, x7, x8 => if x8 < x7 then (if 0 ≤ x8 then (if x8 < (x0.length : Int) then (if x1 = (rd x0 x8) then (some x8) else (slices_Index_int_int.l0 k x0 x1 x7 (wrap64 (x8 + 1)))) else (none)) else (none)) else (some (-1))
def slices_Index_int_int.f (k : Nat) (l0 : List Int) (a1 : Int) : Option (Int) := slices_Index_int_int.l0 k l0 a1 (l0.length : Int) 0
theorem slices_Index_int_int.mono_l : ∀ k, (∀ y0 y1 y2 y3, LeO (slices_Index_int_int.l0 k y0 y1 y2 y3) (slices_Index_int_int.l0 (k + 1) y0 y1 y2 y3))
  | 0 => fun _ _ _ _ r h => by simp [slices_Index_int_int.l0] at h
  | k + 1 => by
    have ih0 := slices_Index_int_int.mono_l k
    · intro y0 y1 y2 y3
      unfold slices_Index_int_int.l0
      repeat' first
      | (with_reducible exact ih0 _ _ _ _)
      | (with_reducible exact LeO.refl _)
      | (with_reducible exact LeO.none _)
      | (with_reducible refine LeO.ite ?_ ?_)
      | (with_reducible refine LeO.bind ?_ (fun _ => ?_))
      | exact ih0 _ _ _ _
      | exact LeO.none _
      | refine LeO.ite ?_ ?_
      | refine LeO.bind ?_ (fun _ => ?_)
theorem slices_Index_int_int.mono : ∀ a0 a1 k, LeO (slices_Index_int_int.f k a0 a1) (slices_Index_int_int.f (k + 1) a0 a1) := by
  intro a0 a1 k
  have ih0 := slices_Index_int_int.mono_l k
  unfold slices_Index_int_int.f
  repeat' first
      | (with_reducible exact ih0 _ _ _ _)
      | (with_reducible exact LeO.refl _)
      | (with_reducible exact LeO.none _)
      | (with_reducible refine LeO.ite ?_ ?_)
      | (with_reducible refine LeO.bind ?_ (fun _ => ?_))
      | exact ih0 _ _ _ _
      | exact LeO.none _
      | refine LeO.ite ?_ ?_
      | refine LeO.bind ?_ (fun _ => ?_)
set_option maxHeartbeats 8000000 in
set_option maxRecDepth 100000 in
theorem slices_Index_int_int.calls (k : Nat) (A0 : Option Addr) (c0 : Nat) (l0 : List Int) (a1 : Int) (r : Int) (w : World) (hr0 : Kd.C (Kd.int .i64) w A0 l0.length l0) (hc0 : l0.length ≤ c0) (h : slices_Index_int_int.f k l0 a1 = some r) :
    Calls Try.prog 56 #[.slice A0 l0.length c0, .int .i64 a1] w fun e w' => e = .returned (.int .i64 r) ∧ Drawn0 w w' := by
  have HR0 := Aside0.mk hr0
  have HC0 := Aside0.mk hc0
  clear hr0 hc0
  have H : (slices_Index_int_int.l0 k l0 a1 (l0.length : Int) 0) = some r := h
  clear h
  have H' := Aside0.mk H
  clear H
  go_enter Try.func56, Try.ntmps56
  go_wp2
  go_loopg [8] k (fun kq v8 w' => ∃ (x8_1 : Int), v8 = .int .i64 x8_1 ∧ Aside0 (slices_Index_int_int.l0 kq l0 a1 (l0.length : Int) x8_1 = some r) ∧ Aside0 (kq ≤ k) ∧ Drawn0 w w')
  case atStart => exact ⟨(0), (by first | rfl | (simp; done) | (simp [*]; done) | (generalize ByteArray.toList _ = q_; cases q_ <;> rfl)), H', ⟨Nat.le_refl _⟩, by repeat (first | exact Drawn0.refl _ | apply Drawn0.step)⟩
  case round =>
    clear H'
    try clear p2
    obtain ⟨x8_1, rfl, HA, HK1, ⟨m1, rfl⟩⟩ := hrel
    cases gk with
    | zero => exact absurd HA.out (by simp [slices_Index_int_int.l0])
    | succ k1 =>
      have H := HA.out
      clear HA
      simp only [slices_Index_int_int.l0] at H
      by_cases c3 : x8_1 < (l0.length : Int)
      · rw [if_pos c3] at H
        have c3b0 : decide (x8_1 < (l0.length : Int)) = true := decide_eq_true c3
        clear c3
        by_cases c4 : 0 ≤ x8_1
        · rw [if_pos c4] at H
          have c4b0 : decide (0 ≤ x8_1) = true := decide_eq_true c4
          clear c4
          by_cases c5 : x8_1 < (l0.length : Int)
          · rw [if_pos c5] at H
            have c5b0 : decide (x8_1 < (l0.length : Int)) = true := decide_eq_true c5
            clear c5
            by_cases c6 : a1 = (rd l0 x8_1)
            · rw [if_pos c6] at H
              have c6b0 : (a1 == (rd l0 x8_1)) = true := beq_iff_eq.mpr c6
              have c6b1 : (a1 != (rd l0 x8_1)) = false := bne_eq_false_iff_eq.mpr c6
              clear c6
              obtain rfl := Option.some.inj H
              have p101 : 0 ≤ (x8_1 : Int) := of_decide_eq_true (by first | (with_reducible assumption) | assumption)
              have q101 : x8_1 < (l0.length : Int) := of_decide_eq_true (by first | (with_reducible assumption) | assumption)
              obtain ⟨ad101, e101, hx101_0⟩ := Kd.at_int HR0.out x8_1 p101 q101
              cases e101
              replace p101 := eq_true p101
              replace q101 := eq_true q101
              go_wp2
              go_ret
              exact ⟨by first | rfl | (simp; done) | (simp [*]; done), by repeat (first | exact Drawn0.refl _ | apply Drawn0.step)⟩
            · rw [if_neg c6] at H
              have c6b0 : (a1 == (rd l0 x8_1)) = false := beq_eq_false_iff_ne.mpr c6
              have c6b1 : (a1 != (rd l0 x8_1)) = true := bne_iff_ne.mpr c6
              have H' := Aside0.mk H
              clear H
              have p101 : 0 ≤ (x8_1 : Int) := of_decide_eq_true (by first | (with_reducible assumption) | assumption)
              have q101 : x8_1 < (l0.length : Int) := of_decide_eq_true (by first | (with_reducible assumption) | assumption)
              obtain ⟨ad101, e101, hx101_0⟩ := Kd.at_int HR0.out x8_1 p101 q101
              cases e101
              replace p101 := eq_true p101
              replace q101 := eq_true q101
              go_wp2
              go_roundg k1
              case measure => have := HK1.out; omega
              case rel => exact ⟨(wrap64 (x8_1 + 1)), (by first | rfl | (simp; done) | (simp [*]; done) | (generalize ByteArray.toList _ = q_; cases q_ <;> rfl)), H', ⟨by have := HK1.out; omega⟩, by repeat (first | exact Drawn0.refl _ | apply Drawn0.step)⟩
          · rw [if_neg c5] at H
            exact absurd H (by simp)
        · rw [if_neg c4] at H
          exact absurd H (by simp)
      · rw [if_neg c3] at H
        have c3b0 : decide (x8_1 < (l0.length : Int)) = false := decide_eq_false c3
        clear c3
        obtain rfl := Option.some.inj H
        go_wp2
        go_ret
        exact ⟨by first | rfl | (simp; done) | (simp [*]; done), by repeat (first | exact Drawn0.refl _ | apply Drawn0.step)⟩

/-! ### slices_Contains_int_int: function 54 -/
def slices_Contains_int_int.f (k : Nat) (l0 : List Int) (a1 : Int) : Option (Bool) := (slices_Index_int_int.f k l0 a1).bind fun t102 => (some (decide (t102 ≥ 0)))
theorem slices_Contains_int_int.mono : ∀ a0 a1 k, LeO (slices_Contains_int_int.f k a0 a1) (slices_Contains_int_int.f (k + 1) a0 a1) := by
  intro a0 a1 k
  unfold slices_Contains_int_int.f
  repeat' first
      | (with_reducible exact slices_Index_int_int.mono _ _ _)
      | (with_reducible exact LeO.refl _)
      | (with_reducible exact LeO.none _)
      | (with_reducible refine LeO.ite ?_ ?_)
      | (with_reducible refine LeO.bind ?_ (fun _ => ?_))
      | exact slices_Index_int_int.mono _ _ _
      | exact LeO.none _
      | refine LeO.ite ?_ ?_
      | refine LeO.bind ?_ (fun _ => ?_)
set_option maxHeartbeats 8000000 in
set_option maxRecDepth 100000 in
theorem slices_Contains_int_int.calls (k : Nat) (A0 : Option Addr) (c0 : Nat) (l0 : List Int) (a1 : Int) (r : Bool) (w : World) (hr0 : Kd.C (Kd.int .i64) w A0 l0.length l0) (hc0 : l0.length ≤ c0) (h : slices_Contains_int_int.f k l0 a1 = some r) :
    Calls Try.prog 54 #[.slice A0 l0.length c0, .int .i64 a1] w fun e w' => e = .returned (.bool r) ∧ Drawn0 w w' := by
  have HR0 := Aside0.mk hr0
  have HC0 := Aside0.mk hc0
  clear hr0 hc0
  have H : ((slices_Index_int_int.f k l0 a1).bind fun t102 => (some (decide (t102 ≥ 0)))) = some r := h
  clear h
  replace H := Option.bind_eq_some_iff.mp H
  obtain ⟨t102, A30, H⟩ := H
  replace H : (some (decide (t102 ≥ 0))) = some r := H
  have A3 := Aside0.mk A30
  clear A30
  obtain rfl := Option.some.inj H
  go_enter Try.func54, Try.ntmps54
  go_wp2_with (first | ((with_reducible refine gate_callee (f := 56) rfl ?_); refine goesL_ (some 7) rfl rfl Try.func56 (by kernel_rfl) rfl #[.slice A0 l0.length c0, .int .i64 a1] rfl (by (try simp only [List.map_toArray, List.map_cons, List.map_nil]); first | done | rfl | (simp only [List.length_drop, List.length_take]; rfl)) ?_; (with_reducible refine (slices_Index_int_int.calls k _ _ l0 a1 t102 _ ?side1 ?side2 A3.out).mono ?_); (case side1 => repeat (first | exact HR0.out | (with_reducible refine Kd.C_alloc ?_ _) | (with_reducible refine Kd.C_drewN ?_ _) | (with_reducible refine Kd.C_drew ?_))); (case side2 => exact HC0.out); rintro e w' ⟨rfl, ⟨nd, rfl⟩⟩; refine ⟨_, rfl, ?_⟩))
  go_ret
  exact ⟨by first | rfl | (simp; done) | (simp [*]; done), by repeat (first | exact Drawn0.refl _ | apply Drawn0.step)⟩

/-! ### slices_Clone_int_int: function 55, by hand -/
-- HAND rounds=0 making=1 imports=Derived.Lib.SliceRun
-- INFO 3
/-- A copy. -/
def slices_Clone_int_int.f (l0 : List (Int)) : Option (List (Int)) := if l0.length * 8 < 140737488355328 then some l0 else none
set_option maxRecDepth 100000 in
set_option maxHeartbeats 2000000 in
theorem slices_Clone_int_int.calls (A0 : Option Addr) (c0 : Nat) (l0 : List (Int)) (r : List (Int)) (w : World) (hr0 : Kd.C (Kd.int .i64) w A0 l0.length l0) (hc0 : l0.length ≤ c0) (h : slices_Clone_int_int.f l0 = some r) :
    Calls Try.prog 55 #[.slice A0 l0.length c0] w fun e w' => ∃ v0_ : Value, e = .returned (v0_) ∧ Kd.R (Kd.int .i64) 3 w' w.heap.size (fun _ => True) v0_ r ∧ Below w.heap.size w w' := by
  unfold slices_Clone_int_int.f at h
  split at h
  · rename_i hb
    obtain rfl := Option.some.inj h
    clear h
    have HR0 := Aside0.mk hr0
    have HC0 := Aside0.mk hc0
    have LM := Aside0.mk hb
    clear hr0 hc0 hb
    cases A0 with
    | none =>
      have q22 : ∀ (w : World) (n c : Nat), (binOp .eql 100 (.slice none n c) (.slice none 0 0)).run Try.prog w = .ok (.bool true) w := fun w n c => Lib.run_eql_slice_nil w _ _ none n c 0 0 Try.underlying100
      have hnil : l0 = [] := by
        rcases l0 with _ | ⟨x, l⟩
        · rfl
        · obtain ⟨ad, e, _⟩ := HR0.out.2.2 (by simp)
          cases e
      go_enter Try.func55, Try.ntmps55
      go_wp2
      go_ret
      subst hnil
      exact ⟨_, rfl, Kd.R_nil _ _ _ _ _, Below.refl _ _⟩
    | some ad =>
      have q22 : ∀ (w : World) (n c : Nat), (binOp .eql 100 (.slice (some ad) n c) (.slice none 0 0)).run Try.prog w = .ok (.bool false) w := fun w n c => Lib.run_eql_slice_nil w _ _ (some ad) n c 0 0 Try.underlying100
      go_enter Try.func55, Try.ntmps55
      go_wp2_with (at_builtin; refine Kd.R_append_rows (Kd.int .i64) (w0 := w) w.heap.size rfl (.tmp 5) (.tmp 6) 100 3 (.int .i64 0) 8 rfl Try.underlying100 info3 rfl (by decide) (by omega) (.slice (some ⟨w.heap.size, 0, none⟩) 0 0) ([] : List (Int)) l0 _ _ _ (fun _ => True) (fun _ => False) rfl rfl ?aO ?aR (fun _ _ h => h) (fun _ h => h.elim) (fun _ _ => trivial) ?aB ?aS ?aL ?_; (case aO => exact ⟨fun _ _ => trivial, [], World.ownsRow_made w #[] 0 (Nat.le_refl _) (Nat.zero_le _) (by simp), Reps.none _ _⟩); (case aR => exact Kd.C_below HR0.out (below_alloc (Below.refl _ _) _)); (case aB => exact below_alloc (Below.refl _ _) _); (case aS => simp); (case aL => have := LM.out; simp only [List.length_nil, Nat.zero_add]; omega); intro v102 w3 ho hb hg hat; have HO := Aside0.mk ho; have HB := Aside0.mk hb; clear ho hb hg hat)
      go_ret
      exact ⟨_, rfl, by simpa using HO.out, HB.out⟩
  · cases h

end Go.Proofs.Ytfkdldaadjhcfaa.PLayoutSwaps
