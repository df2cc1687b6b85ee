-- Written by wip/pp of this repo (over the kit's print, with additions of this session); Lean checks every line.
import Derived.Test.YtfkdldaadjhcfaaDoorPPlanLeadsx0
import Derived.Test.YtfkdldaadjhcfaaDoorPPlanLeadsx3
import Derived.Test.YtfkdldaadjhcfaaDoorPPlanLeadsx6
import Derived.Test.YtfkdldaadjhcfaaDoorPPlanLeadsx7
namespace Go.Proofs.YtfkdldaadjhcfaaDoor.PPlanLeads
open Go.RowKit Go.Proofs.YtfkdldaadjhcfaaDoorW.PrintWords Go.Proofs.YtfkdldaadjhcfaaDoorW.PrintLast Go.Proofs.YtfkdldaadjhcfaaDoorW.PrintMore
attribute [local go_sem] max2_int min2_int max_two min_two max_three min_three max_four min_four   -- for this text's walks alone
set_option linter.unusedVariables false
set_option linter.unusedSimpArgs false

/-! ### commonholdref_limitOf: function 24, by hand -/
-- HAND rounds=1 making=1 imports=Derived.Deep.QuietTactic
def commonholdref_limitOf.set (op : Int) : Prop := op = 13 ∨ op = 15 ∨ op = 16 ∨ op = 17 ∨ op = 18
instance (op : Int) : Decidable (commonholdref_limitOf.set op) := by unfold commonholdref_limitOf.set; infer_instance
def commonholdref_limitOf.turn (op : Int) : Int := if op = 15 then 17 else if op = 17 then 15 else if op = 16 then 18 else if op = 18 then 16 else op
def commonholdref_limitOf.ans2 (op0 op : Int) (a b : S41) : Int × Int × Int × Int × ByteArray × Bool :=
  if a.f0 = 3 ∧ b.f0 = 1 ∧ b.f1.f0 ≠ 0 ∧ commonholdref_limitOf.set op0 then (a.f4, op, b.f1.f0, b.f1.f1, b.f1.f2, true) else (0, 0, 0, 0, ByteArray.empty, false)
def commonholdref_limitOf.ans (op : Int) (x y : S41) : Int × Int × Int × Int × ByteArray × Bool :=
  if x.f0 = 1 ∧ y.f0 = 3 then commonholdref_limitOf.ans2 op (commonholdref_limitOf.turn op) y x else commonholdref_limitOf.ans2 op op x y
def commonholdref_limitOf.may (k : Nat) (a0_0 a0_1 a0_2 : Int) (a0_3 a0_4 a0_5 : ByteArray) (a0_6 : Int) (l0_7 : List S41) : Option Bool :=
  if l0_7.length = 2 then (commonholdref_askForm.f k a0_0 a0_1 a0_2 a0_3 a0_4 a0_5 a0_6 l0_7 9223372036854775807).bind fun b => if b = true then some true else commonholdref_lastPlace.f k a0_0 a0_1 a0_2 a0_3 a0_4 a0_5 a0_6 l0_7 else some false
def commonholdref_limitOf.f (k : Nat) (a0_0 a0_1 a0_2 : Int) (a0_3 a0_4 a0_5 : ByteArray) (a0_6 : Int) (l0_7 : List S41) : Option (Int × Int × Int × Int × ByteArray × Bool) :=
  (commonholdref_limitOf.may k a0_0 a0_1 a0_2 a0_3 a0_4 a0_5 a0_6 l0_7).bind fun b => if b = true then some (commonholdref_limitOf.ans a0_0 (rd_T41 l0_7 0) (rd_T41 l0_7 1)) else some (0, 0, 0, 0, ByteArray.empty, false)
theorem commonholdref_limitOf.mono : ∀ a0 a1 a2 a3 a4 a5 a6 a7 k, LeO (commonholdref_limitOf.f k a0 a1 a2 a3 a4 a5 a6 a7) (commonholdref_limitOf.f (k + 1) a0 a1 a2 a3 a4 a5 a6 a7) := by
  intro a0 a1 a2 a3 a4 a5 a6 a7 k
  refine LeO.bind ?_ (fun _ => LeO.refl _)
  unfold commonholdref_limitOf.may
  refine LeO.ite (LeO.bind (commonholdref_askForm.mono _ _ _ _ _ _ _ _ _ k) (fun b => LeO.ite (LeO.refl _) (commonholdref_lastPlace.mono _ _ _ _ _ _ _ _ k))) (LeO.refl _)
theorem commonholdref_limitOf.at_alloc1 (w : World) (o1 : Obj) : (w.alloc o1).heap[w.heap.size]? = some o1 := by
  have h : (w.heap.push o1)[w.heap.size]? = some o1 := by simp
  exact h
theorem commonholdref_limitOf.at_old (w : World) (o : Obj) (j : Nat) (hj : j < w.heap.size) : (w.alloc o).heap[j]? = w.heap[j]? := by
  have h : (w.heap.push o)[j]? = w.heap[j]? := by
    rw [Array.getElem?_push, if_neg (by omega)]
  exact h
theorem commonholdref_limitOf.at_ {w : World} {A : Option Addr} {l : List S41} (h : Kd.C k41 w A l.length l) (h0 : 0 < l.length) : ∃ b o, A = some ⟨b, o, none⟩ ∧ ∀ (i : Nat) (hi : i < l.length), ∃ A7 c7,
    w.cell? ⟨b, o + i * 8, none⟩ = some (.int .i64 l[i].f0) ∧ w.cell? ⟨b, o + i * 8 + 1, none⟩ = some (.int .i64 l[i].f1.f0) ∧ w.cell? ⟨b, o + i * 8 + 2, none⟩ = some (.int .i64 l[i].f1.f1) ∧ w.cell? ⟨b, o + i * 8 + 3, none⟩ = some (.string l[i].f1.f2) ∧
      w.cell? ⟨b, o + i * 8 + 4, none⟩ = some (.string l[i].f2) ∧ w.cell? ⟨b, o + i * 8 + 5, none⟩ = some (.string l[i].f3) ∧ w.cell? ⟨b, o + i * 8 + 6, none⟩ = some (.int .i64 l[i].f4) ∧ w.cell? ⟨b, o + i * 8 + 7, none⟩ = some (.slice A7 l[i].f5.length c7) ∧
      l[i].f5.length ≤ c7 ∧ Kd.C k41 w A7 l[i].f5.length l[i].f5 := by
  obtain ⟨ad, A7, c7, rfl, g0, _⟩ := at_T41 h 0 (by omega) (by omega)
  have hs : ad.spot = none := by
    cases hsp : ad.spot with
    | none => rfl
    | some s =>
      exfalso
      rw [show ad.add ((0 : Int).toNat * 8) = ad from by simp [Addr.add]] at g0
      unfold World.cell? at g0
      split at g0
      · rw [hsp] at g0
        simp at g0
      · cases g0
  obtain ⟨b, o, sp⟩ := ad
  dsimp only at hs
  subst hs
  refine ⟨b, o, rfl, fun i hi => ?_⟩
  obtain ⟨ad, A7, c7, e, g0, g1, g2, g3, g4, g5, g6, g7, l7, r7⟩ := at_T41 h (i : Int) (by omega) (by omega)
  cases e
  have ee : rd_T41 l (i : Int) = l[i] := by simp [rd_T41, List.getD_eq_getElem?_getD, hi]
  have ha : (⟨b, o, none⟩ : Addr).add ((i : Int).toNat * 8) = ⟨b, o + i * 8, none⟩ := by rw [Int.toNat_natCast]; unfold Addr.add; split <;> simp_all
  rw [ee] at g0 g1 g2 g3 g4 g5 g6 g7 l7 r7
  rw [ha] at g0 g1 g2 g3 g4 g5 g6 g7
  exact ⟨A7, c7, g0, g1, g2, g3, g4, g5, g6, g7, l7, r7⟩
set_option maxRecDepth 100000 in
set_option maxHeartbeats 1000000 in
theorem commonholdref_limitOf.calls (k : Nat) (a0_0 a0_1 a0_2 : Int) (a0_3 a0_4 a0_5 : ByteArray) (a0_6 : Int) (A0_7 : Option Addr) (c0_7 : Nat) (l0_7 : List S41) (r1 r2 r3 r4 : Int) (r5 : ByteArray) (r6 : Bool) (w : World) (hr0_7 : Kd.C k41 w A0_7 l0_7.length l0_7) (hc0_7 : l0_7.length ≤ c0_7) (h : commonholdref_limitOf.f k a0_0 a0_1 a0_2 a0_3 a0_4 a0_5 a0_6 l0_7 = some (r1, r2, r3, r4, r5, r6)) :
    Calls Tryd.prog 24 #[.agg #[.int .i64 a0_0, .int .i64 a0_1, .int .i64 a0_2, .string a0_3, .string a0_4, .string a0_5, .int .i64 a0_6, .slice A0_7 l0_7.length c0_7]] w fun e w' => e = .returned (.tuple #[.int .i64 r1, .int .i64 r2, .agg #[.int .i64 r3, .int .i64 r4, .string r5], .bool r6]) ∧ Below w.heap.size w w' := by
  obtain ⟨b, hb, h⟩ := Option.bind_eq_some_iff.1 h
  have hu := Tryd.underlying41
  have huv := Tryd.underlying39
  have hm7 := hr0_7.2.1
  unfold commonholdref_limitOf.may at hb
  by_cases hl : l0_7.length = 2
  rotate_left
  · rw [if_neg hl] at hb
    cases hb
    obtain ⟨rfl, rfl, rfl, rfl, rfl, rfl⟩ : 0 = r1 ∧ 0 = r2 ∧ 0 = r3 ∧ 0 = r4 ∧ ByteArray.empty = r5 ∧ false = r6 := by simpa using h
    have hl1 : ((l0_7.length : Int) != 2) = true := by rw [bne_iff_ne]; omega
    go_enter Tryd.func24, Tryd.ntmps24
    go_wp2
    refine bodyPost_ret (results_list (rs := [.tmp 2, .tmp 3, .cell 4 39, .tmp 5]) rfl (by simp) (.tmp (.tmp (.cell (w.heap.size + 1) 39 _ (0, 0) _ rfl (by have h_ := commonholdref_limitOf.at_alloc1 (w.alloc (.cells #[.int .i64 a0_0, .int .i64 a0_1, .int .i64 a0_2, .string a0_3, .string a0_4, .string a0_5, .int .i64 a0_6, .slice A0_7 l0_7.length c0_7] 41)) (.cells #[.int .i64 0, .int .i64 0, .string { data := #[] }] 39); rwa [show (w.alloc (.cells #[.int .i64 a0_0, .int .i64 a0_1, .int .i64 a0_2, .string a0_3, .string a0_4, .string a0_5, .int .i64 a0_6, .slice A0_7 l0_7.length c0_7] 41)).heap.size = w.heap.size + 1 from by simp] at h_) huv rfl (by kernel_rfl) (.tmp .nil))))) rfl ?_
    exact ⟨rfl, below_alloc (below_alloc (Below.refl _ _) _) _⟩
  rw [if_pos hl] at hb
  obtain ⟨b1, h1, hb⟩ := Option.bind_eq_some_iff.1 hb
  obtain ⟨bb, oo, rfl, hcs⟩ := commonholdref_limitOf.at_ hr0_7 (by omega)
  obtain ⟨A8, c8, g0, g1, g2, g3, g4, g5, g6, g7, hc8, r8⟩ := hcs 0 (by omega)
  obtain ⟨A9, c9, k0, k1, k2, k3, k4, k5, k6, k7, hc9, r9⟩ := hcs 1 (by omega)
  rw [show rd_T41 l0_7 (0 : Int) = l0_7[0] from by simp [rd_T41, List.getD_eq_getElem?_getD, hl], show rd_T41 l0_7 (1 : Int) = l0_7[1] from by simp [rd_T41, List.getD_eq_getElem?_getD, hl]] at h
  clear hcs
  simp only [Nat.zero_mul, Nat.add_zero] at g0 g1 g2 g3 g4 g5 g6 g7
  simp only [Nat.one_mul, Nat.add_assoc, Nat.reduceAdd] at k0 k1 k2 k3 k4 k5 k6 k7
  generalize l0_7[0] = x at *
  generalize l0_7[1] = y at *
  have hbc : Below w.heap.size w ((w.alloc (.cells #[.int .i64 a0_0, .int .i64 a0_1, .int .i64 a0_2, .string a0_3, .string a0_4, .string a0_5, .int .i64 a0_6, .slice (some ⟨bb, oo, none⟩) l0_7.length c0_7] 41)).alloc (.cells #[.int .i64 0, .int .i64 0, .string { data := #[] }] 39)) := below_alloc (below_alloc (Below.refl _ _) _) _
  have KP : Aside0 (∀ W, Below (((w.alloc (.cells #[.int .i64 a0_0, .int .i64 a0_1, .int .i64 a0_2, .string a0_3, .string a0_4, .string a0_5, .int .i64 a0_6, .slice (some ⟨bb, oo, none⟩) l0_7.length c0_7] 41)).alloc (.cells #[.int .i64 0, .int .i64 0, .string { data := #[] }] 39))).heap.size ((w.alloc (.cells #[.int .i64 a0_0, .int .i64 a0_1, .int .i64 a0_2, .string a0_3, .string a0_4, .string a0_5, .int .i64 a0_6, .slice (some ⟨bb, oo, none⟩) l0_7.length c0_7] 41)).alloc (.cells #[.int .i64 0, .int .i64 0, .string { data := #[] }] 39)) W → W.cell? ⟨w.heap.size, 0, none⟩ = some (.int .i64 a0_0) ∧ W.cell? ⟨w.heap.size, 1, none⟩ = some (.int .i64 a0_1) ∧ W.cell? ⟨w.heap.size, 2, none⟩ = some (.int .i64 a0_2) ∧ W.cell? ⟨w.heap.size, 3, none⟩ = some (.string a0_3) ∧ W.cell? ⟨w.heap.size, 4, none⟩ = some (.string a0_4) ∧ W.cell? ⟨w.heap.size, 5, none⟩ = some (.string a0_5) ∧ W.cell? ⟨w.heap.size, 6, none⟩ = some (.int .i64 a0_6) ∧ W.cell? ⟨w.heap.size, 7, none⟩ = some (.slice (some ⟨bb, oo, none⟩) l0_7.length c0_7) ∧ W.cell? ⟨bb, oo, none⟩ = some (.int .i64 x.f0) ∧ W.cell? ⟨bb, oo + 1, none⟩ = some (.int .i64 x.f1.f0) ∧ W.cell? ⟨bb, oo + 2, none⟩ = some (.int .i64 x.f1.f1) ∧ W.cell? ⟨bb, oo + 3, none⟩ = some (.string x.f1.f2) ∧ W.cell? ⟨bb, oo + 4, none⟩ = some (.string x.f2) ∧ W.cell? ⟨bb, oo + 5, none⟩ = some (.string x.f3) ∧ W.cell? ⟨bb, oo + 6, none⟩ = some (.int .i64 x.f4) ∧ W.cell? ⟨bb, oo + 7, none⟩ = some (.slice A8 x.f5.length c8) ∧ W.cell? ⟨bb, oo + 8, none⟩ = some (.int .i64 y.f0) ∧ W.cell? ⟨bb, oo + 9, none⟩ = some (.int .i64 y.f1.f0) ∧ W.cell? ⟨bb, oo + 10, none⟩ = some (.int .i64 y.f1.f1) ∧ W.cell? ⟨bb, oo + 11, none⟩ = some (.string y.f1.f2) ∧ W.cell? ⟨bb, oo + 12, none⟩ = some (.string y.f2) ∧ W.cell? ⟨bb, oo + 13, none⟩ = some (.string y.f3) ∧ W.cell? ⟨bb, oo + 14, none⟩ = some (.int .i64 y.f4) ∧ W.cell? ⟨bb, oo + 15, none⟩ = some (.slice A9 y.f5.length c9) ∧ W.heap[w.heap.size + 1]? = some (.cells #[.int .i64 0, .int .i64 0, .string { data := #[] }] 39)) := ⟨fun W hW => by
    have e1 := commonholdref_limitOf.at_alloc1 w (.cells #[.int .i64 a0_0, .int .i64 a0_1, .int .i64 a0_2, .string a0_3, .string a0_4, .string a0_5, .int .i64 a0_6, .slice (some ⟨bb, oo, none⟩) l0_7.length c0_7] 41)
    have e2 := commonholdref_limitOf.at_alloc1 (w.alloc (.cells #[.int .i64 a0_0, .int .i64 a0_1, .int .i64 a0_2, .string a0_3, .string a0_4, .string a0_5, .int .i64 a0_6, .slice (some ⟨bb, oo, none⟩) l0_7.length c0_7] 41)) (.cells #[.int .i64 0, .int .i64 0, .string { data := #[] }] 39)
    have e3 := (hW.block w.heap.size (by simp; omega)).trans ((commonholdref_limitOf.at_old (w.alloc (.cells #[.int .i64 a0_0, .int .i64 a0_1, .int .i64 a0_2, .string a0_3, .string a0_4, .string a0_5, .int .i64 a0_6, .slice (some ⟨bb, oo, none⟩) l0_7.length c0_7] 41)) (.cells #[.int .i64 0, .int .i64 0, .string { data := #[] }] 39) w.heap.size (by simp)).trans e1)
    rw [show (w.alloc (.cells #[.int .i64 a0_0, .int .i64 a0_1, .int .i64 a0_2, .string a0_3, .string a0_4, .string a0_5, .int .i64 a0_6, .slice (some ⟨bb, oo, none⟩) l0_7.length c0_7] 41)).heap.size = w.heap.size + 1 from by simp] at e2
    have e4 := (hW.block (w.heap.size + 1) (by simp)).trans e2
    have hb := hbc.trans (hW.mono hbc.size)
    exact ⟨(blk_cell e3 0).trans rfl, (blk_cell e3 1).trans rfl, (blk_cell e3 2).trans rfl, (blk_cell e3 3).trans rfl, (blk_cell e3 4).trans rfl, (blk_cell e3 5).trans rfl, (blk_cell e3 6).trans rfl, (blk_cell e3 7).trans rfl, pw_cell_below hb g0, pw_cell_below hb g1, pw_cell_below hb g2, pw_cell_below hb g3, pw_cell_below hb g4, pw_cell_below hb g5, pw_cell_below hb g6, pw_cell_below hb g7, pw_cell_below hb k0, pw_cell_below hb k1, pw_cell_below hb k2, pw_cell_below hb k3, pw_cell_below hb k4, pw_cell_below hb k5, pw_cell_below hb k6, pw_cell_below hb k7, e4⟩⟩
  have HC1 : Aside0 (∀ W, Below (((w.alloc (.cells #[.int .i64 a0_0, .int .i64 a0_1, .int .i64 a0_2, .string a0_3, .string a0_4, .string a0_5, .int .i64 a0_6, .slice (some ⟨bb, oo, none⟩) l0_7.length c0_7] 41)).alloc (.cells #[.int .i64 0, .int .i64 0, .string { data := #[] }] 39))).heap.size ((w.alloc (.cells #[.int .i64 a0_0, .int .i64 a0_1, .int .i64 a0_2, .string a0_3, .string a0_4, .string a0_5, .int .i64 a0_6, .slice (some ⟨bb, oo, none⟩) l0_7.length c0_7] 41)).alloc (.cells #[.int .i64 0, .int .i64 0, .string { data := #[] }] 39)) W → Calls Tryd.prog 61 #[.agg #[.int .i64 a0_0, .int .i64 a0_1, .int .i64 a0_2, .string a0_3, .string a0_4, .string a0_5, .int .i64 a0_6, .slice (some ⟨bb, oo, none⟩) l0_7.length c0_7], .int .i64 9223372036854775807] W fun e w' => e = .returned (.bool b1) ∧ Below W.heap.size W w') := ⟨fun W hW => commonholdref_askForm.calls k a0_0 a0_1 a0_2 a0_3 a0_4 a0_5 a0_6 _ _ _ _ b1 W (Kd.C_below (Kd.C_below hr0_7 hbc) hW) hc0_7 h1⟩
  have hl2 : ((l0_7.length : Int) != 2) = false := by rw [hl]; rfl
  have hl3 : (0 : Int) < l0_7.length := by omega
  have hl4 : (1 : Int) < l0_7.length := by omega
  have HC2 : Aside0 (b1 = false → ∀ W, Below (((w.alloc (.cells #[.int .i64 a0_0, .int .i64 a0_1, .int .i64 a0_2, .string a0_3, .string a0_4, .string a0_5, .int .i64 a0_6, .slice (some ⟨bb, oo, none⟩) l0_7.length c0_7] 41)).alloc (.cells #[.int .i64 0, .int .i64 0, .string { data := #[] }] 39))).heap.size ((w.alloc (.cells #[.int .i64 a0_0, .int .i64 a0_1, .int .i64 a0_2, .string a0_3, .string a0_4, .string a0_5, .int .i64 a0_6, .slice (some ⟨bb, oo, none⟩) l0_7.length c0_7] 41)).alloc (.cells #[.int .i64 0, .int .i64 0, .string { data := #[] }] 39)) W → Calls Tryd.prog 62 #[.agg #[.int .i64 a0_0, .int .i64 a0_1, .int .i64 a0_2, .string a0_3, .string a0_4, .string a0_5, .int .i64 a0_6, .slice (some ⟨bb, oo, none⟩) l0_7.length c0_7]] W fun e w' => e = .returned (.bool b) ∧ Below W.heap.size W w') := ⟨fun e W hW => commonholdref_lastPlace.calls k a0_0 a0_1 a0_2 a0_3 a0_4 a0_5 a0_6 _ _ _ b W (Kd.C_below (Kd.C_below hr0_7 hbc) hW) hc0_7 (by rw [e] at hb; simpa using hb)⟩
  have HBB : Aside0 (b1 = true → b = true) := ⟨fun e => by rw [e] at hb; simpa using hb.symm⟩
  have HH := Aside0.mk h
  have HBC := Aside0.mk hbc
  clear h1 hb g0 g1 g2 g3 g4 g5 g6 g7 k0 k1 k2 k3 k4 k5 k6 k7 hc8 r8 hc9 r9 hr0_7 hc0_7 h hbc hl
  go_enter Tryd.func24, Tryd.ntmps24
  go_upto_region 1 with (fail)
  go_cut [21] (fun c wc => c = .bool (!b) ∧ Aside0 (Below (((w.alloc (.cells #[.int .i64 a0_0, .int .i64 a0_1, .int .i64 a0_2, .string a0_3, .string a0_4, .string a0_5, .int .i64 a0_6, .slice (some ⟨bb, oo, none⟩) l0_7.length c0_7] 41)).alloc (.cells #[.int .i64 0, .int .i64 0, .string { data := #[] }] 39))).heap.size ((w.alloc (.cells #[.int .i64 a0_0, .int .i64 a0_1, .int .i64 a0_2, .string a0_3, .string a0_4, .string a0_5, .int .i64 a0_6, .slice (some ⟨bb, oo, none⟩) l0_7.length c0_7] 41)).alloc (.cells #[.int .i64 0, .int .i64 0, .string { data := #[] }] 39)) wc))
  case first =>
    cases b1 with
    | true =>
      obtain rfl := HBB.out rfl
      go_wp2_with (go_at_call 61; (with_reducible refine (HC1.out _ (Below.refl _ _)).mono ?_); rintro e w1 ⟨rfl, hb1⟩; have HB1 := Aside0.mk hb1; clear hb1)
      go_meet
      exact ⟨rfl, HB1⟩
    | false =>
      have HL := Aside0.mk (HC2.out rfl)
      go_wp2_with (first | (go_at_call 61; (with_reducible refine (HC1.out _ (Below.refl _ _)).mono ?_); rintro e w1 ⟨rfl, hb1⟩; have HB1 := Aside0.mk hb1; obtain ⟨y0, y1, y2, y3, y4, y5, y6, y7, p0, p1, p2, p3, p4, p5, p6, p7, p8, p9, p10, p11, p12, p13, p14, p15, hv⟩ := KP.out _ hb1; have q0 : w.heap.size < w1.heap.size := World.block_lt_of_cell? w1 _ y0; have q1 : bb < w1.heap.size := World.block_lt_of_cell? w1 _ p0; have q2 : w.heap.size + 1 < w1.heap.size := (Array.getElem?_eq_some_iff.1 hv).1; clear hv hb1) | (go_at_call 62; (with_reducible refine (HL.out _ HB1.out).mono ?_); rintro e w2 ⟨rfl, hb2⟩; have HB2 := Aside0.mk (HB1.out.trans (hb2.mono HB1.out.size)); clear hb2))
      all_goals
        go_meet
        exact ⟨rfl, HB2⟩
  case rest =>
    obtain ⟨rfl, HB1⟩ := hcut
    obtain ⟨w1, rfl⟩ : ∃ w1 : World, w1 = wc := ⟨_, rfl⟩
    obtain ⟨y0, y1, y2, y3, y4, y5, y6, y7, p0, p1, p2, p3, p4, p5, p6, p7, p8, p9, p10, p11, p12, p13, p14, p15, hv⟩ := KP.out _ HB1.out
    have q0 : w.heap.size < w1.heap.size := World.block_lt_of_cell? w1 _ y0
    have q1 : bb < w1.heap.size := World.block_lt_of_cell? w1 _ p0
    have q2 : w.heap.size + 1 < w1.heap.size := (Array.getElem?_eq_some_iff.1 hv).1
    have HVB := Aside0.mk hv
    have z0 : w1.cell? ⟨w.heap.size + 1, 0, none⟩ = some (.int .i64 0) := (blk_cell hv 0).trans rfl
    have z1 : w1.cell? ⟨w.heap.size + 1, 1, none⟩ = some (.int .i64 0) := (blk_cell hv 1).trans rfl
    have z2 : w1.cell? ⟨w.heap.size + 1, 2, none⟩ = some (.string { data := #[] }) := (blk_cell hv 2).trans rfl
    have zf0 := blk_frozen hv 0
    have zf1 := blk_frozen hv 1
    have zf2 := blk_frozen hv 2
    clear hv
    cases b with
    | false =>
      have HHH := HH.out
      simp only [Bool.false_eq_true, if_false, Option.some.injEq, Prod.mk.injEq] at HHH
      obtain ⟨rfl, rfl, rfl, rfl, rfl, rfl⟩ := HHH
      go_wp2
      have HVX := (blk_put (blk_put (blk_put HVB.out 0 (.int .i64 0) rfl) 1 (.int .i64 0) rfl) 2 (.string { data := #[] }) rfl)
      refine bodyPost_ret (results_list (rs := [.tmp 2, .tmp 3, .cell 4 39, .tmp 5]) rfl (by simp) (.tmp (.tmp (.cell (w.heap.size + 1) 39 _ (0, 0) _ rfl HVX huv rfl (by kernel_rfl) (.tmp .nil))))) rfl ?_
      exact ⟨rfl, ((((HBC.out.trans (HB1.out.mono HBC.out.size)).setCell (p := ⟨w.heap.size + 1, 0, none⟩) (by simp) _).setCell (p := ⟨w.heap.size + 1, 1, none⟩) (by simp) _).setCell (p := ⟨w.heap.size + 1, 2, none⟩) (by simp) _)⟩
    | true =>
      have HHH := Aside0.mk HH.out
      clear HH
      obtain ⟨sw, hsw⟩ : ∃ sw : Bool, sw = (decide (x.f0 = 1) && decide (y.f0 = 3)) := ⟨_, rfl⟩
      obtain ⟨u, Au, cu, v, Av, cv, hu1, hu2⟩ : ∃ (u : S41) (Au : Option Addr) (cu : Nat) (v : S41) (Av : Option Addr) (cv : Nat), (sw = true → u = y ∧ Au = A9 ∧ cu = c9 ∧ v = x ∧ Av = A8 ∧ cv = c8) ∧ (sw = false → u = x ∧ Au = A8 ∧ cu = c8 ∧ v = y ∧ Av = A9 ∧ cv = c9) := by
        cases sw with
        | true => exact ⟨y, A9, c9, x, A8, c8, fun _ => ⟨rfl, rfl, rfl, rfl, rfl, rfl⟩, (fun h => by cases h)⟩
        | false => exact ⟨x, A8, c8, y, A9, c9, (fun h => by cases h), fun _ => ⟨rfl, rfl, rfl, rfl, rfl, rfl⟩⟩
      have HSW := Aside0.mk hsw
      have HU1 := Aside0.mk hu1
      have HU2 := Aside0.mk hu2
      clear hsw hu1 hu2
      go_upto_region 6 with (fail)
      go_cut [40] (fun c wc => c = .bool sw ∧ Aside0 (wc = (w1.alloc (.cells #[.int .i64 x.f0, .int .i64 x.f1.f0, .int .i64 x.f1.f1, .string x.f1.f2, .string x.f2, .string x.f3, .int .i64 x.f4, .slice A8 x.f5.length c8] 41)).alloc (.cells #[.int .i64 y.f0, .int .i64 y.f1.f0, .int .i64 y.f1.f1, .string y.f1.f2, .string y.f2, .string y.f3, .int .i64 y.f4, .slice A9 y.f5.length c9] 41)))
      case first =>
        by_cases c1 : x.f0 = 1
        · have d1 : (x.f0 == 1) = true := by simpa using c1
          have hs2 : sw = (y.f0 == 3) := by rw [HSW.out, decide_eq_true c1, Bool.true_and]; rfl
          subst hs2
          clear c1
          go_wp2
          all_goals
            go_meet
            first | exact ⟨rfl, ⟨rfl⟩⟩ | exact ⟨by simp [*], ⟨rfl⟩⟩
        · have d1 : (x.f0 == 1) = false := by simpa using c1
          have hs2 : sw = false := by rw [HSW.out, decide_eq_false c1, Bool.false_and]
          subst hs2
          clear c1
          go_wp2
          go_meet
          exact ⟨rfl, ⟨rfl⟩⟩
      obtain ⟨rfl, HW⟩ := hcut
      have hw := HW.out
      clear HW
      subst hw
      go_upto_if 40 with (fail)
      go_cut [3] (fun v3 wc => v3 = .int .i64 (if sw = true then commonholdref_limitOf.turn a0_0 else a0_0) ∧ Aside0 (wc = (w1.alloc (.cells #[.int .i64 u.f0, .int .i64 u.f1.f0, .int .i64 u.f1.f1, .string u.f1.f2, .string u.f2, .string u.f3, .int .i64 u.f4, .slice Au u.f5.length cu] 41)).alloc (.cells #[.int .i64 v.f0, .int .i64 v.f1.f0, .int .i64 v.f1.f1, .string v.f1.f2, .string v.f2, .string v.f3, .int .i64 v.f4, .slice Av v.f5.length cv] 41)))
      case first =>
        cases sw with
        | true =>
          obtain ⟨rfl, rfl, rfl, rfl, rfl, rfl⟩ := HU1.out rfl
          have hs2 := HSW.out
          have d1 : (v.f0 == 1) = true := by have := hs2; simp at this; simpa using this.1
          have d2 : (u.f0 == 3) = true := by have := hs2; simp at this; simpa using this.2
          clear hs2
          by_cases o15 : a0_0 = 15
          · have q_1 : (a0_0 == 15) = true := by simpa using o15
            have HO := Aside0.mk o15
            clear o15
            go_wp2
            go_meet
            exact ⟨by rw [HO.out]; rfl, ⟨rfl⟩⟩
          by_cases o17 : a0_0 = 17
          · have q_1 : (a0_0 == 15) = false := by simpa using o15
            have q_2 : (a0_0 == 17) = true := by simpa using o17
            have HO := Aside0.mk o17
            clear o15 o17
            go_wp2
            go_meet
            exact ⟨by rw [HO.out]; rfl, ⟨rfl⟩⟩
          by_cases o16 : a0_0 = 16
          · have q_1 : (a0_0 == 15) = false := by simpa using o15
            have q_2 : (a0_0 == 17) = false := by simpa using o17
            have q_3 : (a0_0 == 16) = true := by simpa using o16
            have HO := Aside0.mk o16
            clear o15 o17 o16
            go_wp2
            go_meet
            exact ⟨by rw [HO.out]; rfl, ⟨rfl⟩⟩
          by_cases o18 : a0_0 = 18
          · have q_1 : (a0_0 == 15) = false := by simpa using o15
            have q_2 : (a0_0 == 17) = false := by simpa using o17
            have q_3 : (a0_0 == 16) = false := by simpa using o16
            have q_4 : (a0_0 == 18) = true := by simpa using o18
            have HO := Aside0.mk o18
            clear o15 o17 o16 o18
            go_wp2
            go_meet
            exact ⟨by rw [HO.out]; rfl, ⟨rfl⟩⟩
          have q_1 : (a0_0 == 15) = false := by simpa using o15
          have q_2 : (a0_0 == 17) = false := by simpa using o17
          have q_3 : (a0_0 == 16) = false := by simpa using o16
          have q_4 : (a0_0 == 18) = false := by simpa using o18
          have HO : Aside0 (commonholdref_limitOf.turn a0_0 = a0_0) := ⟨by unfold commonholdref_limitOf.turn; rw [if_neg o15, if_neg o17, if_neg o16, if_neg o18]⟩
          clear o15 o17 o16 o18
          go_wp2
          go_meet
          exact ⟨by simp [HO.out], ⟨rfl⟩⟩
        | false =>
          obtain ⟨rfl, rfl, rfl, rfl, rfl, rfl⟩ := HU2.out rfl
          by_cases c1 : u.f0 = 1
          · have d1 : (u.f0 == 1) = true := by simpa using c1
            have d2 : (v.f0 == 3) = false := by
              have hs2 := HSW.out
              rw [decide_eq_true c1, Bool.true_and] at hs2
              simpa using hs2.symm
            clear c1
            go_wp2
            go_meet
            exact ⟨rfl, ⟨rfl⟩⟩
          · have d1 : (u.f0 == 1) = false := by simpa using c1
            clear c1
            go_wp2
            go_meet
            exact ⟨rfl, ⟨rfl⟩⟩
      case rest =>
        obtain ⟨rfl, HW⟩ := hcut
        have hw := HW.out
        clear HW
        subst hw
        generalize hop : (if sw = true then commonholdref_limitOf.turn a0_0 else a0_0) = op at *
        have HANS : Aside0 (commonholdref_limitOf.ans2 a0_0 op u v = (r1, r2, r3, r4, r5, r6)) := ⟨by
          have h_ := HHH.out
          simp only [if_true, Option.some.injEq] at h_
          rw [← h_, ← hop]
          unfold commonholdref_limitOf.ans
          cases sw with
          | true =>
            obtain ⟨rfl, rfl, rfl, rfl, rfl, rfl⟩ := HU1.out rfl
            have hs2 := HSW.out
            simp at hs2
            rw [if_pos hs2, if_pos rfl]
          | false =>
            obtain ⟨rfl, rfl, rfl, rfl, rfl, rfl⟩ := HU2.out rfl
            have hs2 := HSW.out
            rw [if_neg (show ¬ (u.f0 = 1 ∧ v.f0 = 3) from fun hq => by simp [hq.1, hq.2] at hs2)]
            simp only [Bool.false_eq_true, if_false]⟩
        clear hop HHH HU1 HU2 HSW
        clear p0 p1 p2 p3 p4 p5 p6 p7 p8 p9 p10 p11 p12 p13 p14 p15
        have e0 : ∀ o1 o2 : Obj, ((w1.alloc o1).alloc o2).heap[w.heap.size]? = w1.heap[w.heap.size]? := fun o1 o2 => (commonholdref_limitOf.at_old _ o2 _ (by simp; omega)).trans (commonholdref_limitOf.at_old _ o1 _ (by omega))
        have hsz : w.heap.size + 1 < w1.heap.size := q2
        by_cases c3 : u.f0 = 3
        rotate_left
        · have q_1 : (u.f0 != 3) = true := by simpa using c3
          have h_ := HANS.out
          unfold commonholdref_limitOf.ans2 at h_
          rw [if_neg (by rintro ⟨h1_, _⟩; exact c3 h1_)] at h_
          simp only [Prod.mk.injEq] at h_
          obtain ⟨rfl, rfl, rfl, rfl, rfl, rfl⟩ := h_
          clear c3
          go_wp2
          have HVX := (commonholdref_limitOf.at_old _ (.cells #[.int .i64 v.f0, .int .i64 v.f1.f0, .int .i64 v.f1.f1, .string v.f1.f2, .string v.f2, .string v.f3, .int .i64 v.f4, .slice Av v.f5.length cv] 41) _ (by simp; omega)).trans ((commonholdref_limitOf.at_old _ (.cells #[.int .i64 u.f0, .int .i64 u.f1.f0, .int .i64 u.f1.f1, .string u.f1.f2, .string u.f2, .string u.f3, .int .i64 u.f4, .slice Au u.f5.length cu] 41) _ (by simp; omega)).trans (blk_put (blk_put (blk_put HVB.out 0 (.int .i64 0) rfl) 1 (.int .i64 0) rfl) 2 (.string { data := #[] }) rfl))
          refine bodyPost_ret (results_list (rs := [.tmp 2, .tmp 3, .cell 4 39, .tmp 5]) rfl (by simp) (.tmp (.tmp (.cell (w.heap.size + 1) 39 _ (0, 0) _ rfl HVX huv rfl (by kernel_rfl) (.tmp .nil))))) rfl ?_
          exact ⟨rfl, below_alloc (below_alloc ((((HBC.out.trans (HB1.out.mono HBC.out.size)).setCell (p := ⟨w.heap.size + 1, 0, none⟩) (by simp) _).setCell (p := ⟨w.heap.size + 1, 1, none⟩) (by simp) _).setCell (p := ⟨w.heap.size + 1, 2, none⟩) (by simp) _) _) _⟩
        by_cases c1 : v.f0 = 1
        rotate_left
        · have q_1 : (u.f0 != 3) = false := by simpa using c3
          have q_2 : (v.f0 != 1) = true := by simpa using c1
          have h_ := HANS.out
          unfold commonholdref_limitOf.ans2 at h_
          rw [if_neg (by rintro ⟨_, h1_, _⟩; exact c1 h1_)] at h_
          simp only [Prod.mk.injEq] at h_
          obtain ⟨rfl, rfl, rfl, rfl, rfl, rfl⟩ := h_
          clear c3 c1
          go_wp2
          have HVX := (commonholdref_limitOf.at_old _ (.cells #[.int .i64 v.f0, .int .i64 v.f1.f0, .int .i64 v.f1.f1, .string v.f1.f2, .string v.f2, .string v.f3, .int .i64 v.f4, .slice Av v.f5.length cv] 41) _ (by simp; omega)).trans ((commonholdref_limitOf.at_old _ (.cells #[.int .i64 u.f0, .int .i64 u.f1.f0, .int .i64 u.f1.f1, .string u.f1.f2, .string u.f2, .string u.f3, .int .i64 u.f4, .slice Au u.f5.length cu] 41) _ (by simp; omega)).trans (blk_put (blk_put (blk_put HVB.out 0 (.int .i64 0) rfl) 1 (.int .i64 0) rfl) 2 (.string { data := #[] }) rfl))
          refine bodyPost_ret (results_list (rs := [.tmp 2, .tmp 3, .cell 4 39, .tmp 5]) rfl (by simp) (.tmp (.tmp (.cell (w.heap.size + 1) 39 _ (0, 0) _ rfl HVX huv rfl (by kernel_rfl) (.tmp .nil))))) rfl ?_
          exact ⟨rfl, below_alloc (below_alloc ((((HBC.out.trans (HB1.out.mono HBC.out.size)).setCell (p := ⟨w.heap.size + 1, 0, none⟩) (by simp) _).setCell (p := ⟨w.heap.size + 1, 1, none⟩) (by simp) _).setCell (p := ⟨w.heap.size + 1, 2, none⟩) (by simp) _) _) _⟩
        by_cases c0 : v.f1.f0 = 0
        · have q_1 : (u.f0 != 3) = false := by simpa using c3
          have q_2 : (v.f0 != 1) = false := by simpa using c1
          have q_3 : (v.f1.f0 == 0) = true := by simpa using c0
          have h_ := HANS.out
          unfold commonholdref_limitOf.ans2 at h_
          rw [if_neg (by rintro ⟨_, _, h1_, _⟩; exact h1_ c0)] at h_
          simp only [Prod.mk.injEq] at h_
          obtain ⟨rfl, rfl, rfl, rfl, rfl, rfl⟩ := h_
          clear c3 c1 c0
          go_wp2
          have HVX := (commonholdref_limitOf.at_old _ (.cells #[.int .i64 v.f0, .int .i64 v.f1.f0, .int .i64 v.f1.f1, .string v.f1.f2, .string v.f2, .string v.f3, .int .i64 v.f4, .slice Av v.f5.length cv] 41) _ (by simp; omega)).trans ((commonholdref_limitOf.at_old _ (.cells #[.int .i64 u.f0, .int .i64 u.f1.f0, .int .i64 u.f1.f1, .string u.f1.f2, .string u.f2, .string u.f3, .int .i64 u.f4, .slice Au u.f5.length cu] 41) _ (by simp; omega)).trans (blk_put (blk_put (blk_put HVB.out 0 (.int .i64 0) rfl) 1 (.int .i64 0) rfl) 2 (.string { data := #[] }) rfl))
          refine bodyPost_ret (results_list (rs := [.tmp 2, .tmp 3, .cell 4 39, .tmp 5]) rfl (by simp) (.tmp (.tmp (.cell (w.heap.size + 1) 39 _ (0, 0) _ rfl HVX huv rfl (by kernel_rfl) (.tmp .nil))))) rfl ?_
          exact ⟨rfl, below_alloc (below_alloc ((((HBC.out.trans (HB1.out.mono HBC.out.size)).setCell (p := ⟨w.heap.size + 1, 0, none⟩) (by simp) _).setCell (p := ⟨w.heap.size + 1, 1, none⟩) (by simp) _).setCell (p := ⟨w.heap.size + 1, 2, none⟩) (by simp) _) _) _⟩
        have q_1 : (u.f0 != 3) = false := by simpa using c3
        have q_2 : (v.f0 != 1) = false := by simpa using c1
        have q_3 : (v.f1.f0 == 0) = false := by simpa using c0
        by_cases cs : commonholdref_limitOf.set a0_0
        rotate_left
        · have t_1 : (a0_0 != 13) = true := by rw [bne_iff_ne]; exact fun h => cs (.inl h)
          have t_2 : (a0_0 != 15) = true := by rw [bne_iff_ne]; exact fun h => cs (.inr (.inl h))
          have t_3 : (a0_0 != 16) = true := by rw [bne_iff_ne]; exact fun h => cs (.inr (.inr (.inl h)))
          have t_4 : (a0_0 != 17) = true := by rw [bne_iff_ne]; exact fun h => cs (.inr (.inr (.inr (.inl h))))
          have t_5 : (a0_0 != 18) = true := by rw [bne_iff_ne]; exact fun h => cs (.inr (.inr (.inr (.inr h))))
          have h_ := HANS.out
          unfold commonholdref_limitOf.ans2 at h_
          rw [if_neg (by rintro ⟨_, _, _, h1_⟩; exact cs h1_)] at h_
          simp only [Prod.mk.injEq] at h_
          obtain ⟨rfl, rfl, rfl, rfl, rfl, rfl⟩ := h_
          clear c3 c1 c0 cs
          go_wp2
          have HVX := (commonholdref_limitOf.at_old _ (.cells #[.int .i64 v.f0, .int .i64 v.f1.f0, .int .i64 v.f1.f1, .string v.f1.f2, .string v.f2, .string v.f3, .int .i64 v.f4, .slice Av v.f5.length cv] 41) _ (by simp; omega)).trans ((commonholdref_limitOf.at_old _ (.cells #[.int .i64 u.f0, .int .i64 u.f1.f0, .int .i64 u.f1.f1, .string u.f1.f2, .string u.f2, .string u.f3, .int .i64 u.f4, .slice Au u.f5.length cu] 41) _ (by simp; omega)).trans (blk_put (blk_put (blk_put HVB.out 0 (.int .i64 0) rfl) 1 (.int .i64 0) rfl) 2 (.string { data := #[] }) rfl))
          refine bodyPost_ret (results_list (rs := [.tmp 2, .tmp 3, .cell 4 39, .tmp 5]) rfl (by simp) (.tmp (.tmp (.cell (w.heap.size + 1) 39 _ (0, 0) _ rfl HVX huv rfl (by kernel_rfl) (.tmp .nil))))) rfl ?_
          exact ⟨rfl, below_alloc (below_alloc ((((HBC.out.trans (HB1.out.mono HBC.out.size)).setCell (p := ⟨w.heap.size + 1, 0, none⟩) (by simp) _).setCell (p := ⟨w.heap.size + 1, 1, none⟩) (by simp) _).setCell (p := ⟨w.heap.size + 1, 2, none⟩) (by simp) _) _) _⟩
        have h_ := HANS.out
        unfold commonholdref_limitOf.ans2 at h_
        rw [if_pos ⟨c3, c1, c0, cs⟩] at h_
        simp only [Prod.mk.injEq] at h_
        obtain ⟨rfl, rfl, rfl, rfl, rfl, rfl⟩ := h_
        have HCS : Aside0 (commonholdref_limitOf.set a0_0) := ⟨cs⟩
        clear c3 c1 c0 cs
        go_upto_region 19 with (fail)
        go_cut [90] (fun c wc => c = .bool false ∧ Aside0 (wc = (w1.alloc (.cells #[.int .i64 u.f0, .int .i64 u.f1.f0, .int .i64 u.f1.f1, .string u.f1.f2, .string u.f2, .string u.f3, .int .i64 u.f4, .slice Au u.f5.length cu] 41)).alloc (.cells #[.int .i64 v.f0, .int .i64 v.f1.f0, .int .i64 v.f1.f1, .string v.f1.f2, .string v.f2, .string v.f3, .int .i64 v.f4, .slice Av v.f5.length cv] 41)))
        case first =>
          rcases HCS.out with h_ | h_ | h_ | h_ | h_
          · have t_0 : (a0_0 != 13) = false := by rw [h_]; rfl
            clear h_
            go_wp2
            go_meet
            exact ⟨rfl, ⟨rfl⟩⟩
          · have t_0 : (a0_0 != 13) = true := by rw [h_]; rfl
            have t_1 : (a0_0 != 15) = false := by rw [h_]; rfl
            clear h_
            go_wp2
            go_meet
            exact ⟨rfl, ⟨rfl⟩⟩
          · have t_0 : (a0_0 != 13) = true := by rw [h_]; rfl
            have t_1 : (a0_0 != 15) = true := by rw [h_]; rfl
            have t_2 : (a0_0 != 16) = false := by rw [h_]; rfl
            clear h_
            go_wp2
            go_meet
            exact ⟨rfl, ⟨rfl⟩⟩
          · have t_0 : (a0_0 != 13) = true := by rw [h_]; rfl
            have t_1 : (a0_0 != 15) = true := by rw [h_]; rfl
            have t_2 : (a0_0 != 16) = true := by rw [h_]; rfl
            have t_3 : (a0_0 != 17) = false := by rw [h_]; rfl
            clear h_
            go_wp2
            go_meet
            exact ⟨rfl, ⟨rfl⟩⟩
          · have t_0 : (a0_0 != 13) = true := by rw [h_]; rfl
            have t_1 : (a0_0 != 15) = true := by rw [h_]; rfl
            have t_2 : (a0_0 != 16) = true := by rw [h_]; rfl
            have t_3 : (a0_0 != 17) = true := by rw [h_]; rfl
            have t_4 : (a0_0 != 18) = false := by rw [h_]; rfl
            clear h_
            go_wp2
            go_meet
            exact ⟨rfl, ⟨rfl⟩⟩
        obtain ⟨rfl, HW⟩ := hcut
        have hw := HW.out
        clear HW
        subst hw
        go_wp2
        go_region
        all_goals
          go_wp2
          have HVX := (commonholdref_limitOf.at_old _ (.cells #[.int .i64 v.f0, .int .i64 v.f1.f0, .int .i64 v.f1.f1, .string v.f1.f2, .string v.f2, .string v.f3, .int .i64 v.f4, .slice Av v.f5.length cv] 41) _ (by simp; omega)).trans ((commonholdref_limitOf.at_old _ (.cells #[.int .i64 u.f0, .int .i64 u.f1.f0, .int .i64 u.f1.f1, .string u.f1.f2, .string u.f2, .string u.f3, .int .i64 u.f4, .slice Au u.f5.length cu] 41) _ (by simp; omega)).trans (blk_put (blk_put (blk_put HVB.out 0 (.int .i64 v.f1.f0) rfl) 1 (.int .i64 v.f1.f1) rfl) 2 (.string v.f1.f2) rfl))
          refine bodyPost_ret (results_list (rs := [.tmp 2, .tmp 3, .cell 4 39, .tmp 5]) rfl (by simp) (.tmp (.tmp (.cell (w.heap.size + 1) 39 _ (0, 0) _ rfl HVX huv rfl (by kernel_rfl) (.tmp .nil))))) rfl ?_
          exact ⟨rfl, below_drew1 (below_alloc (below_alloc ((((HBC.out.trans (HB1.out.mono HBC.out.size)).setCell (p := ⟨w.heap.size + 1, 0, none⟩) (by simp) _).setCell (p := ⟨w.heap.size + 1, 1, none⟩) (by simp) _).setCell (p := ⟨w.heap.size + 1, 2, none⟩) (by simp) _) _) _)⟩

/-! ### commonholdref_Leads: function 13 -/
def commonholdref_Leads.l0 : Nat → List (S41) → Int → Option (Int)
  | 0, _, _ => none
  | k + 1, x0, x3 => if x3 < (x0.length : Int) then (if 0 ≤ x3 then ((commonholdref_limitOf.f k ((rd_T41 x0 x3).f0) ((rd_T41 x0 x3).f1.f0) ((rd_T41 x0 x3).f1.f1) ((rd_T41 x0 x3).f1.f2) ((rd_T41 x0 x3).f2) ((rd_T41 x0 x3).f3) ((rd_T41 x0 x3).f4) ((rd_T41 x0 x3).f5)).bind fun bt158 => (if bt158.2.2.2.2.2 = true then (commonholdref_Leads.l0 k x0 (wrap64 (x3 + 1))) else (some x3))) else (none)) else (some x3)
def commonholdref_Leads.f (k : Nat) (l0 : List (S41)) : Option (Int) := commonholdref_Leads.l0 k l0 0
theorem commonholdref_Leads.mono_l : ∀ k, (∀ y0 y1, LeO (commonholdref_Leads.l0 k y0 y1) (commonholdref_Leads.l0 (k + 1) y0 y1))
  | 0 => fun _ _ r h => by simp [commonholdref_Leads.l0] at h
  | k + 1 => by
    have ih0 := commonholdref_Leads.mono_l k
    · intro y0 y1
      unfold commonholdref_Leads.l0
      repeat' first
      | (with_reducible exact ih0 _ _)
      | (with_reducible exact commonholdref_limitOf.mono _ _ _ _ _ _ _ _ _)
      | (with_reducible exact LeO.refl _)
      | (with_reducible exact LeO.none _)
      | (with_reducible refine LeO.ite ?_ ?_)
      | (with_reducible refine LeO.bind ?_ (fun _ => ?_))
      | exact ih0 _ _
      | exact commonholdref_limitOf.mono _ _ _ _ _ _ _ _ _
      | exact LeO.none _
      | refine LeO.ite ?_ ?_
      | refine LeO.bind ?_ (fun _ => ?_)
theorem commonholdref_Leads.mono : ∀ a0 k, LeO (commonholdref_Leads.f k a0) (commonholdref_Leads.f (k + 1) a0) := by
  intro a0 k
  have ih0 := commonholdref_Leads.mono_l k
  unfold commonholdref_Leads.f
  repeat' first
      | (with_reducible exact ih0 _ _)
      | (with_reducible exact commonholdref_limitOf.mono _ _ _ _ _ _ _ _ _)
      | (with_reducible exact LeO.refl _)
      | (with_reducible exact LeO.none _)
      | (with_reducible refine LeO.ite ?_ ?_)
      | (with_reducible refine LeO.bind ?_ (fun _ => ?_))
      | exact ih0 _ _
      | exact commonholdref_limitOf.mono _ _ _ _ _ _ _ _ _
      | exact LeO.none _
      | refine LeO.ite ?_ ?_
      | refine LeO.bind ?_ (fun _ => ?_)
set_option maxHeartbeats 8000000 in
set_option maxRecDepth 100000 in
theorem commonholdref_Leads.calls (k : Nat) (A0 : Option Addr) (c0 : Nat) (l0 : List (S41)) (r : Int) (w : World) (hr0 : Kd.C k41 w A0 l0.length l0) (hc0 : l0.length ≤ c0) (h : commonholdref_Leads.f k l0 = some r) :
    Calls Tryd.prog 13 #[.slice A0 l0.length c0] w fun e w' => e = .returned (.int .i64 r) ∧ Below w.heap.size w w' := by
  have hu41 := Tryd.underlying41
  have hu39 := Tryd.underlying39
  have HR0 := Aside0.mk hr0
  have HC0 := Aside0.mk hc0
  clear hr0 hc0
  have HB := Aside0.mk (Below.refl w.heap.size w)
  have H : (commonholdref_Leads.l0 k l0 0) = some r := h
  clear h
  have H' := Aside0.mk H
  clear H
  go_enter Tryd.func13, Tryd.ntmps13
  go_wp2
  go_loopg [3] k (fun kq v3 w' => ∃ (x3_1 : Int), v3 = .int .i64 x3_1 ∧ Aside0 (commonholdref_Leads.l0 kq l0 x3_1 = some r) ∧ Aside0 (kq ≤ k) ∧ Aside0 (Below w.heap.size w w'))
  case atStart => exact ⟨(0), (by first | rfl | (simp; done) | (simp [*]; done) | (generalize ByteArray.toList _ = q_; cases q_ <;> rfl)), H', ⟨Nat.le_refl _⟩, ⟨by repeat (first | (with_reducible first | exact HB.out | apply below_alloc | apply pw_below_drewN | apply below_drew1) | exact HB.out)⟩⟩
  case round =>
    clear H'
    try clear c1
    obtain ⟨x3_1, rfl, HA, HK1, HB⟩ := hrel
    cases gk with
    | zero => exact absurd HA.out (by simp [commonholdref_Leads.l0])
    | succ k1 =>
      have H := HA.out
      clear HA
      simp only [commonholdref_Leads.l0] at H
      by_cases c2 : x3_1 < (l0.length : Int)
      · rw [if_pos c2] at H
        have c2b0 : decide (x3_1 < (l0.length : Int)) = true := decide_eq_true c2
        clear c2
        by_cases c3 : 0 ≤ x3_1
        · rw [if_pos c3] at H
          have c3b0 : decide (0 ≤ x3_1) = true := decide_eq_true c3
          clear c3
          replace H := Option.bind_eq_some_iff.mp H
          obtain ⟨⟨t158, t159, t160, t161, t162, t163⟩, A40, H⟩ := H
          replace H : (if t163 = true then (commonholdref_Leads.l0 k1 l0 (wrap64 (x3_1 + 1))) else (some x3_1)) = some r := H
          have A4 := Aside0.mk A40
          clear A40
          by_cases c5 : t163 = true
          · subst c5
            have H1 : (commonholdref_Leads.l0 k1 l0 (wrap64 (x3_1 + 1))) = some r := by rw [if_pos rfl] at H; exact H
            clear H
            have H := H1
            clear H1
            have H' := Aside0.mk H
            clear H
            have p157 : 0 ≤ (x3_1 : Int) := of_decide_eq_true (by first | (with_reducible assumption) | assumption)
            have q157 : x3_1 < (l0.length : Int) := of_decide_eq_true (by first | (with_reducible assumption) | assumption)
            obtain ⟨ad157, A157_7, c157_7, e157, hx157_0, hx157_1, hx157_2, hx157_3, hx157_4, hx157_5, hx157_6, hx157_7, hl157_7, hi157_7⟩ := at_T41 HR0.out x3_1 p157 q157
            cases e157
            replace hx157_0 := (HB.out.cell (World.block_lt_of_cell? w _ hx157_0)).trans hx157_0
            replace hx157_1 := (HB.out.cell (World.block_lt_of_cell? w _ hx157_1)).trans hx157_1
            replace hx157_2 := (HB.out.cell (World.block_lt_of_cell? w _ hx157_2)).trans hx157_2
            replace hx157_3 := (HB.out.cell (World.block_lt_of_cell? w _ hx157_3)).trans hx157_3
            replace hx157_4 := (HB.out.cell (World.block_lt_of_cell? w _ hx157_4)).trans hx157_4
            replace hx157_5 := (HB.out.cell (World.block_lt_of_cell? w _ hx157_5)).trans hx157_5
            replace hx157_6 := (HB.out.cell (World.block_lt_of_cell? w _ hx157_6)).trans hx157_6
            replace hx157_7 := (HB.out.cell (World.block_lt_of_cell? w _ hx157_7)).trans hx157_7
            have HR157_7 := Aside0.mk hi157_7
            have HC157_7 := Aside0.mk hl157_7
            clear hi157_7 hl157_7
            replace p157 := eq_true p157
            replace q157 := eq_true q157
            go_wp2_with (first | ((with_reducible refine gate_callee (f := 24) rfl ?_); refine goesL_ (some 17) rfl rfl Tryd.func24 (by kernel_rfl) rfl #[.agg #[.int .i64 ((rd_T41 l0 x3_1).f0), .int .i64 ((rd_T41 l0 x3_1).f1.f0), .int .i64 ((rd_T41 l0 x3_1).f1.f1), .string ((rd_T41 l0 x3_1).f1.f2), .string ((rd_T41 l0 x3_1).f2), .string ((rd_T41 l0 x3_1).f3), .int .i64 ((rd_T41 l0 x3_1).f4), .slice A157_7 ((rd_T41 l0 x3_1).f5).length c157_7]] rfl (by (try simp only [List.map_toArray, List.map_cons, List.map_nil]); first | done | rfl | (simp only [List.length_drop, List.length_take]; rfl)) ?_; (with_reducible refine (commonholdref_limitOf.calls k1 ((rd_T41 l0 x3_1).f0) ((rd_T41 l0 x3_1).f1.f0) ((rd_T41 l0 x3_1).f1.f1) ((rd_T41 l0 x3_1).f1.f2) ((rd_T41 l0 x3_1).f2) ((rd_T41 l0 x3_1).f3) ((rd_T41 l0 x3_1).f4) _ _ ((rd_T41 l0 x3_1).f5) t158 t159 t160 t161 t162 true _ ?side1 ?side2 A4.out).mono ?_); (case side1 => repeat (first | exact (Kd.C_below HR157_7.out HB.out) | (with_reducible refine Kd.C_alloc ?_ _) | (with_reducible refine Kd.C_drewN ?_ _) | (with_reducible refine Kd.C_drew ?_))); (case side2 => exact HC157_7.out); rintro e w6 ⟨rfl, hb⟩; refine ⟨_, rfl, ?_⟩; have n0_ := Aside0.mk (below_step (by repeat (first | (with_reducible first | exact HB.out | apply below_alloc | apply pw_below_drewN | apply below_drew1) | exact HB.out)) hb); clear HB; have HB := n0_; clear n0_; (try clear hb); (try clear hb2); (try clear hk); (try clear hi)) | ((with_reducible refine gate_dst (N := 6) rfl ?_); refine box_event ?hg (N := 6) ?hd (cs := #[.int .i64 0, .int .i64 0, .string (⟨#[]⟩ : ByteArray)]) (t := 39) ?hr ?_; (case hd => rfl); (case hg => rfl); (case hr => first | (go_simp; done) | (go_simp; rfl)); intro gb164 hg w7 hbox hb; have n0_ := Aside0.mk (below_step (by repeat (first | (with_reducible first | exact HB.out | apply below_alloc | apply pw_below_drewN | apply below_drew1) | exact HB.out)) hb); have n1_ := Aside0.mk (hbox); have n2_ := Aside0.mk ((by rw [hg]; exact (below_size (by repeat (first | (with_reducible first | exact HB.out | apply below_alloc | apply pw_below_drewN | apply below_drew1) | exact HB.out))) : w.heap.size ≤ gb164)); have n3_ := Aside0.mk ((by rw [hg]; exact (below_size (by repeat (first | (with_reducible first | exact HB.out | apply below_alloc | apply pw_below_drewN | apply below_drew1) | exact HB.out))) : w.heap.size ≤ gb164)); clear HB; have HB := n0_; have BK164 := n1_; have GW164 := n2_; have GE164 := n3_; clear n0_ n1_ n2_ n3_; clear hb hbox hg; have hcz8_0 : w7.cell? ⟨gb164, 0, none⟩ = some (.int .i64 0) := (blk_cell BK164.out 0).trans rfl; have hcz8_1 : w7.cell? ⟨gb164, 1, none⟩ = some (.int .i64 0) := (blk_cell BK164.out 1).trans rfl; have hcz8_2 : w7.cell? ⟨gb164, 2, none⟩ = some (.string (⟨#[]⟩ : ByteArray)) := (blk_cell BK164.out 2).trans rfl; have hfz8_0 := blk_frozen BK164.out 0; have hfz8_1 := blk_frozen BK164.out 1; have hfz8_2 := blk_frozen BK164.out 2))
            go_roundg k1
            case measure => have := HK1.out; omega
            case rel => exact ⟨(wrap64 (x3_1 + 1)), (by first | rfl | (simp; done) | (simp [*]; done) | (generalize ByteArray.toList _ = q_; cases q_ <;> rfl)), H', ⟨by have := HK1.out; omega⟩, ⟨by repeat (first | (with_reducible first | exact HB.out | apply below_alloc | apply pw_below_drewN | apply below_drew1 | refine below_set ?_ GE164.out) | exact HB.out)⟩⟩
          · replace c5 := Bool.eq_false_iff.mpr c5
            subst c5
            have H1 : (some x3_1) = some r := by rw [if_neg (show ¬ (false = true) by decide)] at H; exact H
            clear H
            have H := H1
            clear H1
            obtain rfl := Option.some.inj H
            have p157 : 0 ≤ (x3_1 : Int) := of_decide_eq_true (by first | (with_reducible assumption) | assumption)
            have q157 : x3_1 < (l0.length : Int) := of_decide_eq_true (by first | (with_reducible assumption) | assumption)
            obtain ⟨ad157, A157_7, c157_7, e157, hx157_0, hx157_1, hx157_2, hx157_3, hx157_4, hx157_5, hx157_6, hx157_7, hl157_7, hi157_7⟩ := at_T41 HR0.out x3_1 p157 q157
            cases e157
            replace hx157_0 := (HB.out.cell (World.block_lt_of_cell? w _ hx157_0)).trans hx157_0
            replace hx157_1 := (HB.out.cell (World.block_lt_of_cell? w _ hx157_1)).trans hx157_1
            replace hx157_2 := (HB.out.cell (World.block_lt_of_cell? w _ hx157_2)).trans hx157_2
            replace hx157_3 := (HB.out.cell (World.block_lt_of_cell? w _ hx157_3)).trans hx157_3
            replace hx157_4 := (HB.out.cell (World.block_lt_of_cell? w _ hx157_4)).trans hx157_4
            replace hx157_5 := (HB.out.cell (World.block_lt_of_cell? w _ hx157_5)).trans hx157_5
            replace hx157_6 := (HB.out.cell (World.block_lt_of_cell? w _ hx157_6)).trans hx157_6
            replace hx157_7 := (HB.out.cell (World.block_lt_of_cell? w _ hx157_7)).trans hx157_7
            have HR157_7 := Aside0.mk hi157_7
            have HC157_7 := Aside0.mk hl157_7
            clear hi157_7 hl157_7
            replace p157 := eq_true p157
            replace q157 := eq_true q157
            go_wp2_with (first | ((with_reducible refine gate_callee (f := 24) rfl ?_); refine goesL_ (some 17) rfl rfl Tryd.func24 (by kernel_rfl) rfl #[.agg #[.int .i64 ((rd_T41 l0 x3_1).f0), .int .i64 ((rd_T41 l0 x3_1).f1.f0), .int .i64 ((rd_T41 l0 x3_1).f1.f1), .string ((rd_T41 l0 x3_1).f1.f2), .string ((rd_T41 l0 x3_1).f2), .string ((rd_T41 l0 x3_1).f3), .int .i64 ((rd_T41 l0 x3_1).f4), .slice A157_7 ((rd_T41 l0 x3_1).f5).length c157_7]] rfl (by (try simp only [List.map_toArray, List.map_cons, List.map_nil]); first | done | rfl | (simp only [List.length_drop, List.length_take]; rfl)) ?_; (with_reducible refine (commonholdref_limitOf.calls k1 ((rd_T41 l0 x3_1).f0) ((rd_T41 l0 x3_1).f1.f0) ((rd_T41 l0 x3_1).f1.f1) ((rd_T41 l0 x3_1).f1.f2) ((rd_T41 l0 x3_1).f2) ((rd_T41 l0 x3_1).f3) ((rd_T41 l0 x3_1).f4) _ _ ((rd_T41 l0 x3_1).f5) t158 t159 t160 t161 t162 false _ ?side1 ?side2 A4.out).mono ?_); (case side1 => repeat (first | exact (Kd.C_below HR157_7.out HB.out) | (with_reducible refine Kd.C_alloc ?_ _) | (with_reducible refine Kd.C_drewN ?_ _) | (with_reducible refine Kd.C_drew ?_))); (case side2 => exact HC157_7.out); rintro e w9 ⟨rfl, hb⟩; refine ⟨_, rfl, ?_⟩; have n0_ := Aside0.mk (below_step (by repeat (first | (with_reducible first | exact HB.out | apply below_alloc | apply pw_below_drewN | apply below_drew1) | exact HB.out)) hb); clear HB; have HB := n0_; clear n0_; (try clear hb); (try clear hb2); (try clear hk); (try clear hi)) | ((with_reducible refine gate_dst (N := 6) rfl ?_); refine box_event ?hg (N := 6) ?hd (cs := #[.int .i64 0, .int .i64 0, .string (⟨#[]⟩ : ByteArray)]) (t := 39) ?hr ?_; (case hd => rfl); (case hg => rfl); (case hr => first | (go_simp; done) | (go_simp; rfl)); intro gb164 hg w10 hbox hb; have n0_ := Aside0.mk (below_step (by repeat (first | (with_reducible first | exact HB.out | apply below_alloc | apply pw_below_drewN | apply below_drew1) | exact HB.out)) hb); have n1_ := Aside0.mk (hbox); have n2_ := Aside0.mk ((by rw [hg]; exact (below_size (by repeat (first | (with_reducible first | exact HB.out | apply below_alloc | apply pw_below_drewN | apply below_drew1) | exact HB.out))) : w.heap.size ≤ gb164)); have n3_ := Aside0.mk ((by rw [hg]; exact (below_size (by repeat (first | (with_reducible first | exact HB.out | apply below_alloc | apply pw_below_drewN | apply below_drew1) | exact HB.out))) : w.heap.size ≤ gb164)); clear HB; have HB := n0_; have BK164 := n1_; have GW164 := n2_; have GE164 := n3_; clear n0_ n1_ n2_ n3_; clear hb hbox hg; have hcz11_0 : w10.cell? ⟨gb164, 0, none⟩ = some (.int .i64 0) := (blk_cell BK164.out 0).trans rfl; have hcz11_1 : w10.cell? ⟨gb164, 1, none⟩ = some (.int .i64 0) := (blk_cell BK164.out 1).trans rfl; have hcz11_2 : w10.cell? ⟨gb164, 2, none⟩ = some (.string (⟨#[]⟩ : ByteArray)) := (blk_cell BK164.out 2).trans rfl; have hfz11_0 := blk_frozen BK164.out 0; have hfz11_1 := blk_frozen BK164.out 1; have hfz11_2 := blk_frozen BK164.out 2))
            go_ret
            exact ⟨by first | rfl | (simp [errW_none, errW_some] <;> rfl) | (simp [*, errW_none, errW_some] <;> rfl), by repeat (first | (with_reducible first | exact HB.out | apply below_alloc | apply pw_below_drewN | apply below_drew1 | refine below_set ?_ GE164.out) | exact HB.out)⟩
        · rw [if_neg c3] at H
          exact absurd H (by simp)
      · rw [if_neg c2] at H
        have c2b0 : decide (x3_1 < (l0.length : Int)) = false := decide_eq_false c2
        clear c2
        obtain rfl := Option.some.inj H
        go_wp2
        go_ret
        exact ⟨by first | rfl | (simp [errW_none, errW_some] <;> rfl) | (simp [*, errW_none, errW_some] <;> rfl), by repeat (first | (with_reducible first | exact HB.out | apply below_alloc | apply pw_below_drewN | apply below_drew1) | exact HB.out)⟩

/-! ### commonholdlaw_PlanLeads: function 4 -/
def commonholdlaw_PlanLeads.f (k : Nat) (l0 : List (S41)) : Option (Bool) := (plan_Lead.f k l0).bind fun t165 => ((commonholdref_Leads.f k l0).bind fun t166 => (some (t165 == t166)))
theorem commonholdlaw_PlanLeads.mono : ∀ a0 k, LeO (commonholdlaw_PlanLeads.f k a0) (commonholdlaw_PlanLeads.f (k + 1) a0) := by
  intro a0 k
  unfold commonholdlaw_PlanLeads.f
  repeat' first
      | (with_reducible exact commonholdref_Leads.mono _ _)
      | (with_reducible exact plan_Lead.mono _ _)
      | (with_reducible exact LeO.refl _)
      | (with_reducible exact LeO.none _)
      | (with_reducible refine LeO.ite ?_ ?_)
      | (with_reducible refine LeO.bind ?_ (fun _ => ?_))
      | exact commonholdref_Leads.mono _ _
      | exact plan_Lead.mono _ _
      | exact LeO.none _
      | refine LeO.ite ?_ ?_
      | refine LeO.bind ?_ (fun _ => ?_)
set_option maxHeartbeats 8000000 in
set_option maxRecDepth 100000 in
theorem commonholdlaw_PlanLeads.calls (k : Nat) (A0 : Option Addr) (c0 : Nat) (l0 : List (S41)) (r : Bool) (w : World) (hr0 : Kd.C k41 w A0 l0.length l0) (hc0 : l0.length ≤ c0) (hL : LD w) (h : commonholdlaw_PlanLeads.f k l0 = some r) :
    Calls Tryd.prog 4 #[.slice A0 l0.length c0] w fun e w' => e = .returned (.bool r) ∧ Below w.heap.size w w' := by
  have HLD := Aside0.mk hL
  clear hL
  have HR0 := Aside0.mk hr0
  have HC0 := Aside0.mk hc0
  clear hr0 hc0
  have HB := Aside0.mk (Below.refl w.heap.size w)
  have H : ((plan_Lead.f k l0).bind fun t165 => ((commonholdref_Leads.f k l0).bind fun t166 => (some (t165 == t166)))) = some r := h
  clear h
  replace H := Option.bind_eq_some_iff.mp H
  obtain ⟨t165, A20, H⟩ := H
  replace H : ((commonholdref_Leads.f k l0).bind fun t166 => (some (t165 == t166))) = some r := H
  have A2 := Aside0.mk A20
  clear A20
  replace H := Option.bind_eq_some_iff.mp H
  obtain ⟨t166, A30, H⟩ := H
  replace H : (some (t165 == t166)) = some r := H
  have A3 := Aside0.mk A30
  clear A30
  obtain rfl := Option.some.inj H
  go_enter Tryd.func4, Tryd.ntmps4
  go_wp2_with (first | ((with_reducible refine gate_callee (f := 12) rfl ?_); refine goesL_ (some 4) rfl rfl Tryd.func12 (by kernel_rfl) rfl #[.slice A0 l0.length c0] rfl (by (try simp only [List.map_toArray, List.map_cons, List.map_nil]); first | done | rfl | (simp only [List.length_drop, List.length_take]; rfl)) ?_; (with_reducible refine (plan_Lead.calls k _ _ l0 t165 _ ?side1 ?side2 ?side3 A2.out).mono ?_); (case side1 => repeat (first | exact HR0.out | (with_reducible refine Kd.C_alloc ?_ _) | (with_reducible refine Kd.C_drewN ?_ _) | (with_reducible refine Kd.C_drew ?_))); (case side2 => exact HC0.out); (case side3 => exact LD.below HLD.out (by first | (with_reducible exact Below.refl _ _) | ((repeat (first | (with_reducible exact Below.refl _ _) | (with_reducible apply below_alloc) | (with_reducible apply pw_below_drewN) | (with_reducible apply below_drew1))); done) | exact (by repeat (first | (with_reducible first | exact HB.out | apply below_alloc | apply pw_below_drewN | apply below_drew1) | exact HB.out)))); rintro e w4 ⟨rfl, hb⟩; refine ⟨_, rfl, ?_⟩; have n0_ := Aside0.mk (below_step (by repeat (first | (with_reducible first | exact HB.out | apply below_alloc | apply pw_below_drewN | apply below_drew1) | exact HB.out)) hb); clear HB; have HB := n0_; clear n0_; (try clear hb); (try clear hb2); (try clear hk); (try clear hi)) | ((with_reducible refine gate_callee (f := 13) rfl ?_); refine goesL_ (some 6) rfl rfl Tryd.func13 (by kernel_rfl) rfl #[.slice A0 l0.length c0] rfl (by (try simp only [List.map_toArray, List.map_cons, List.map_nil]); first | done | rfl | (simp only [List.length_drop, List.length_take]; rfl)) ?_; (with_reducible refine (commonholdref_Leads.calls k _ _ l0 t166 _ ?side1 ?side2 A3.out).mono ?_); (case side1 => repeat (first | exact (Kd.C_below HR0.out HB.out) | (with_reducible refine Kd.C_alloc ?_ _) | (with_reducible refine Kd.C_drewN ?_ _) | (with_reducible refine Kd.C_drew ?_))); (case side2 => exact HC0.out); rintro e w5 ⟨rfl, hb⟩; refine ⟨_, rfl, ?_⟩; have n0_ := Aside0.mk (below_step (by repeat (first | (with_reducible first | exact HB.out | apply below_alloc | apply pw_below_drewN | apply below_drew1) | exact HB.out)) hb); clear HB; have HB := n0_; clear n0_; (try clear hb); (try clear hb2); (try clear hk); (try clear hi)))
  go_ret
  exact ⟨by first | rfl | (simp [errW_none, errW_some] <;> rfl) | (simp [*, errW_none, errW_some] <;> rfl), by repeat (first | (with_reducible first | exact HB.out | apply below_alloc | apply pw_below_drewN | apply below_drew1) | exact HB.out)⟩

def gd39 (x_ : S39) : Prop := (fun n_ : Int => (Lit.int .i64 n_).wf = true) x_.f0 ∧ (fun n_ : Int => (Lit.int .i64 n_).wf = true) x_.f1 ∧ (fun s_ : ByteArray => s_.size ≤ 9223372036854775807) x_.f2
def zd39 (x_ : S39) : Prop := (fun _ : Int => True) x_.f0 ∧ (fun _ : Int => True) x_.f1 ∧ (fun s_ : ByteArray => s_.size ≤ 140737488351232) x_.f2
def bd39 (x_ : S39) : Nat := ((fun _ : Int => 1) x_.f0 + ((fun _ : Int => 1) x_.f1 + (fun s_ : ByteArray => s_.size + 1) x_.f2)) + 1
inductive gd41 : S41 → Prop
  | mk (x_ : S41) : (fun n_ : Int => (Lit.int .i64 n_).wf = true) x_.f0 → gd39 x_.f1 → (fun s_ : ByteArray => s_.size ≤ 9223372036854775807) x_.f2 → (fun s_ : ByteArray => s_.size ≤ 9223372036854775807) x_.f3 → (fun n_ : Int => (Lit.int .i64 n_).wf = true) x_.f4 → x_.f5.length ≤ 9223372036854775807 → (∀ y_ ∈ x_.f5, gd41 y_) → gd41 x_
inductive zd41 : S41 → Prop
  | mk (x_ : S41) : (fun _ : Int => True) x_.f0 → zd39 x_.f1 → (fun s_ : ByteArray => s_.size ≤ 140737488351232) x_.f2 → (fun s_ : ByteArray => s_.size ≤ 140737488351232) x_.f3 → (fun _ : Int => True) x_.f4 → x_.f5.length * 104 ≤ 140737488351232 → (∀ y_ ∈ x_.f5, zd41 y_) → zd41 x_
def bd41 (x_ : S41) : Nat := ((fun _ : Int => 1) x_.f0 + (bd39 x_.f1 + ((fun s_ : ByteArray => s_.size + 1) x_.f2 + ((fun s_ : ByteArray => s_.size + 1) x_.f3 + ((fun _ : Int => 1) x_.f4 + ((x_.f5.attach.map fun y_ => bd41 y_.1).sum + 1)))))) + 1
termination_by SizeOf.sizeOf x_
decreasing_by all_goals (have h_ := List.sizeOf_lt_of_mem y_.2; cases x_; simp at h_ ⊢; omega)
theorem bd41_eq (x_ : S41) : bd41 x_ = ((fun _ : Int => 1) x_.f0 + (bd39 x_.f1 + ((fun s_ : ByteArray => s_.size + 1) x_.f2 + ((fun s_ : ByteArray => s_.size + 1) x_.f3 + ((fun _ : Int => 1) x_.f4 + ((x_.f5.map bd41).sum + 1)))))) + 1 := by
  rw [bd41]
  simp
/-- THE ONE PURE STATEMENT of commonholdlaw_PlanLeads. -/
def commonholdlaw_PlanLeads.Pure : Prop := ∀ (a0 : List (S41)), (fun xs_ : List (S41) => xs_.length ≤ 9223372036854775807 ∧ ∀ x_ ∈ xs_, gd41 x_) a0 → (fun xs_ : List (S41) => xs_.length * 104 ≤ 140737488351232 ∧ ∀ x_ ∈ xs_, zd41 x_) a0 → ∃ k, commonholdlaw_PlanLeads.f k a0 = some true

end Go.Proofs.YtfkdldaadjhcfaaDoor.PPlanLeads
