-- Written by wip/pp of this repo (over the kit's print, with additions of this session); Lean checks every line.
import Derived.Test.YtdepkigheacdnaaDoorPEvalMaysx0
import Derived.Test.YtdepkigheacdnaaDoorPEvalMaysx2
namespace Go.Proofs.YtdepkigheacdnaaDoor.PEvalMays
open Go.RowKit Go.Proofs.YtdepkigheacdnaaDoorW.PrintWords Go.Proofs.YtdepkigheacdnaaDoorW.PrintLast Go.Proofs.YtdepkigheacdnaaDoorW.PrintMore
attribute [local go_sem] max2_int min2_int max_two min_two max_three min_three max_four min_four   -- for this text's walks alone
set_option linter.unusedVariables false
set_option linter.unusedSimpArgs false

/-! ### eval_expr_may: function 82, by hand -/
-- HAND rounds=1 making=1 laid=1 func=1 imports=Derived.Deep.QuietTactic,Derived.BigQuiet,Derived.Deep.RegionHeld3,Derived.Deep.RegionWith
def eval_expr_may.zeroV (v : S23) : Prop := v.f0 = 0 ∧ v.f1 = 0 ∧ v.f2.toList = []
instance (v : S23) : Decidable (eval_expr_may.zeroV v) := by unfold eval_expr_may.zeroV; infer_instance
def eval_expr_may.fine (w : Int) (e : S53) : Prop := eval_expr_may.zeroV e.f1 ∧ (e.f2 ++ e.f3).toList = [] ∧ e.f5.length = 0 ∧ 0 ≤ e.f4 ∧ e.f4 < w
instance (w : Int) (e : S53) : Decidable (eval_expr_may.fine w e) := by unfold eval_expr_may.fine; infer_instance
def eval_expr_may.parts (op : Int) : Int := if op = 1 then 0 else if 4 ≤ op ∧ op ≤ 7 then 1 else if 8 ≤ op ∧ op ≤ 20 then 2 else -1
def eval_expr_may.all (f : S53 → Option Bool) (z : Bool) : List S53 → Option Bool
  | [] => some z
  | s :: r => (f s).bind fun b => if b = true then eval_expr_may.all f z r else some false
/-- May an expression be asked, n more lying within each other? -/
def eval_expr_may.may (w : Int) (k : Nat) : Nat → S53 → Option Bool
  | 0, _ => some false
  | n + 1, e => if 9223372036854775807 < e.f2.size + e.f3.size then none else if e.f0 = 3 then some (decide (eval_expr_may.fine w e)) else
      if eval_expr_may.parts e.f0 ≠ e.f5.length ∨ ¬ (e.f2 ++ e.f3).toList = [] ∨ e.f4 ≠ 0 then some false else
      if e.f0 = 1 then (value_Check.f k e.f1.f0 e.f1.f1 e.f1.f2).bind fun c => some (decide (c = 0)) else
      eval_expr_may.all (eval_expr_may.may w k n) (decide (eval_expr_may.zeroV e.f1)) e.f5
def eval_expr_may.f (_k : Nat) (_a : Int) : Option Bool := none
theorem eval_expr_may.mono : ∀ a0 k, LeO (eval_expr_may.f k a0) (eval_expr_may.f (k + 1) a0) := fun _ _ => LeO.refl _
set_option maxRecDepth 100000 in
set_option maxHeartbeats 4000000 in
theorem eval_expr_may.placed (wd : Int) (e : S53) (A7 : Option Addr) (c7 : Nat) (n : Int) (g : Nat) (w : World) (hg : w.cell? ⟨g, 0, none⟩ = some (.int .i64 wd)) (hsz : e.f2.size + e.f3.size ≤ 9223372036854775807) :
    Calls Tryd.prog 83 #[.agg #[.int .i64 e.f0, .int .i64 e.f1.f0, .int .i64 e.f1.f1, .string e.f1.f2, .string e.f2, .string e.f3, .int .i64 e.f4, .slice A7 e.f5.length c7], .int .i64 n, .pointer (some ⟨g, 0, none⟩)] w fun r w' => r = .returned (.tuple #[.bool (decide (eval_expr_may.fine wd e)), .bool (e.f0 == 3)]) ∧ Below w.heap.size w w' := by
  have hu := Tryd.underlying53
  have HS := Aside0.mk hsz
  have hgl : g < w.heap.size := World.block_lt_of_cell? w _ hg
  have hs1 : ¬ 9223372036854775807 < e.f2.size + e.f3.size := by omega
  clear hsz
  by_cases z0 : e.f1.f0 = 0
  rotate_left
  · go_enter Tryd.func83, Tryd.ntmps83
    go_wp2
    go_quiet (fail)
    go_wp2
    go_ret2
    exact ⟨by simp [eval_expr_may.fine, eval_expr_may.zeroV, *], pw_below_drewN (below_alloc (Below.refl _ _) _) _⟩
  by_cases z1 : e.f1.f1 = 0
  rotate_left
  · go_enter Tryd.func83, Tryd.ntmps83
    go_wp2
    go_quiet (fail)
    go_wp2
    go_ret2
    exact ⟨by simp [eval_expr_may.fine, eval_expr_may.zeroV, *], pw_below_drewN (below_alloc (Below.refl _ _) _) _⟩
  by_cases z2 : e.f1.f2.toList = []
  rotate_left
  · go_enter Tryd.func83, Tryd.ntmps83
    go_wp2
    go_quiet (fail)
    go_wp2
    go_ret2
    exact ⟨by simp [eval_expr_may.fine, eval_expr_may.zeroV, *], pw_below_drewN (below_alloc (Below.refl _ _) _) _⟩
  by_cases z3 : (e.f2 ++ e.f3).toList = []
  rotate_left
  · go_enter Tryd.func83, Tryd.ntmps83
    go_wp2
    go_quiet (fail)
    go_wp2
    go_ret2
    exact ⟨by simp [eval_expr_may.fine, eval_expr_may.zeroV, *], pw_below_drewN (below_alloc (Below.refl _ _) _) _⟩
  by_cases z4 : e.f5.length = 0
  rotate_left
  · go_enter Tryd.func83, Tryd.ntmps83
    go_wp2
    go_quiet (fail)
    go_wp2
    go_ret2
    exact ⟨by simp [eval_expr_may.fine, eval_expr_may.zeroV, *], pw_below_drewN (below_alloc (Below.refl _ _) _) _⟩
  by_cases z5 : 0 ≤ e.f4
  rotate_left
  · have d5 : decide ((0 : Int) ≤ e.f4) = false := by simpa using z5
    go_enter Tryd.func83, Tryd.ntmps83
    go_wp2
    go_quiet (fail)
    go_wp2
    go_ret2
    exact ⟨by simp [eval_expr_may.fine, eval_expr_may.zeroV, *], pw_below_drewN (below_alloc (Below.refl _ _) _) _⟩
  have d5 : decide ((0 : Int) ≤ e.f4) = true := by simpa using z5
  by_cases z6 : e.f4 < wd
  rotate_left
  · have d6 : decide (e.f4 < wd) = false := by simpa using z6
    go_enter Tryd.func83, Tryd.ntmps83
    go_wp2
    go_quiet (fail)
    go_wp2
    go_ret2
    exact ⟨by simp [eval_expr_may.fine, eval_expr_may.zeroV, *], pw_below_drewN (below_alloc (Below.refl _ _) _) _⟩
  have d6 : decide (e.f4 < wd) = true := by simpa using z6
  go_enter Tryd.func83, Tryd.ntmps83
  go_wp2
  go_quiet (fail)
  go_wp2
  go_ret2
  exact ⟨by simp [eval_expr_may.fine, eval_expr_may.zeroV, *], pw_below_drewN (below_alloc (Below.refl _ _) _) _⟩
theorem eval_expr_may.at_ {w : World} {A : Option Addr} {l : List S53} (h : Kd.C k53 w A l.length l) (h0 : 0 < l.length) : ∃ b o, A = some ⟨b, o, none⟩ ∧ ∀ (i : Nat) (hi : i < l.length), ∃ A7 c7,
    w.cell? ⟨b, o + i * 8, none⟩ = some (.int .i64 l[i].f0) ∧ w.cell? ⟨b, o + i * 8 + 1, none⟩ = some (.int .i64 l[i].f1.f0) ∧ w.cell? ⟨b, o + i * 8 + 2, none⟩ = some (.int .i64 l[i].f1.f1) ∧ w.cell? ⟨b, o + i * 8 + 3, none⟩ = some (.string l[i].f1.f2) ∧
      w.cell? ⟨b, o + i * 8 + 4, none⟩ = some (.string l[i].f2) ∧ w.cell? ⟨b, o + i * 8 + 5, none⟩ = some (.string l[i].f3) ∧ w.cell? ⟨b, o + i * 8 + 6, none⟩ = some (.int .i64 l[i].f4) ∧ w.cell? ⟨b, o + i * 8 + 7, none⟩ = some (.slice A7 l[i].f5.length c7) ∧
      l[i].f5.length ≤ c7 ∧ Kd.C k53 w A7 l[i].f5.length l[i].f5 := by
  obtain ⟨ad, A7, c7, rfl, g0, _⟩ := at_T53 h 0 (by omega) (by omega)
  have hs : ad.spot = none := by
    cases hsp : ad.spot with
    | none => rfl
    | some s =>
      exfalso
      rw [show ad.add ((0 : Int).toNat * 8) = ad from by simp [Addr.add]] at g0
      unfold World.cell? at g0
      split at g0
      · rw [hsp] at g0
        simp at g0
      · cases g0
  obtain ⟨b, o, sp⟩ := ad
  dsimp only at hs
  subst hs
  refine ⟨b, o, rfl, fun i hi => ?_⟩
  obtain ⟨ad, A7, c7, e, g0, g1, g2, g3, g4, g5, g6, g7, l7, r7⟩ := at_T53 h (i : Int) (by omega) (by omega)
  cases e
  have ee : rd_T53 l (i : Int) = l[i] := by simp [rd_T53, List.getD_eq_getElem?_getD, hi]
  have ha : (⟨b, o, none⟩ : Addr).add ((i : Int).toNat * 8) = ⟨b, o + i * 8, none⟩ := by rw [Int.toNat_natCast]; unfold Addr.add; split <;> simp_all
  rw [ee] at g0 g1 g2 g3 g4 g5 g6 g7 l7 r7
  rw [ha] at g0 g1 g2 g3 g4 g5 g6 g7
  exact ⟨A7, c7, g0, g1, g2, g3, g4, g5, g6, g7, l7, r7⟩
theorem eval_expr_may.parts_at (k : Nat) (op a1 a2 : Int) (a3 a4 a5 : ByteArray) (a6 : Int) (l : List S53) : eval_expr_parts.f (k + 1) op a1 a2 a3 a4 a5 a6 l = some (eval_expr_may.parts op) := by
  unfold eval_expr_parts.f eval_expr_may.parts
  by_cases h1 : op = 1
  · rw [if_pos h1, if_pos h1]
  rw [if_neg h1, if_neg h1]
  by_cases h4 : op ≥ 4
  · rw [if_pos h4]
    by_cases h7 : op ≤ 7
    · rw [decide_eq_true h7, if_pos ⟨h4, h7⟩, eval_expr_parts.j0, if_pos rfl]
    · rw [decide_eq_false h7, if_neg (by omega), eval_expr_parts.j0, if_neg (by decide)]
      by_cases h8 : op ≥ 8
      · rw [if_pos h8]
        by_cases h20 : op ≤ 20
        · rw [if_pos h20, if_pos ⟨h8, h20⟩]
        · rw [if_neg h20, if_neg (by omega)]
      · rw [if_neg h8, if_neg (by omega)]
  · rw [if_neg h4, if_neg (by omega), eval_expr_parts.j0, if_neg (by decide), if_neg (by omega), if_neg (by omega)]
set_option maxRecDepth 100000 in
set_option maxHeartbeats 16000000 in
theorem eval_expr_may.asked (wd : Int) (k : Nat) : ∀ (n : Nat) (e : S53) (A7 : Option Addr) (c7 : Nat) (r : Bool) (g : Nat) (w : World), n ≤ 12 → w.cell? ⟨g, 0, none⟩ = some (.int .i64 wd) → Kd.C k53 w A7 e.f5.length e.f5 → e.f5.length ≤ c7 → LD w → eval_expr_may.may wd k n e = some r →
    Calls Tryd.prog 82 #[.agg #[.int .i64 e.f0, .int .i64 e.f1.f0, .int .i64 e.f1.f1, .string e.f1.f2, .string e.f2, .string e.f3, .int .i64 e.f4, .slice A7 e.f5.length c7], .func (.func 83) #[] #[.pointer (some ⟨g, 0, none⟩)], .int .i64 (12 - (n : Int))] w fun x w' => x = .returned (.bool r) ∧ Below w.heap.size w w' := by
  intro n
  induction n with
  | zero =>
    intro e A7 c7 r g w hn hg hr hc hL h
    obtain rfl := Option.some.inj h
    clear h hr hL hg
    go_enter Tryd.func82, Tryd.ntmps82
    go_wp2
    go_ret
    exact ⟨rfl, below_alloc (Below.refl _ _) _⟩
  | succ n ih =>
  intro e A7 c7 r g w hn hg hr hc hL h
  have hm := hr.2.1
  have HR := Aside0.mk hr
  have HL := Aside0.mk hL
  have IH := Aside0.mk ih
  clear hr hL ih
  obtain ⟨m, hm1, hm2⟩ : ∃ m : Int, m = 12 - ((n + 1 : Nat) : Int) ∧ m + 1 = 12 - (n : Int) := ⟨_, rfl, by omega⟩
  rw [← hm1]
  have hm3 : (m == 12) = false := by simp; omega
  have hm4 : IntKind.i64.wrap (m + 1) = m + 1 := by rw [IntKind.wrap_i64]; omega
  have HM := Aside0.mk (And.intro hm1 hm2)
  clear hm1 hm2
  rw [eval_expr_may.may] at h
  by_cases hsz : 9223372036854775807 < e.f2.size + e.f3.size
  · rw [if_pos hsz] at h; cases h
  rw [if_neg hsz] at h
  have hgl : g < w.heap.size := World.block_lt_of_cell? w _ hg
  have hcl : ∀ W : World, Calls Tryd.prog 83 #[.agg #[.int .i64 e.f0, .int .i64 e.f1.f0, .int .i64 e.f1.f1, .string e.f1.f2, .string e.f2, .string e.f3, .int .i64 e.f4, .slice A7 e.f5.length c7], .int .i64 m, .pointer (some ⟨g, 0, none⟩)] (w.alloc (.cells #[.int .i64 e.f0, .int .i64 e.f1.f0, .int .i64 e.f1.f1, .string e.f1.f2, .string e.f2, .string e.f3, .int .i64 e.f4, .slice A7 e.f5.length c7] 112)) fun r w' => r = .returned (.tuple #[.bool (decide (eval_expr_may.fine wd e)), .bool (e.f0 == 3)]) ∧ Below (w.alloc (.cells #[.int .i64 e.f0, .int .i64 e.f1.f0, .int .i64 e.f1.f1, .string e.f1.f2, .string e.f2, .string e.f3, .int .i64 e.f4, .slice A7 e.f5.length c7] 112)).heap.size (w.alloc (.cells #[.int .i64 e.f0, .int .i64 e.f1.f0, .int .i64 e.f1.f1, .string e.f1.f2, .string e.f2, .string e.f3, .int .i64 e.f4, .slice A7 e.f5.length c7] 112)) w' := fun _ => eval_expr_may.placed wd e A7 c7 m g _ ((World.cell?_alloc_past _ _ _ hgl).trans hg) (by omega)
  have HCL := Aside0.mk (hcl w)
  clear hcl
  have keep : ∀ W : World, Below (w.alloc (.cells #[.int .i64 e.f0, .int .i64 e.f1.f0, .int .i64 e.f1.f1, .string e.f1.f2, .string e.f2, .string e.f3, .int .i64 e.f4, .slice A7 e.f5.length c7] 112)).heap.size (w.alloc (.cells #[.int .i64 e.f0, .int .i64 e.f1.f0, .int .i64 e.f1.f1, .string e.f1.f2, .string e.f2, .string e.f3, .int .i64 e.f4, .slice A7 e.f5.length c7] 112)) W → W.cell? ⟨w.heap.size, 0, none⟩ = some (.int .i64 e.f0) ∧ W.cell? ⟨w.heap.size, 1, none⟩ = some (.int .i64 e.f1.f0) ∧ W.cell? ⟨w.heap.size, 2, none⟩ = some (.int .i64 e.f1.f1) ∧ W.cell? ⟨w.heap.size, 3, none⟩ = some (.string e.f1.f2) ∧ W.cell? ⟨w.heap.size, 4, none⟩ = some (.string e.f2) ∧ W.cell? ⟨w.heap.size, 5, none⟩ = some (.string e.f3) ∧ W.cell? ⟨w.heap.size, 6, none⟩ = some (.int .i64 e.f4) ∧ W.cell? ⟨w.heap.size, 7, none⟩ = some (.slice A7 e.f5.length c7) := fun W hb => ⟨pw_cell_below hb (by simp [go_sem]), pw_cell_below hb (by simp [go_sem]), pw_cell_below hb (by simp [go_sem]), pw_cell_below hb (by simp [go_sem]), pw_cell_below hb (by simp [go_sem]), pw_cell_below hb (by simp [go_sem]), pw_cell_below hb (by simp [go_sem]), pw_cell_below hb (by simp [go_sem])⟩
  have KP := Aside0.mk keep
  have HW : Aside0 (∀ W : World, Below (w.alloc (.cells #[.int .i64 e.f0, .int .i64 e.f1.f0, .int .i64 e.f1.f1, .string e.f1.f2, .string e.f2, .string e.f3, .int .i64 e.f4, .slice A7 e.f5.length c7] 112)).heap.size (w.alloc (.cells #[.int .i64 e.f0, .int .i64 e.f1.f0, .int .i64 e.f1.f1, .string e.f1.f2, .string e.f2, .string e.f3, .int .i64 e.f4, .slice A7 e.f5.length c7] 112)) W → Below w.heap.size w W) := ⟨fun W hb => (below_alloc (Below.refl _ _) _).trans (hb.mono (below_alloc (Below.refl _ _) _).size)⟩
  clear keep
  by_cases h3 : e.f0 = 3
  · rw [if_pos h3] at h
    obtain rfl := Option.some.inj h
    have h3' : (e.f0 == 3) = true := by simpa using h3
    clear h h3
    go_enter Tryd.func82, Tryd.ntmps82
    go_wp2_with (go_at_call 83; (with_reducible refine HCL.out.mono ?_); rintro x w1 ⟨rfl, hb⟩; have HB := Aside0.mk hb; clear hb)
    go_ret
    exact ⟨rfl, HW.out _ HB.out⟩
  rw [if_neg h3] at h
  have h3' : (e.f0 == 3) = false := by simpa using h3
  have HPC : Aside0 (∀ W : World, Below (w.alloc (.cells #[.int .i64 e.f0, .int .i64 e.f1.f0, .int .i64 e.f1.f1, .string e.f1.f2, .string e.f2, .string e.f3, .int .i64 e.f4, .slice A7 e.f5.length c7] 112)).heap.size (w.alloc (.cells #[.int .i64 e.f0, .int .i64 e.f1.f0, .int .i64 e.f1.f1, .string e.f1.f2, .string e.f2, .string e.f3, .int .i64 e.f4, .slice A7 e.f5.length c7] 112)) W → Calls Tryd.prog 93 #[.agg #[.int .i64 e.f0, .int .i64 e.f1.f0, .int .i64 e.f1.f1, .string e.f1.f2, .string e.f2, .string e.f3, .int .i64 e.f4, .slice A7 e.f5.length c7]] W fun x w' => x = .returned (.int .i64 (eval_expr_may.parts e.f0)) ∧ Below (w.alloc (.cells #[.int .i64 e.f0, .int .i64 e.f1.f0, .int .i64 e.f1.f1, .string e.f1.f2, .string e.f2, .string e.f3, .int .i64 e.f4, .slice A7 e.f5.length c7] 112)).heap.size (w.alloc (.cells #[.int .i64 e.f0, .int .i64 e.f1.f0, .int .i64 e.f1.f1, .string e.f1.f2, .string e.f2, .string e.f3, .int .i64 e.f4, .slice A7 e.f5.length c7] 112)) w') :=
    ⟨fun W hb => (eval_expr_parts.calls 1 _ _ _ _ _ _ _ A7 c7 e.f5 _ W (Kd.C_below HR.out (HW.out W hb)) hc (eval_expr_may.parts_at 0 _ _ _ _ _ _ _ _)).mono fun x w' ⟨hx, hd⟩ => ⟨hx, hb.trans (hd.mono hb.size)⟩⟩
  have KP2 : Aside0 (∀ W : World, Below (w.alloc (.cells #[.int .i64 e.f0, .int .i64 e.f1.f0, .int .i64 e.f1.f1, .string e.f1.f2, .string e.f2, .string e.f3, .int .i64 e.f4, .slice A7 e.f5.length c7] 112)).heap.size (w.alloc (.cells #[.int .i64 e.f0, .int .i64 e.f1.f0, .int .i64 e.f1.f1, .string e.f1.f2, .string e.f2, .string e.f3, .int .i64 e.f4, .slice A7 e.f5.length c7] 112)) W → Below (w.alloc (.cells #[.int .i64 e.f0, .int .i64 e.f1.f0, .int .i64 e.f1.f1, .string e.f1.f2, .string e.f2, .string e.f3, .int .i64 e.f4, .slice A7 e.f5.length c7] 112)).heap.size (w.alloc (.cells #[.int .i64 e.f0, .int .i64 e.f1.f0, .int .i64 e.f1.f1, .string e.f1.f2, .string e.f2, .string e.f3, .int .i64 e.f4, .slice A7 e.f5.length c7] 112)) W ∧ W.cell? ⟨w.heap.size, 0, none⟩ = some (.int .i64 e.f0) ∧ W.cell? ⟨w.heap.size, 1, none⟩ = some (.int .i64 e.f1.f0) ∧ W.cell? ⟨w.heap.size, 2, none⟩ = some (.int .i64 e.f1.f1) ∧ W.cell? ⟨w.heap.size, 3, none⟩ = some (.string e.f1.f2) ∧ W.cell? ⟨w.heap.size, 4, none⟩ = some (.string e.f2) ∧ W.cell? ⟨w.heap.size, 5, none⟩ = some (.string e.f3) ∧ W.cell? ⟨w.heap.size, 6, none⟩ = some (.int .i64 e.f4) ∧ W.cell? ⟨w.heap.size, 7, none⟩ = some (.slice A7 e.f5.length c7)) := ⟨fun W hb => ⟨hb, KP.out W hb⟩⟩
  clear h3
  generalize hP : eval_expr_may.parts e.f0 = P at *
  clear hP
  by_cases c1 : P = e.f5.length
  rotate_left
  · rw [if_pos (.inl c1)] at h
    obtain rfl := Option.some.inj h
    have d1 : (P != (e.f5.length : Int)) = true := by simpa using c1
    clear h c1
    go_enter Tryd.func82, Tryd.ntmps82
    go_wp2_with (go_at_call 83; (with_reducible refine HCL.out.mono ?_); rintro x w1 ⟨rfl, hb⟩; have HB := Aside0.mk hb; clear hb)
    obtain ⟨y, y0, y1, y2, y3, y4, y5, y6, y7⟩ := KP2.out _ HB.out
    first | fail | (go_region_with (go_at_call 93; refine (HPC.out _ (by first | exact HB.out | exact below_drew1 HB.out)).mono ?_; rintro x w2 ⟨rfl, hb2⟩; obtain ⟨z0, z1, z2, z3, z4, z5, z6, z7⟩ := KP.out _ hb2)) | fail
    all_goals
      go_wp2
      go_ret
      exact ⟨rfl, HW.out _ (by first | exact hb2 | exact below_drew1 hb2)⟩
  have d1 : (P != (e.f5.length : Int)) = false := by simpa using c1
  by_cases c2 : (e.f2 ++ e.f3).toList = []
  rotate_left
  · rw [if_pos (.inr (.inl c2))] at h
    obtain rfl := Option.some.inj h
    have d2 : (e.f2 ++ e.f3).toList.isEmpty = false := by cases hq : (e.f2 ++ e.f3).toList with | nil => exact absurd hq c2 | cons _ _ => rfl
    clear h c1
    go_enter Tryd.func82, Tryd.ntmps82
    go_wp2_with (go_at_call 83; (with_reducible refine HCL.out.mono ?_); rintro x w1 ⟨rfl, hb⟩; have HB := Aside0.mk hb; clear hb)
    obtain ⟨y, y0, y1, y2, y3, y4, y5, y6, y7⟩ := KP2.out _ HB.out
    first | fail | (go_region_with (go_at_call 93; refine (HPC.out _ (by first | exact HB.out | exact below_drew1 HB.out)).mono ?_; rintro x w2 ⟨rfl, hb2⟩; obtain ⟨z0, z1, z2, z3, z4, z5, z6, z7⟩ := KP.out _ hb2)) | fail
    all_goals
      go_wp2
      go_ret
      exact ⟨rfl, HW.out _ (by first | exact hb2 | exact below_drew1 hb2)⟩
  have d2 : (e.f2 ++ e.f3).toList.isEmpty = true := by rw [c2]; rfl
  by_cases c3 : e.f4 = 0
  rotate_left
  · rw [if_pos (.inr (.inr c3))] at h
    obtain rfl := Option.some.inj h
    have d3 : (e.f4 != 0) = true := by simpa using c3
    clear h c1 c3
    go_enter Tryd.func82, Tryd.ntmps82
    go_wp2_with (go_at_call 83; (with_reducible refine HCL.out.mono ?_); rintro x w1 ⟨rfl, hb⟩; have HB := Aside0.mk hb; clear hb)
    obtain ⟨y, y0, y1, y2, y3, y4, y5, y6, y7⟩ := KP2.out _ HB.out
    first | fail | (go_region_held3 (fun W => Below (w.alloc (.cells #[.int .i64 e.f0, .int .i64 e.f1.f0, .int .i64 e.f1.f1, .string e.f1.f2, .string e.f2, .string e.f3, .int .i64 e.f4, .slice A7 e.f5.length c7] 112)).heap.size (w.alloc (.cells #[.int .i64 e.f0, .int .i64 e.f1.f0, .int .i64 e.f1.f1, .string e.f1.f2, .string e.f2, .string e.f3, .int .i64 e.f4, .slice A7 e.f5.length c7] 112)) W ∧ W.cell? ⟨w.heap.size, 0, none⟩ = some (.int .i64 e.f0) ∧ W.cell? ⟨w.heap.size, 1, none⟩ = some (.int .i64 e.f1.f0) ∧ W.cell? ⟨w.heap.size, 2, none⟩ = some (.int .i64 e.f1.f1) ∧ W.cell? ⟨w.heap.size, 3, none⟩ = some (.string e.f1.f2) ∧ W.cell? ⟨w.heap.size, 4, none⟩ = some (.string e.f2) ∧ W.cell? ⟨w.heap.size, 5, none⟩ = some (.string e.f3) ∧ W.cell? ⟨w.heap.size, 6, none⟩ = some (.int .i64 e.f4) ∧ W.cell? ⟨w.heap.size, 7, none⟩ = some (.slice A7 e.f5.length c7))
      (first | exact KP2.out _ (by assumption) | exact KP2.out _ (below_drew1 (by assumption)))
      ((go_at_call 93; refine (HPC.out _ (by go_split_ands; assumption)).mono ?_; rintro x w2 ⟨rfl, hb2⟩))) | fail
    all_goals
      go_wp2
      go_ret
      exact ⟨rfl, HW.out _ (by first | exact hb2 | exact below_drew1 hb2)⟩
  have d3 : (e.f4 != 0) = false := by simpa using c3
  rw [if_neg (by rintro (h_ | h_ | h_) <;> first | exact h_ c1 | exact h_ c2 | exact h_ c3)] at h
  clear c1 c3
  by_cases c4 : e.f0 = 1
  · rw [if_pos c4] at h
    obtain ⟨c, hck, h⟩ := Option.bind_eq_some_iff.1 h
    obtain rfl := Option.some.inj h
    have HCK := Aside0.mk hck
    have d4 : (e.f0 == 1) = true := by simpa using c4
    clear h hck c4
    go_enter Tryd.func82, Tryd.ntmps82
    go_wp2_with (go_at_call 83; (with_reducible refine HCL.out.mono ?_); rintro x w1 ⟨rfl, hb⟩; have HB := Aside0.mk hb; clear hb)
    obtain ⟨y, y0, y1, y2, y3, y4, y5, y6, y7⟩ := KP2.out _ HB.out
    first | fail | (go_region_held3 (fun W => Below (w.alloc (.cells #[.int .i64 e.f0, .int .i64 e.f1.f0, .int .i64 e.f1.f1, .string e.f1.f2, .string e.f2, .string e.f3, .int .i64 e.f4, .slice A7 e.f5.length c7] 112)).heap.size (w.alloc (.cells #[.int .i64 e.f0, .int .i64 e.f1.f0, .int .i64 e.f1.f1, .string e.f1.f2, .string e.f2, .string e.f3, .int .i64 e.f4, .slice A7 e.f5.length c7] 112)) W ∧ W.cell? ⟨w.heap.size, 0, none⟩ = some (.int .i64 e.f0) ∧ W.cell? ⟨w.heap.size, 1, none⟩ = some (.int .i64 e.f1.f0) ∧ W.cell? ⟨w.heap.size, 2, none⟩ = some (.int .i64 e.f1.f1) ∧ W.cell? ⟨w.heap.size, 3, none⟩ = some (.string e.f1.f2) ∧ W.cell? ⟨w.heap.size, 4, none⟩ = some (.string e.f2) ∧ W.cell? ⟨w.heap.size, 5, none⟩ = some (.string e.f3) ∧ W.cell? ⟨w.heap.size, 6, none⟩ = some (.int .i64 e.f4) ∧ W.cell? ⟨w.heap.size, 7, none⟩ = some (.slice A7 e.f5.length c7))
      (first | exact KP2.out _ (by assumption) | exact KP2.out _ (below_drew1 (by assumption)))
      ((go_at_call 93; refine (HPC.out _ (by go_split_ands; assumption)).mono ?_; rintro x w2 ⟨rfl, hb2⟩))) | fail
    all_goals
      have HB2 := Aside0.mk (HW.out _ (by first | exact hb2 | exact below_drew1 hb2))
      obtain ⟨z0, z1, z2, z3, z4, z5, z6, z7⟩ := KP.out _ hb2
      go_wp2_with (go_at_call 15; refine (value_Check.calls k e.f1.f0 e.f1.f1 e.f1.f2 c _ (LD.below HL.out HB2.out) HCK.out).mono ?_; rintro x w3 ⟨rfl, hb3⟩)
      go_ret
      exact ⟨rfl, HB2.out.trans (hb3.mono HB2.out.size)⟩
  rw [if_neg c4] at h
  have d4 : (e.f0 == 1) = false := by simpa using c4
  have HS := Aside0.mk h
  clear h c4
  have HZ : Aside0 (∀ W : World, Below (w.alloc (.cells #[.int .i64 e.f0, .int .i64 e.f1.f0, .int .i64 e.f1.f1, .string e.f1.f2, .string e.f2, .string e.f3, .int .i64 e.f4, .slice A7 e.f5.length c7] 112)).heap.size (w.alloc (.cells #[.int .i64 e.f0, .int .i64 e.f1.f0, .int .i64 e.f1.f1, .string e.f1.f2, .string e.f2, .string e.f3, .int .i64 e.f4, .slice A7 e.f5.length c7] 112)) W → Below w.heap.size w W ∧ W.cell? ⟨g, 0, none⟩ = some (.int .i64 wd)) := ⟨fun W hb => ⟨HW.out W hb, pw_cell_below (HW.out W hb) hg⟩⟩
  go_enter Tryd.func82, Tryd.ntmps82
  go_wp2_with (go_at_call 83; (with_reducible refine HCL.out.mono ?_); rintro x w1 ⟨rfl, hb⟩; have HB := Aside0.mk hb; clear hb)
  obtain ⟨y, y0, y1, y2, y3, y4, y5, y6, y7⟩ := KP2.out _ HB.out
  first | fail | (go_region_held3 (fun W => Below (w.alloc (.cells #[.int .i64 e.f0, .int .i64 e.f1.f0, .int .i64 e.f1.f1, .string e.f1.f2, .string e.f2, .string e.f3, .int .i64 e.f4, .slice A7 e.f5.length c7] 112)).heap.size (w.alloc (.cells #[.int .i64 e.f0, .int .i64 e.f1.f0, .int .i64 e.f1.f1, .string e.f1.f2, .string e.f2, .string e.f3, .int .i64 e.f4, .slice A7 e.f5.length c7] 112)) W ∧ W.cell? ⟨w.heap.size, 0, none⟩ = some (.int .i64 e.f0) ∧ W.cell? ⟨w.heap.size, 1, none⟩ = some (.int .i64 e.f1.f0) ∧ W.cell? ⟨w.heap.size, 2, none⟩ = some (.int .i64 e.f1.f1) ∧ W.cell? ⟨w.heap.size, 3, none⟩ = some (.string e.f1.f2) ∧ W.cell? ⟨w.heap.size, 4, none⟩ = some (.string e.f2) ∧ W.cell? ⟨w.heap.size, 5, none⟩ = some (.string e.f3) ∧ W.cell? ⟨w.heap.size, 6, none⟩ = some (.int .i64 e.f4) ∧ W.cell? ⟨w.heap.size, 7, none⟩ = some (.slice A7 e.f5.length c7))
    (first | exact KP2.out _ (by assumption) | exact KP2.out _ (below_drew1 (by assumption)))
    ((go_at_call 93; refine (HPC.out _ (by go_split_ands; assumption)).mono ?_; rintro x w2 ⟨rfl, hb2⟩))) | fail
  all_goals
    obtain ⟨z0, z1, z2, z3, z4, z5, z6, z7⟩ := KP.out _ hb2
    have HB3 := Aside0.mk hb2
    clear hb2
    go_wp2
    clear y y0 y1 y2 y3 y4 y5 y6 y7 z0 z1 z2 z3 z4 z5 z6 z7 hg
    go_loopw [10, 51] (fun _ i wr => ∃ j : Nat, j ≤ e.f5.length ∧ i = .int .i64 j ∧ Aside0 (eval_expr_may.all (eval_expr_may.may wd k n) (decide (eval_expr_may.zeroV e.f1)) (e.f5.drop j) = some r) ∧ Aside0 (Below (w.alloc (.cells #[.int .i64 e.f0, .int .i64 e.f1.f0, .int .i64 e.f1.f1, .string e.f1.f2, .string e.f2, .string e.f3, .int .i64 e.f4, .slice A7 e.f5.length c7] 112)).heap.size (w.alloc (.cells #[.int .i64 e.f0, .int .i64 e.f1.f0, .int .i64 e.f1.f1, .string e.f1.f2, .string e.f2, .string e.f3, .int .i64 e.f4, .slice A7 e.f5.length c7] 112)) wr)) (fun _ i _ => e.f5.length - (intOf i).toNat)
    case atStart => exact ⟨0, by omega, rfl, HS, HB3⟩
    case round =>
      clear HS HB3 HB
      obtain ⟨j, hj, rfl, HS, HB⟩ := hrel
      obtain ⟨y0, y1, y2, y3, y4, y5, y6, y7⟩ := KP.out _ HB.out
      by_cases hlt : j < e.f5.length
      · obtain ⟨bb, oo, rfl, hcs⟩ := eval_expr_may.at_ (Kd.C_below HR.out (HZ.out _ HB.out).1) (by omega)
        obtain ⟨A8, c8, p0, p1, p2, p3, p4, p5, p6, p7, l8, r8⟩ := hcs j hlt
        have hs := HS.out
        rw [List.drop_eq_getElem_cons hlt, eval_expr_may.all] at hs
        obtain ⟨q, hq, hs⟩ := Option.bind_eq_some_iff.1 hs
        generalize e.f5[j] = x at *
        have hgl2 : g < wr.heap.size := World.block_lt_of_cell? wr _ (HZ.out _ HB.out).2
        have hcall : Calls Tryd.prog 82 #[.agg #[.int .i64 x.f0, .int .i64 x.f1.f0, .int .i64 x.f1.f1, .string x.f1.f2, .string x.f2, .string x.f3, .int .i64 x.f4, .slice A8 x.f5.length c8], .func (.func 83) #[] #[.pointer (some ⟨g, 0, none⟩)], .int .i64 (m + 1)] (wr.alloc (.cells #[.int .i64 x.f0, .int .i64 x.f1.f0, .int .i64 x.f1.f1, .string x.f1.f2, .string x.f2, .string x.f3, .int .i64 x.f4, .slice A8 x.f5.length c8] 53)) fun z w' => z = .returned (.bool q) ∧ Below (w.alloc (.cells #[.int .i64 e.f0, .int .i64 e.f1.f0, .int .i64 e.f1.f1, .string e.f1.f2, .string e.f2, .string e.f3, .int .i64 e.f4, .slice (some ⟨bb, oo, none⟩) e.f5.length c7] 112)).heap.size (w.alloc (.cells #[.int .i64 e.f0, .int .i64 e.f1.f0, .int .i64 e.f1.f1, .string e.f1.f2, .string e.f2, .string e.f3, .int .i64 e.f4, .slice (some ⟨bb, oo, none⟩) e.f5.length c7] 112)) w' := by
          rw [HM.out.2]
          have hba := below_alloc HB.out (.cells #[.int .i64 x.f0, .int .i64 x.f1.f0, .int .i64 x.f1.f1, .string x.f1.f2, .string x.f2, .string x.f3, .int .i64 x.f4, .slice A8 x.f5.length c8] 53)
          exact (IH.out x A8 c8 q g _ (by omega) ((World.cell?_alloc_past _ _ _ hgl2).trans (HZ.out _ HB.out).2) (Kd.C_below r8 (below_alloc (Below.refl _ _) _)) l8 (LD.below HL.out (HZ.out _ hba).1) hq).mono fun z w' ⟨hz, hd⟩ => ⟨hz, hba.trans (hd.mono hba.size)⟩
        have HCA := Aside0.mk hcall
        clear hcall r8 hcs hq
        cases q with
        | true =>
          rw [if_pos rfl] at hs
          have HS2 := Aside0.mk hs
          clear HS hs
          go_wp2_with (go_at_call 82; (with_reducible refine HCA.out.mono ?_); rintro z w4 ⟨rfl, hb4⟩; have HB4 := Aside0.mk hb4; clear hb4)
          go_roundw
          case rel => exact ⟨j + 1, by omega, by go_num, HS2, HB4⟩
          case measure => simp [intOf]; omega
        | false =>
          rw [if_neg (by decide)] at hs
          obtain rfl := Option.some.inj hs
          clear HS hs
          go_wp2_with (go_at_call 82; (with_reducible refine HCA.out.mono ?_); rintro z w4 ⟨rfl, hb4⟩; have HB4 := Aside0.mk hb4; clear hb4)
          go_ret
          exact ⟨rfl, HW.out _ HB4.out⟩
      · obtain rfl : j = e.f5.length := by omega
        have hs := HS.out
        rw [List.drop_length, eval_expr_may.all] at hs
        obtain rfl := Option.some.inj hs
        clear HS hs
        by_cases z0 : e.f1.f0 = 0
        rotate_left
        · go_wp2
          go_ret
          exact ⟨by simp [eval_expr_may.zeroV, z0], HW.out _ HB.out⟩
        by_cases z1 : e.f1.f1 = 0
        rotate_left
        · go_wp2
          go_ret
          exact ⟨by simp [eval_expr_may.zeroV, z0, z1], HW.out _ HB.out⟩
        by_cases z2 : e.f1.f2.toList = []
        rotate_left
        · go_wp2
          go_ret
          exact ⟨by simp [eval_expr_may.zeroV, z0, z1, z2], HW.out _ HB.out⟩
        go_wp2
        go_ret
        exact ⟨by simp [eval_expr_may.zeroV, z0, z1, z2], HW.out _ HB.out⟩

-- NOT PRINTED: function 60 (eval_MayWith)

-- NOT PRINTED: function 61 (eval_Placed)

/-! ### eval_May: function 38, by hand -/
-- HAND rounds=1 making=1 laid=1 imports=Derived.Deep.RegionHeld3,Derived.Deep.RegionWith
def eval_May.expr (a0 a1 a2 : Int) (a3 a4 a5 : ByteArray) (a6 : Int) (l7 : List S53) : S53 := ⟨a0, ⟨a1, a2, a3⟩, a4, a5, a6, l7⟩
def eval_May.f (k : Nat) (a0_0 : Int) (a0_1 : Int) (a0_2 : Int) (a0_3 : ByteArray) (a0_4 : ByteArray) (a0_5 : ByteArray) (a0_6 : Int) (l0_7 : List S53) (a1 : Int) : Option Bool := eval_expr_may.may a1 k 12 (eval_May.expr a0_0 a0_1 a0_2 a0_3 a0_4 a0_5 a0_6 l0_7)
theorem eval_May.mono_all {f g : S53 → Option Bool} (h : ∀ x, LeO (f x) (g x)) (z : Bool) : ∀ l, LeO (eval_expr_may.all f z l) (eval_expr_may.all g z l)
  | [] => LeO.refl _
  | s :: r => by
    unfold eval_expr_may.all
    refine LeO.bind (h s) (fun b => ?_)
    refine LeO.ite ?_ (LeO.refl _)
    exact eval_May.mono_all h z r
theorem eval_May.mono_may (w : Int) (k : Nat) : ∀ n x, LeO (eval_expr_may.may w k n x) (eval_expr_may.may w (k + 1) n x)
  | 0, _ => LeO.refl _
  | n + 1, e => by
    unfold eval_expr_may.may
    refine LeO.ite (LeO.refl _) (LeO.ite (LeO.refl _) (LeO.ite (LeO.refl _) (LeO.ite ?_ ?_)))
    · exact LeO.bind (value_Check.mono _ _ _ _) (fun _ => LeO.refl _)
    · exact eval_May.mono_all (eval_May.mono_may w k n) _ _
theorem eval_May.mono : ∀ a0 a1 a2 a3 a4 a5 a6 a7 a8 k, LeO (eval_May.f k a0 a1 a2 a3 a4 a5 a6 a7 a8) (eval_May.f (k + 1) a0 a1 a2 a3 a4 a5 a6 a7 a8) := fun _ _ _ _ _ _ _ _ _ k => eval_May.mono_may _ k 12 _
set_option maxRecDepth 100000 in
set_option maxHeartbeats 2000000 in
theorem eval_May.with_ (wd : Int) (k : Nat) (e : S53) (A7 : Option Addr) (c7 : Nat) (r : Bool) (g : Nat) (w : World) (hg : w.cell? ⟨g, 0, none⟩ = some (.int .i64 wd)) (hr : Kd.C k53 w A7 e.f5.length e.f5) (hc : e.f5.length ≤ c7) (hL : LD w) (h : eval_expr_may.may wd k 12 e = some r) :
    Calls Tryd.prog 60 #[.agg #[.int .i64 e.f0, .int .i64 e.f1.f0, .int .i64 e.f1.f1, .string e.f1.f2, .string e.f2, .string e.f3, .int .i64 e.f4, .slice A7 e.f5.length c7], .func (.func 83) #[] #[.pointer (some ⟨g, 0, none⟩)], .int .i64 0] w fun x w' => x = .returned (.bool r) ∧ Below w.heap.size w w' := by
  have hgl : g < w.heap.size := World.block_lt_of_cell? w _ hg
  have hB := below_alloc (Below.refl w.heap.size w) (.cells #[.int .i64 e.f0, .int .i64 e.f1.f0, .int .i64 e.f1.f1, .string e.f1.f2, .string e.f2, .string e.f3, .int .i64 e.f4, .slice A7 e.f5.length c7] 53)
  have hcall := eval_expr_may.asked wd k 12 e A7 c7 r g (w.alloc (.cells #[.int .i64 e.f0, .int .i64 e.f1.f0, .int .i64 e.f1.f1, .string e.f1.f2, .string e.f2, .string e.f3, .int .i64 e.f4, .slice A7 e.f5.length c7] 53)) (by omega) ((World.cell?_alloc_past _ _ _ hgl).trans hg) (Kd.C_below hr hB) hc (LD.below hL hB) h
  rw [show (12 : Int) - ((12 : Nat) : Int) = 0 from rfl] at hcall
  have HCA := Aside0.mk hcall
  have HB := Aside0.mk hB
  clear hcall hB h hL hr hg
  go_enter Tryd.func60, Tryd.ntmps60
  go_wp2_with (go_at_call 82; (with_reducible refine HCA.out.mono ?_); rintro z w4 ⟨rfl, hb4⟩; have HB4 := Aside0.mk hb4; clear hb4)
  go_ret
  exact ⟨rfl, HB.out.trans (HB4.out.mono HB.out.size)⟩
set_option maxRecDepth 100000 in
theorem eval_May.made (wd : Int) (w : World) : Calls Tryd.prog 61 #[.int .i64 wd] w fun x w' => x = .returned (.func (.func 83) #[] #[.pointer (some ⟨w.heap.size, 0, none⟩)]) ∧ w' = w.alloc (.cells #[.int .i64 wd] 3) := by
  go_enter Tryd.func61, Tryd.ntmps61
  go_wp2
  go_ret
  exact ⟨rfl, rfl⟩
set_option maxRecDepth 100000 in
set_option maxHeartbeats 2000000 in
theorem eval_May.calls (k : Nat) (a0_0 : Int) (a0_1 : Int) (a0_2 : Int) (a0_3 : ByteArray) (a0_4 : ByteArray) (a0_5 : ByteArray) (a0_6 : Int) (A0_7 : Option Addr) (c0_7 : Nat) (l0_7 : List (S53)) (a1 : Int) (r : Bool) (w : World) (hr0_7 : Kd.C k53 w A0_7 l0_7.length l0_7) (hc0_7 : l0_7.length ≤ c0_7) (hL : LD w) (h : eval_May.f k a0_0 a0_1 a0_2 a0_3 a0_4 a0_5 a0_6 l0_7 a1 = some r) :
    Calls Tryd.prog 38 #[.agg #[.int .i64 a0_0, .int .i64 a0_1, .int .i64 a0_2, .string a0_3, .string a0_4, .string a0_5, .int .i64 a0_6, .slice A0_7 l0_7.length c0_7], .int .i64 a1] w fun e w' => e = .returned (.bool r) ∧ Below w.heap.size w w' := by
  have HR := Aside0.mk hr0_7
  have HL := Aside0.mk hL
  have HS := Aside0.mk h
  clear hr0_7 hL h
  go_enter Tryd.func38, Tryd.ntmps38
  go_wp2
  first | fail | (go_region_with (first
    | (go_at_call 61; refine (eval_May.made a1 _).mono ?_; rintro x w1 ⟨rfl, rfl⟩)
    | (go_at_call 60; refine (eval_May.with_ a1 k (eval_May.expr a0_0 a0_1 a0_2 a0_3 a0_4 a0_5 a0_6 l0_7) A0_7 c0_7 r _ _ (by simp [go_sem]) (Kd.C_below HR.out (by repeat (first | exact Below.refl _ _ | apply below_alloc | apply pw_below_drewN | apply below_drew1))) hc0_7 (LD.below HL.out (by repeat (first | exact Below.refl _ _ | apply below_alloc | apply pw_below_drewN | apply below_drew1))) HS.out).mono ?_; rintro x w2 ⟨rfl, hb2⟩; have HB2 := Aside0.mk (((by repeat (first | exact Below.refl _ _ | apply below_alloc | apply pw_below_drewN | apply below_drew1)) : Below w.heap.size w _).trans (hb2.mono (((by repeat (first | exact Below.refl _ _ | apply below_alloc | apply pw_below_drewN | apply below_drew1)) : Below w.heap.size w _)).size)); clear hb2))) | fail
  all_goals
    go_wp2
    go_ret
    exact ⟨rfl, by first | exact HB2.out | exact below_drew1 HB2.out⟩

/-! ### commonholdref_high: function 62 -/
mutual
def commonholdref_high.l0 : Nat → Int → Int → List (S53) → Int → Int → Option (Int)
  | 0, _, _, _, _, _ => none
  | k + 1, x1, x5, x11, x12, x13 => if x13 < x12 then (if 0 ≤ x13 then (if x13 < (x11.length : Int) then ((commonholdref_high.f k ((rd_T53 x11 x13).f0) ((rd_T53 x11 x13).f1.f0) ((rd_T53 x11 x13).f1.f1) ((rd_T53 x11 x13).f1.f2) ((rd_T53 x11 x13).f2) ((rd_T53 x11 x13).f3) ((rd_T53 x11 x13).f4) ((rd_T53 x11 x13).f5) (wrap64 (x1 - 1))).bind fun t107 => (commonholdref_high.l0 k x1 (mx x5 t107) x11 x12 (wrap64 (x13 + 1)))) else (none)) else (none)) else (some (wrap64 (x5 + 1)))
def commonholdref_high.f : Nat → Int → Int → Int → ByteArray → ByteArray → ByteArray → Int → List (S53) → Int → Option (Int)
  | 0, _, _, _, _, _, _, _, _, _ => none
  | k + 1, a0_0, a0_1, a0_2, a0_3, a0_4, a0_5, a0_6, l0_7, a1 => if a1 > 0 then (commonholdref_high.l0 k a1 0 l0_7 (l0_7.length : Int) 0) else (some (0 + 1))
end
theorem commonholdref_high.mono_l : ∀ k, (∀ y0 y1 y2 y3 y4 y5 y6 y7 y8, LeO (commonholdref_high.f k y0 y1 y2 y3 y4 y5 y6 y7 y8) (commonholdref_high.f (k + 1) y0 y1 y2 y3 y4 y5 y6 y7 y8)) ∧ (∀ y0 y1 y2 y3 y4, LeO (commonholdref_high.l0 k y0 y1 y2 y3 y4) (commonholdref_high.l0 (k + 1) y0 y1 y2 y3 y4))
  | 0 => ⟨fun _ _ _ _ _ _ _ _ _ r h => by simp [commonholdref_high.f] at h, fun _ _ _ _ _ r h => by simp [commonholdref_high.l0] at h⟩
  | k + 1 => by
    obtain ⟨ih0, ih1⟩ := commonholdref_high.mono_l k
    refine ⟨?_, ?_⟩
    · intro y0 y1 y2 y3 y4 y5 y6 y7 y8
      unfold commonholdref_high.f
      repeat' first
      | (with_reducible exact ih0 _ _ _ _ _ _ _ _ _)
      | (with_reducible exact ih1 _ _ _ _ _)
      | (with_reducible exact LeO.refl _)
      | (with_reducible exact LeO.none _)
      | (with_reducible refine LeO.ite ?_ ?_)
      | (with_reducible refine LeO.bind ?_ (fun _ => ?_))
      | exact ih0 _ _ _ _ _ _ _ _ _
      | exact ih1 _ _ _ _ _
      | exact LeO.none _
      | refine LeO.ite ?_ ?_
      | refine LeO.bind ?_ (fun _ => ?_)
    · intro y0 y1 y2 y3 y4
      unfold commonholdref_high.l0
      repeat' first
      | (with_reducible exact ih0 _ _ _ _ _ _ _ _ _)
      | (with_reducible exact ih1 _ _ _ _ _)
      | (with_reducible exact LeO.refl _)
      | (with_reducible exact LeO.none _)
      | (with_reducible refine LeO.ite ?_ ?_)
      | (with_reducible refine LeO.bind ?_ (fun _ => ?_))
      | exact ih0 _ _ _ _ _ _ _ _ _
      | exact ih1 _ _ _ _ _
      | exact LeO.none _
      | refine LeO.ite ?_ ?_
      | refine LeO.bind ?_ (fun _ => ?_)
theorem commonholdref_high.mono : ∀ a0 a1 a2 a3 a4 a5 a6 a7 a8 k, LeO (commonholdref_high.f k a0 a1 a2 a3 a4 a5 a6 a7 a8) (commonholdref_high.f (k + 1) a0 a1 a2 a3 a4 a5 a6 a7 a8) := by
  intro a0 a1 a2 a3 a4 a5 a6 a7 a8 k
  obtain ⟨ih0, ih1⟩ := commonholdref_high.mono_l k
  exact ih0 a0 a1 a2 a3 a4 a5 a6 a7 a8
set_option maxHeartbeats 8000000 in
set_option maxRecDepth 100000 in
theorem commonholdref_high.calls (k : Nat) : ∀ (a0_0 : Int) (a0_1 : Int) (a0_2 : Int) (a0_3 : ByteArray) (a0_4 : ByteArray) (a0_5 : ByteArray) (a0_6 : Int) (A0_7 : Option Addr) (c0_7 : Nat) (l0_7 : List (S53)) (a1 : Int) (r : Int) (w : World) (hr0_7 : Kd.C k53 w A0_7 l0_7.length l0_7) (hc0_7 : l0_7.length ≤ c0_7) (h : commonholdref_high.f k a0_0 a0_1 a0_2 a0_3 a0_4 a0_5 a0_6 l0_7 a1 = some r),
    Calls Tryd.prog 62 #[.agg #[.int .i64 a0_0, .int .i64 a0_1, .int .i64 a0_2, .string a0_3, .string a0_4, .string a0_5, .int .i64 a0_6, .slice A0_7 l0_7.length c0_7], .int .i64 a1] w fun e w' => e = .returned (.int .i64 r) ∧ Below w.heap.size w w' := by
  induction k using Nat.strongRecOn with
  | _ k ih =>
  intro a0_0 a0_1 a0_2 a0_3 a0_4 a0_5 a0_6 A0_7 c0_7 l0_7 a1 r w hr0_7 hc0_7 h
  cases k with
  | zero => exact absurd h (by simp [commonholdref_high.f])
  | succ k =>
  simp only [commonholdref_high.f] at h
  have hu53 := Tryd.underlying53
  have HR0_7 := Aside0.mk hr0_7
  have HC0_7 := Aside0.mk hc0_7
  clear hr0_7 hc0_7
  have HB := Aside0.mk (Below.refl w.heap.size w)
  have H : (if a1 > 0 then (commonholdref_high.l0 k a1 0 l0_7 (l0_7.length : Int) 0) else (some (0 + 1))) = some r := h
  clear h
  by_cases c3 : a1 > 0
  · rw [if_pos c3] at H
    have c3b0 : decide (0 < a1) = true := decide_eq_true c3
    clear c3
    have H' := Aside0.mk H
    clear H
    go_enter Tryd.func62, Tryd.ntmps62
    go_wp2_with (first | ((with_reducible refine gate_dst (N := 2) rfl ?_); refine box_event ?hg (N := 2) ?hd (cs := #[.int .i64 a0_0, .int .i64 a0_1, .int .i64 a0_2, .string a0_3, .string a0_4, .string a0_5, .int .i64 a0_6, .slice A0_7 l0_7.length c0_7]) (t := 53) ?hr ?_; (case hd => rfl); (case hg => rfl); (case hr => first | (go_simp; done) | (go_simp; rfl)); intro gb104 hg w4 hbox hb; have n0_ := Aside0.mk (below_step (by repeat (first | (with_reducible first | exact HB.out | apply below_alloc | apply pw_below_drewN | apply below_drew1) | exact HB.out)) hb); have n1_ := Aside0.mk (hbox); have n2_ := Aside0.mk ((by rw [hg]; exact (below_size (by repeat (first | (with_reducible first | exact HB.out | apply below_alloc | apply pw_below_drewN | apply below_drew1) | exact HB.out))) : w.heap.size ≤ gb104)); have n3_ := Aside0.mk ((by rw [hg]; exact (below_size (by repeat (first | (with_reducible first | exact HB.out | apply below_alloc | apply pw_below_drewN | apply below_drew1) | exact HB.out))) : w.heap.size ≤ gb104)); clear HB; have HB := n0_; have BK104 := n1_; have GW104 := n2_; have GE104 := n3_; clear n0_ n1_ n2_ n3_; clear hb hbox hg; have hcz5_0 : w4.cell? ⟨gb104, 0, none⟩ = some (.int .i64 a0_0) := (blk_cell BK104.out 0).trans rfl; have hcz5_1 : w4.cell? ⟨gb104, 1, none⟩ = some (.int .i64 a0_1) := (blk_cell BK104.out 1).trans rfl; have hcz5_2 : w4.cell? ⟨gb104, 2, none⟩ = some (.int .i64 a0_2) := (blk_cell BK104.out 2).trans rfl; have hcz5_3 : w4.cell? ⟨gb104, 3, none⟩ = some (.string a0_3) := (blk_cell BK104.out 3).trans rfl; have hcz5_4 : w4.cell? ⟨gb104, 4, none⟩ = some (.string a0_4) := (blk_cell BK104.out 4).trans rfl; have hcz5_5 : w4.cell? ⟨gb104, 5, none⟩ = some (.string a0_5) := (blk_cell BK104.out 5).trans rfl; have hcz5_6 : w4.cell? ⟨gb104, 6, none⟩ = some (.int .i64 a0_6) := (blk_cell BK104.out 6).trans rfl; have hcz5_7 : w4.cell? ⟨gb104, 7, none⟩ = some (.slice A0_7 l0_7.length c0_7) := (blk_cell BK104.out 7).trans rfl; have hfz5_0 := blk_frozen BK104.out 0; have hfz5_1 := blk_frozen BK104.out 1; have hfz5_2 := blk_frozen BK104.out 2; have hfz5_3 := blk_frozen BK104.out 3; have hfz5_4 := blk_frozen BK104.out 4; have hfz5_5 := blk_frozen BK104.out 5; have hfz5_6 := blk_frozen BK104.out 6; have hfz5_7 := blk_frozen BK104.out 7))
    go_loopg [5, 13] k (fun kq v5 v13 w' => ∃ (x5_1 : Int) (x13_1 : Int), v5 = .int .i64 x5_1 ∧ v13 = .int .i64 x13_1 ∧ Aside0 (commonholdref_high.l0 kq a1 x5_1 l0_7 (l0_7.length : Int) x13_1 = some r) ∧ Aside0 (kq ≤ k) ∧ Aside0 (w'.heap[gb104]? = some (.cells #[.int .i64 a0_0, .int .i64 a0_1, .int .i64 a0_2, .string a0_3, .string a0_4, .string a0_5, .int .i64 a0_6, (.slice A0_7 l0_7.length c0_7)] 53 (0, 0))) ∧ Aside0 (Below w.heap.size w w'))
    case atStart => exact ⟨(0), (0), (by first | rfl | (simp; done) | (simp [*]; done) | (generalize ByteArray.toList _ = q_; cases q_ <;> rfl)), (by first | rfl | (simp; done) | (simp [*]; done) | (generalize ByteArray.toList _ = q_; cases q_ <;> rfl)), H', ⟨Nat.le_refl _⟩, ⟨by (with_reducible repeat (first | refine blk_drewN ?_ _ | refine blk_drew ?_ | refine blk_alloc ?_ _)); exact BK104.out⟩, ⟨by repeat (first | (with_reducible first | exact HB.out | apply below_alloc | apply pw_below_drewN | apply below_drew1 | refine below_set ?_ GE104.out) | exact HB.out)⟩⟩
    case round =>
      clear H'
      try clear p2
      try clear c3
      try clear c3b0
      try clear hcz5_0
      try clear hcz5_1
      try clear hcz5_2
      try clear hcz5_3
      try clear hcz5_4
      try clear hcz5_5
      try clear hcz5_6
      try clear hcz5_7
      try clear hfz5_0
      try clear hfz5_1
      try clear hfz5_2
      try clear hfz5_3
      try clear hfz5_4
      try clear hfz5_5
      try clear hfz5_6
      try clear hfz5_7
      obtain ⟨x5_1, x13_1, rfl, rfl, HA, HK1, BK104, HB⟩ := hrel
      cases gk with
      | zero => exact absurd HA.out (by simp [commonholdref_high.l0])
      | succ k1 =>
        have H := HA.out
        clear HA
        simp only [commonholdref_high.l0] at H
        by_cases c6 : x13_1 < (l0_7.length : Int)
        · rw [if_pos c6] at H
          have c6b0 : decide (x13_1 < (l0_7.length : Int)) = true := decide_eq_true c6
          clear c6
          by_cases c7 : 0 ≤ x13_1
          · rw [if_pos c7] at H
            have c7b0 : decide (0 ≤ x13_1) = true := decide_eq_true c7
            clear c7
            by_cases c8 : x13_1 < (l0_7.length : Int)
            · rw [if_pos c8] at H
              have c8b0 : decide (x13_1 < (l0_7.length : Int)) = true := decide_eq_true c8
              clear c8
              replace H := Option.bind_eq_some_iff.mp H
              obtain ⟨t107, A90, H⟩ := H
              replace H : (commonholdref_high.l0 k1 a1 (mx x5_1 t107) l0_7 (l0_7.length : Int) (wrap64 (x13_1 + 1))) = some r := H
              have A9 := Aside0.mk A90
              clear A90
              obtain ⟨ji10, hji10⟩ : ∃ j_ : Int, (mx x5_1 t107) = j_ := ⟨_, rfl⟩
              replace H : (commonholdref_high.l0 k1 a1 ji10 l0_7 (l0_7.length : Int) (wrap64 (x13_1 + 1))) = some r := by first | (rw [hji10] at H; exact H) | (simp only [hji10] at H ⊢; exact H)
              (try rw [hji10] at A9)
              have hji10_ : (if x5_1 < t107 then t107 else x5_1) = ji10 := hji10
              have H' := Aside0.mk H
              clear H
              have p105 : 0 ≤ (x13_1 : Int) := of_decide_eq_true (by first | (with_reducible assumption) | assumption)
              have q105 : x13_1 < (l0_7.length : Int) := of_decide_eq_true (by first | (with_reducible assumption) | assumption)
              obtain ⟨ad105, A105_7, c105_7, e105, hx105_0, hx105_1, hx105_2, hx105_3, hx105_4, hx105_5, hx105_6, hx105_7, hl105_7, hi105_7⟩ := at_T53 HR0_7.out x13_1 p105 q105
              cases e105
              replace hx105_0 := (HB.out.cell (World.block_lt_of_cell? w _ hx105_0)).trans hx105_0
              replace hx105_1 := (HB.out.cell (World.block_lt_of_cell? w _ hx105_1)).trans hx105_1
              replace hx105_2 := (HB.out.cell (World.block_lt_of_cell? w _ hx105_2)).trans hx105_2
              replace hx105_3 := (HB.out.cell (World.block_lt_of_cell? w _ hx105_3)).trans hx105_3
              replace hx105_4 := (HB.out.cell (World.block_lt_of_cell? w _ hx105_4)).trans hx105_4
              replace hx105_5 := (HB.out.cell (World.block_lt_of_cell? w _ hx105_5)).trans hx105_5
              replace hx105_6 := (HB.out.cell (World.block_lt_of_cell? w _ hx105_6)).trans hx105_6
              replace hx105_7 := (HB.out.cell (World.block_lt_of_cell? w _ hx105_7)).trans hx105_7
              have HR105_7 := Aside0.mk hi105_7
              have HC105_7 := Aside0.mk hl105_7
              clear hi105_7 hl105_7
              replace p105 := eq_true p105
              replace q105 := eq_true q105
              go_wp2_with (first | ((with_reducible refine gate_dst (N := 7) rfl ?_); refine box_event ?hg (N := 7) ?hd (cs := #[.int .i64 0, .int .i64 0, .int .i64 0, .string (⟨#[]⟩ : ByteArray), .string (⟨#[]⟩ : ByteArray), .string (⟨#[]⟩ : ByteArray), .int .i64 0, .slice none 0 0]) (t := 53) ?hr ?_; (case hd => rfl); (case hg => rfl); (case hr => first | (go_simp; done) | (go_simp; rfl)); intro gb106 hg w11 hbox hb; have n0_ := Aside0.mk (blk_below (g := gb104) (o := .cells #[.int .i64 a0_0, .int .i64 a0_1, .int .i64 a0_2, .string a0_3, .string a0_4, .string a0_5, .int .i64 a0_6, .slice (some ad105) l0_7.length c0_7] 53 (0, 0)) (by (with_reducible repeat (first | refine blk_drewN ?_ _ | refine blk_drew ?_ | refine blk_alloc ?_ _)); exact BK104.out) hb); have n1_ := Aside0.mk (below_step (by repeat (first | (with_reducible first | exact HB.out | apply below_alloc | apply pw_below_drewN | apply below_drew1 | refine below_set ?_ GE104.out) | exact HB.out)) hb); have n2_ := Aside0.mk (hbox); have n3_ := Aside0.mk ((by rw [hg]; exact (below_size (by repeat (first | (with_reducible first | exact HB.out | apply below_alloc | apply pw_below_drewN | apply below_drew1 | refine below_set ?_ GE104.out) | exact HB.out))) : w.heap.size ≤ gb106)); have n4_ := Aside0.mk ((by rw [hg]; exact (below_size (by repeat (first | (with_reducible first | exact HB.out | apply below_alloc | apply pw_below_drewN | apply below_drew1 | refine below_set ?_ GE104.out) | exact HB.out))) : w.heap.size ≤ gb106)); have n5_ := Aside0.mk ((by rw [hg]; exact Nat.ne_of_lt (blk_lt (g := gb104) (o := .cells #[.int .i64 a0_0, .int .i64 a0_1, .int .i64 a0_2, .string a0_3, .string a0_4, .string a0_5, .int .i64 a0_6, .slice (some ad105) l0_7.length c0_7] 53 (0, 0)) (by (with_reducible repeat (first | refine blk_drewN ?_ _ | refine blk_drew ?_ | refine blk_alloc ?_ _)); exact BK104.out)) : gb104 ≠ gb106)); have n6_ := Aside0.mk ((by rw [hg]; exact Nat.ne_of_gt (blk_lt (g := gb104) (o := .cells #[.int .i64 a0_0, .int .i64 a0_1, .int .i64 a0_2, .string a0_3, .string a0_4, .string a0_5, .int .i64 a0_6, .slice (some ad105) l0_7.length c0_7] 53 (0, 0)) (by (with_reducible repeat (first | refine blk_drewN ?_ _ | refine blk_drew ?_ | refine blk_alloc ?_ _)); exact BK104.out)) : gb106 ≠ gb104)); clear BK104; clear HB; have BK104 := n0_; have HB := n1_; have BK106 := n2_; have GW106 := n3_; have GE106 := n4_; have NB104_106 := n5_; have NB106_104 := n6_; clear n0_ n1_ n2_ n3_ n4_ n5_ n6_; clear hb hbox hg; have hnb12 := NB106_104.out; have hnc12 := NB104_106.out; have hcz13_0 : w11.cell? ⟨gb106, 0, none⟩ = some (.int .i64 0) := (blk_cell BK106.out 0).trans rfl; have hcz13_1 : w11.cell? ⟨gb106, 1, none⟩ = some (.int .i64 0) := (blk_cell BK106.out 1).trans rfl; have hcz13_2 : w11.cell? ⟨gb106, 2, none⟩ = some (.int .i64 0) := (blk_cell BK106.out 2).trans rfl; have hcz13_3 : w11.cell? ⟨gb106, 3, none⟩ = some (.string (⟨#[]⟩ : ByteArray)) := (blk_cell BK106.out 3).trans rfl; have hcz13_4 : w11.cell? ⟨gb106, 4, none⟩ = some (.string (⟨#[]⟩ : ByteArray)) := (blk_cell BK106.out 4).trans rfl; have hcz13_5 : w11.cell? ⟨gb106, 5, none⟩ = some (.string (⟨#[]⟩ : ByteArray)) := (blk_cell BK106.out 5).trans rfl; have hcz13_6 : w11.cell? ⟨gb106, 6, none⟩ = some (.int .i64 0) := (blk_cell BK106.out 6).trans rfl; have hcz13_7 : w11.cell? ⟨gb106, 7, none⟩ = some (.slice none 0 0) := (blk_cell BK106.out 7).trans rfl; have hfz13_0 := blk_frozen BK106.out 0; have hfz13_1 := blk_frozen BK106.out 1; have hfz13_2 := blk_frozen BK106.out 2; have hfz13_3 := blk_frozen BK106.out 3; have hfz13_4 := blk_frozen BK106.out 4; have hfz13_5 := blk_frozen BK106.out 5; have hfz13_6 := blk_frozen BK106.out 6; have hfz13_7 := blk_frozen BK106.out 7) | ((with_reducible refine gate_callee (f := 62) rfl ?_); refine goesL_ (some 21) rfl rfl Tryd.func62 (by kernel_rfl) rfl #[.agg #[.int .i64 ((rd_T53 l0_7 x13_1).f0), .int .i64 ((rd_T53 l0_7 x13_1).f1.f0), .int .i64 ((rd_T53 l0_7 x13_1).f1.f1), .string ((rd_T53 l0_7 x13_1).f1.f2), .string ((rd_T53 l0_7 x13_1).f2), .string ((rd_T53 l0_7 x13_1).f3), .int .i64 ((rd_T53 l0_7 x13_1).f4), .slice A105_7 ((rd_T53 l0_7 x13_1).f5).length c105_7], .int .i64 (wrap64 (a1 - 1))] rfl (by (try simp only [List.map_toArray, List.map_cons, List.map_nil]); first | done | rfl | (simp only [List.length_drop, List.length_take]; rfl)) ?_; (with_reducible refine (ih k1 (by have := HK1.out; omega) ((rd_T53 l0_7 x13_1).f0) ((rd_T53 l0_7 x13_1).f1.f0) ((rd_T53 l0_7 x13_1).f1.f1) ((rd_T53 l0_7 x13_1).f1.f2) ((rd_T53 l0_7 x13_1).f2) ((rd_T53 l0_7 x13_1).f3) ((rd_T53 l0_7 x13_1).f4) _ _ ((rd_T53 l0_7 x13_1).f5) (wrap64 (a1 - 1)) t107 _ ?side1 ?side2 A9.out).mono ?_); (case side1 => exact Kd.C_below HR105_7.out (by repeat (first | (with_reducible first | exact HB.out | apply below_alloc | apply pw_below_drewN | apply below_drew1 | refine below_set ?_ GE104.out | refine below_set ?_ GE106.out) | exact HB.out))); (case side2 => exact HC105_7.out); rintro e w14 ⟨rfl, hb⟩; refine ⟨_, rfl, ?_⟩; have n0_ := Aside0.mk (blk_below (g := gb104) (o := .cells #[.int .i64 a0_0, .int .i64 a0_1, .int .i64 a0_2, .string a0_3, .string a0_4, .string a0_5, .int .i64 a0_6, .slice (some ad105) l0_7.length c0_7] 53 (0, 0)) (by (with_reducible repeat (first | refine blk_drewN ?_ _ | refine blk_drew ?_ | refine blk_alloc ?_ _)); refine blk_far ?_ NB104_106.out _; (with_reducible repeat (first | refine blk_drewN ?_ _ | refine blk_drew ?_ | refine blk_alloc ?_ _)); refine blk_far ?_ NB104_106.out _; (with_reducible repeat (first | refine blk_drewN ?_ _ | refine blk_drew ?_ | refine blk_alloc ?_ _)); refine blk_far ?_ NB104_106.out _; (with_reducible repeat (first | refine blk_drewN ?_ _ | refine blk_drew ?_ | refine blk_alloc ?_ _)); refine blk_far ?_ NB104_106.out _; (with_reducible repeat (first | refine blk_drewN ?_ _ | refine blk_drew ?_ | refine blk_alloc ?_ _)); refine blk_far ?_ NB104_106.out _; (with_reducible repeat (first | refine blk_drewN ?_ _ | refine blk_drew ?_ | refine blk_alloc ?_ _)); refine blk_far ?_ NB104_106.out _; (with_reducible repeat (first | refine blk_drewN ?_ _ | refine blk_drew ?_ | refine blk_alloc ?_ _)); refine blk_far ?_ NB104_106.out _; (with_reducible repeat (first | refine blk_drewN ?_ _ | refine blk_drew ?_ | refine blk_alloc ?_ _)); refine blk_far ?_ NB104_106.out _; (with_reducible repeat (first | refine blk_drewN ?_ _ | refine blk_drew ?_ | refine blk_alloc ?_ _)); exact BK104.out) hb); have n1_ := Aside0.mk (blk_below (g := gb106) (o := .cells #[.int .i64 ((rd_T53 l0_7 x13_1).f0), .int .i64 ((rd_T53 l0_7 x13_1).f1.f0), .int .i64 ((rd_T53 l0_7 x13_1).f1.f1), .string ((rd_T53 l0_7 x13_1).f1.f2), .string ((rd_T53 l0_7 x13_1).f2), .string ((rd_T53 l0_7 x13_1).f3), .int .i64 ((rd_T53 l0_7 x13_1).f4), .slice A105_7 ((rd_T53 l0_7 x13_1).f5).length c105_7] 53 (0, 0)) (by (with_reducible repeat (first | refine blk_drewN ?_ _ | refine blk_drew ?_ | refine blk_alloc ?_ _)); refine blk_put (cs := #[.int .i64 ((rd_T53 l0_7 x13_1).f0), .int .i64 ((rd_T53 l0_7 x13_1).f1.f0), .int .i64 ((rd_T53 l0_7 x13_1).f1.f1), .string ((rd_T53 l0_7 x13_1).f1.f2), .string ((rd_T53 l0_7 x13_1).f2), .string ((rd_T53 l0_7 x13_1).f3), .int .i64 ((rd_T53 l0_7 x13_1).f4), .slice none 0 0]) ?_ 7 _ rfl; (with_reducible repeat (first | refine blk_drewN ?_ _ | refine blk_drew ?_ | refine blk_alloc ?_ _)); refine blk_put (cs := #[.int .i64 ((rd_T53 l0_7 x13_1).f0), .int .i64 ((rd_T53 l0_7 x13_1).f1.f0), .int .i64 ((rd_T53 l0_7 x13_1).f1.f1), .string ((rd_T53 l0_7 x13_1).f1.f2), .string ((rd_T53 l0_7 x13_1).f2), .string ((rd_T53 l0_7 x13_1).f3), .int .i64 0, .slice none 0 0]) ?_ 6 _ rfl; (with_reducible repeat (first | refine blk_drewN ?_ _ | refine blk_drew ?_ | refine blk_alloc ?_ _)); refine blk_put (cs := #[.int .i64 ((rd_T53 l0_7 x13_1).f0), .int .i64 ((rd_T53 l0_7 x13_1).f1.f0), .int .i64 ((rd_T53 l0_7 x13_1).f1.f1), .string ((rd_T53 l0_7 x13_1).f1.f2), .string ((rd_T53 l0_7 x13_1).f2), .string (⟨#[]⟩ : ByteArray), .int .i64 0, .slice none 0 0]) ?_ 5 _ rfl; (with_reducible repeat (first | refine blk_drewN ?_ _ | refine blk_drew ?_ | refine blk_alloc ?_ _)); refine blk_put (cs := #[.int .i64 ((rd_T53 l0_7 x13_1).f0), .int .i64 ((rd_T53 l0_7 x13_1).f1.f0), .int .i64 ((rd_T53 l0_7 x13_1).f1.f1), .string ((rd_T53 l0_7 x13_1).f1.f2), .string (⟨#[]⟩ : ByteArray), .string (⟨#[]⟩ : ByteArray), .int .i64 0, .slice none 0 0]) ?_ 4 _ rfl; (with_reducible repeat (first | refine blk_drewN ?_ _ | refine blk_drew ?_ | refine blk_alloc ?_ _)); refine blk_put (cs := #[.int .i64 ((rd_T53 l0_7 x13_1).f0), .int .i64 ((rd_T53 l0_7 x13_1).f1.f0), .int .i64 ((rd_T53 l0_7 x13_1).f1.f1), .string (⟨#[]⟩ : ByteArray), .string (⟨#[]⟩ : ByteArray), .string (⟨#[]⟩ : ByteArray), .int .i64 0, .slice none 0 0]) ?_ 3 _ rfl; (with_reducible repeat (first | refine blk_drewN ?_ _ | refine blk_drew ?_ | refine blk_alloc ?_ _)); refine blk_put (cs := #[.int .i64 ((rd_T53 l0_7 x13_1).f0), .int .i64 ((rd_T53 l0_7 x13_1).f1.f0), .int .i64 0, .string (⟨#[]⟩ : ByteArray), .string (⟨#[]⟩ : ByteArray), .string (⟨#[]⟩ : ByteArray), .int .i64 0, .slice none 0 0]) ?_ 2 _ rfl; (with_reducible repeat (first | refine blk_drewN ?_ _ | refine blk_drew ?_ | refine blk_alloc ?_ _)); refine blk_put (cs := #[.int .i64 ((rd_T53 l0_7 x13_1).f0), .int .i64 0, .int .i64 0, .string (⟨#[]⟩ : ByteArray), .string (⟨#[]⟩ : ByteArray), .string (⟨#[]⟩ : ByteArray), .int .i64 0, .slice none 0 0]) ?_ 1 _ rfl; (with_reducible repeat (first | refine blk_drewN ?_ _ | refine blk_drew ?_ | refine blk_alloc ?_ _)); refine blk_put (cs := #[.int .i64 0, .int .i64 0, .int .i64 0, .string (⟨#[]⟩ : ByteArray), .string (⟨#[]⟩ : ByteArray), .string (⟨#[]⟩ : ByteArray), .int .i64 0, .slice none 0 0]) ?_ 0 _ rfl; (with_reducible repeat (first | refine blk_drewN ?_ _ | refine blk_drew ?_ | refine blk_alloc ?_ _)); exact BK106.out) hb); have n2_ := Aside0.mk (below_step (by repeat (first | (with_reducible first | exact HB.out | apply below_alloc | apply pw_below_drewN | apply below_drew1 | refine below_set ?_ GE104.out | refine below_set ?_ GE106.out) | exact HB.out)) hb); clear BK104; clear BK106; clear HB; have BK104 := n0_; have BK106 := n1_; have HB := n2_; clear n0_ n1_ n2_; (try clear hb); (try clear hb2); (try clear hk); (try clear hi)))
              go_roundg k1
              case measure => have := HK1.out; omega
              case rel => exact ⟨(ji10), (wrap64 (x13_1 + 1)), (by first | rfl | (simp; done) | (simp only [← hji10] <;> (first | rfl | simp)) | (simp [*]; done) | (generalize ByteArray.toList _ = q_; cases q_ <;> rfl)), (by first | rfl | (simp; done) | (simp [*]; done) | (generalize ByteArray.toList _ = q_; cases q_ <;> rfl)), H', ⟨by have := HK1.out; omega⟩, ⟨by (with_reducible repeat (first | refine blk_drewN ?_ _ | refine blk_drew ?_ | refine blk_alloc ?_ _)); exact BK104.out⟩, ⟨by repeat (first | (with_reducible first | exact HB.out | apply below_alloc | apply pw_below_drewN | apply below_drew1 | refine below_set ?_ GE104.out | refine below_set ?_ GE106.out) | exact HB.out)⟩⟩
            · rw [if_neg c8] at H
              exact absurd H (by simp)
          · rw [if_neg c7] at H
            exact absurd H (by simp)
        · rw [if_neg c6] at H
          have c6b0 : decide (x13_1 < (l0_7.length : Int)) = false := decide_eq_false c6
          clear c6
          obtain rfl := Option.some.inj H
          go_wp2
          go_ret
          exact ⟨by first | rfl | (simp [errW_none, errW_some] <;> rfl) | (simp [*, errW_none, errW_some] <;> rfl), by repeat (first | (with_reducible first | exact HB.out | apply below_alloc | apply pw_below_drewN | apply below_drew1 | refine below_set ?_ GE104.out) | exact HB.out)⟩
  · rw [if_neg c3] at H
    have c3b0 : decide (0 < a1) = false := decide_eq_false c3
    clear c3
    obtain rfl := Option.some.inj H
    go_enter Tryd.func62, Tryd.ntmps62
    go_wp2_with (first | ((with_reducible refine gate_dst (N := 2) rfl ?_); refine box_event ?hg (N := 2) ?hd (cs := #[.int .i64 a0_0, .int .i64 a0_1, .int .i64 a0_2, .string a0_3, .string a0_4, .string a0_5, .int .i64 a0_6, .slice A0_7 l0_7.length c0_7]) (t := 53) ?hr ?_; (case hd => rfl); (case hg => rfl); (case hr => first | (go_simp; done) | (go_simp; rfl)); intro gb104 hg w15 hbox hb; have n0_ := Aside0.mk (below_step (by repeat (first | (with_reducible first | exact HB.out | apply below_alloc | apply pw_below_drewN | apply below_drew1) | exact HB.out)) hb); have n1_ := Aside0.mk (hbox); have n2_ := Aside0.mk ((by rw [hg]; exact (below_size (by repeat (first | (with_reducible first | exact HB.out | apply below_alloc | apply pw_below_drewN | apply below_drew1) | exact HB.out))) : w.heap.size ≤ gb104)); have n3_ := Aside0.mk ((by rw [hg]; exact (below_size (by repeat (first | (with_reducible first | exact HB.out | apply below_alloc | apply pw_below_drewN | apply below_drew1) | exact HB.out))) : w.heap.size ≤ gb104)); clear HB; have HB := n0_; have BK104 := n1_; have GW104 := n2_; have GE104 := n3_; clear n0_ n1_ n2_ n3_; clear hb hbox hg))
    go_ret
    exact ⟨by first | rfl | (simp [errW_none, errW_some] <;> rfl) | (simp [*, errW_none, errW_some] <;> rfl), by repeat (first | (with_reducible first | exact HB.out | apply below_alloc | apply pw_below_drewN | apply below_drew1 | refine below_set ?_ GE104.out) | exact HB.out)⟩

end Go.Proofs.YtdepkigheacdnaaDoor.PEvalMays
