-- Written by wip/pp of this repo (over the kit's print, with additions of this session); Lean checks every line.
import Derived.Test.YtdepkigheacdnaaDoorPValueComparesx0
import Derived.Test.YtdepkigheacdnaaDoorPValueComparesx6
namespace Go.Proofs.YtdepkigheacdnaaDoor.PValueCompares
open Go.RowKit Go.Proofs.YtdepkigheacdnaaDoorW.PrintWords Go.Proofs.YtdepkigheacdnaaDoorW.PrintLast Go.Proofs.YtdepkigheacdnaaDoorW.PrintMore
attribute [local go_sem] max2_int min2_int max_two min_two max_three min_three max_four min_four   -- for this text's walks alone
set_option linter.unusedVariables false
set_option linter.unusedSimpArgs false

/-! ### commonholdref_ValueCompares: function 22 -/
mutual
def commonholdref_ValueCompares.j0 : Nat → Int → Bool → Int → Int → ByteArray → Int → Int → ByteArray → Option (Int × Int)
  | 0, _, _, _, _, _, _, _, _ => none
  | k + 1, x0, x31, x134000, x134001, x134002, x135000, x135001, x135002 => if x31 = true then (some (0, 3)) else ((commonholdref_ValueOrder.f k x134000 x134001 x134002 x135000 x135001 x135002).bind fun bt135 => (if bt135.2 = 0 then (if x134000 = 0 then (commonholdref_ValueCompares.j1 k x0 bt135.1 true x134000 x134001 x134002 x135000 x135001 x135002) else (commonholdref_ValueCompares.j1 k x0 bt135.1 (x135000 == 0) x134000 x134001 x134002 x135000 x135001 x135002)) else (some (0, bt135.2))))
def commonholdref_ValueCompares.j1 : Nat → Int → Int → Bool → Int → Int → ByteArray → Int → Int → ByteArray → Option (Int × Int)
  | 0, _, _, _, _, _, _, _, _, _ => none
  | k + 1, x0, x8, x48, x134000, x134001, x134002, x135000, x135001, x135002 => if x48 = true then (some (1, 0)) else (if x134000 = x135000 then (if x0 = 13 then (if x8 = 0 then (some (2, 0)) else (if x0 = 14 then (some (2, 0)) else (if x0 = 15 then (if x8 < 0 then (some (2, 0)) else (if x0 = 16 then (if x8 ≤ 0 then (some (2, 0)) else (if x0 = 17 then (if x8 > 0 then (some (2, 0)) else (if x0 = 18 then (if x8 ≥ 0 then (some (2, 0)) else (some (0, 0))) else (some (0, 0)))) else (if x0 = 18 then (if x8 ≥ 0 then (some (2, 0)) else (some (0, 0))) else (some (0, 0))))) else (if x0 = 17 then (if x8 > 0 then (some (2, 0)) else (if x0 = 18 then (if x8 ≥ 0 then (some (2, 0)) else (some (0, 0))) else (some (0, 0)))) else (if x0 = 18 then (if x8 ≥ 0 then (some (2, 0)) else (some (0, 0))) else (some (0, 0)))))) else (if x0 = 16 then (if x8 ≤ 0 then (some (2, 0)) else (if x0 = 17 then (if x8 > 0 then (some (2, 0)) else (if x0 = 18 then (if x8 ≥ 0 then (some (2, 0)) else (some (0, 0))) else (some (0, 0)))) else (if x0 = 18 then (if x8 ≥ 0 then (some (2, 0)) else (some (0, 0))) else (some (0, 0))))) else (if x0 = 17 then (if x8 > 0 then (some (2, 0)) else (if x0 = 18 then (if x8 ≥ 0 then (some (2, 0)) else (some (0, 0))) else (some (0, 0)))) else (if x0 = 18 then (if x8 ≥ 0 then (some (2, 0)) else (some (0, 0))) else (some (0, 0)))))))) else (if x0 = 14 then (if x8 = 0 then (if x0 = 15 then (if x8 < 0 then (some (2, 0)) else (if x0 = 16 then (if x8 ≤ 0 then (some (2, 0)) else (if x0 = 17 then (if x8 > 0 then (some (2, 0)) else (if x0 = 18 then (if x8 ≥ 0 then (some (2, 0)) else (some (0, 0))) else (some (0, 0)))) else (if x0 = 18 then (if x8 ≥ 0 then (some (2, 0)) else (some (0, 0))) else (some (0, 0))))) else (if x0 = 17 then (if x8 > 0 then (some (2, 0)) else (if x0 = 18 then (if x8 ≥ 0 then (some (2, 0)) else (some (0, 0))) else (some (0, 0)))) else (if x0 = 18 then (if x8 ≥ 0 then (some (2, 0)) else (some (0, 0))) else (some (0, 0)))))) else (if x0 = 16 then (if x8 ≤ 0 then (some (2, 0)) else (if x0 = 17 then (if x8 > 0 then (some (2, 0)) else (if x0 = 18 then (if x8 ≥ 0 then (some (2, 0)) else (some (0, 0))) else (some (0, 0)))) else (if x0 = 18 then (if x8 ≥ 0 then (some (2, 0)) else (some (0, 0))) else (some (0, 0))))) else (if x0 = 17 then (if x8 > 0 then (some (2, 0)) else (if x0 = 18 then (if x8 ≥ 0 then (some (2, 0)) else (some (0, 0))) else (some (0, 0)))) else (if x0 = 18 then (if x8 ≥ 0 then (some (2, 0)) else (some (0, 0))) else (some (0, 0)))))) else (some (2, 0))) else (if x0 = 15 then (if x8 < 0 then (some (2, 0)) else (if x0 = 16 then (if x8 ≤ 0 then (some (2, 0)) else (if x0 = 17 then (if x8 > 0 then (some (2, 0)) else (if x0 = 18 then (if x8 ≥ 0 then (some (2, 0)) else (some (0, 0))) else (some (0, 0)))) else (if x0 = 18 then (if x8 ≥ 0 then (some (2, 0)) else (some (0, 0))) else (some (0, 0))))) else (if x0 = 17 then (if x8 > 0 then (some (2, 0)) else (if x0 = 18 then (if x8 ≥ 0 then (some (2, 0)) else (some (0, 0))) else (some (0, 0)))) else (if x0 = 18 then (if x8 ≥ 0 then (some (2, 0)) else (some (0, 0))) else (some (0, 0)))))) else (if x0 = 16 then (if x8 ≤ 0 then (some (2, 0)) else (if x0 = 17 then (if x8 > 0 then (some (2, 0)) else (if x0 = 18 then (if x8 ≥ 0 then (some (2, 0)) else (some (0, 0))) else (some (0, 0)))) else (if x0 = 18 then (if x8 ≥ 0 then (some (2, 0)) else (some (0, 0))) else (some (0, 0))))) else (if x0 = 17 then (if x8 > 0 then (some (2, 0)) else (if x0 = 18 then (if x8 ≥ 0 then (some (2, 0)) else (some (0, 0))) else (some (0, 0)))) else (if x0 = 18 then (if x8 ≥ 0 then (some (2, 0)) else (some (0, 0))) else (some (0, 0)))))))) else (some (0, 12)))
end
def commonholdref_ValueCompares.f (k : Nat) (a0 : Int) (a1_0 : Int) (a1_1 : Int) (a1_2 : ByteArray) (a2_0 : Int) (a2_1 : Int) (a2_2 : ByteArray) : Option (Int × Int) := if a0 = 13 then (commonholdref_ValueCompares.j0 k a0 false a1_0 a1_1 a1_2 a2_0 a2_1 a2_2) else (if a0 = 14 then (commonholdref_ValueCompares.j0 k a0 false a1_0 a1_1 a1_2 a2_0 a2_1 a2_2) else (if a0 = 15 then (commonholdref_ValueCompares.j0 k a0 false a1_0 a1_1 a1_2 a2_0 a2_1 a2_2) else (if a0 = 16 then (commonholdref_ValueCompares.j0 k a0 false a1_0 a1_1 a1_2 a2_0 a2_1 a2_2) else (if a0 = 17 then (commonholdref_ValueCompares.j0 k a0 false a1_0 a1_1 a1_2 a2_0 a2_1 a2_2) else (commonholdref_ValueCompares.j0 k a0 (a0 != 18) a1_0 a1_1 a1_2 a2_0 a2_1 a2_2)))))
theorem commonholdref_ValueCompares.mono_l : ∀ k, (∀ y0 y1 y2 y3 y4 y5 y6 y7, LeO (commonholdref_ValueCompares.j0 k y0 y1 y2 y3 y4 y5 y6 y7) (commonholdref_ValueCompares.j0 (k + 1) y0 y1 y2 y3 y4 y5 y6 y7)) ∧ (∀ y0 y1 y2 y3 y4 y5 y6 y7 y8, LeO (commonholdref_ValueCompares.j1 k y0 y1 y2 y3 y4 y5 y6 y7 y8) (commonholdref_ValueCompares.j1 (k + 1) y0 y1 y2 y3 y4 y5 y6 y7 y8))
  | 0 => ⟨fun _ _ _ _ _ _ _ _ r h => by simp [commonholdref_ValueCompares.j0] at h, fun _ _ _ _ _ _ _ _ _ r h => by simp [commonholdref_ValueCompares.j1] at h⟩
  | k + 1 => by
    obtain ⟨ih0, ih1⟩ := commonholdref_ValueCompares.mono_l k
    refine ⟨?_, ?_⟩
    · intro y0 y1 y2 y3 y4 y5 y6 y7
      unfold commonholdref_ValueCompares.j0
      repeat' first
      | (with_reducible exact ih0 _ _ _ _ _ _ _ _)
      | (with_reducible exact ih1 _ _ _ _ _ _ _ _ _)
      | (with_reducible exact commonholdref_ValueOrder.mono _ _ _ _ _ _ _)
      | (with_reducible exact LeO.refl _)
      | (with_reducible exact LeO.none _)
      | (with_reducible refine LeO.ite ?_ ?_)
      | (with_reducible refine LeO.bind ?_ (fun _ => ?_))
      | exact ih0 _ _ _ _ _ _ _ _
      | exact ih1 _ _ _ _ _ _ _ _ _
      | exact commonholdref_ValueOrder.mono _ _ _ _ _ _ _
      | exact LeO.none _
      | refine LeO.ite ?_ ?_
      | refine LeO.bind ?_ (fun _ => ?_)
    · intro y0 y1 y2 y3 y4 y5 y6 y7 y8
      unfold commonholdref_ValueCompares.j1
      repeat' first
      | (with_reducible exact ih0 _ _ _ _ _ _ _ _)
      | (with_reducible exact ih1 _ _ _ _ _ _ _ _ _)
      | (with_reducible exact commonholdref_ValueOrder.mono _ _ _ _ _ _ _)
      | (with_reducible exact LeO.refl _)
      | (with_reducible exact LeO.none _)
      | (with_reducible refine LeO.ite ?_ ?_)
      | (with_reducible refine LeO.bind ?_ (fun _ => ?_))
      | exact ih0 _ _ _ _ _ _ _ _
      | exact ih1 _ _ _ _ _ _ _ _ _
      | exact commonholdref_ValueOrder.mono _ _ _ _ _ _ _
      | exact LeO.none _
      | refine LeO.ite ?_ ?_
      | refine LeO.bind ?_ (fun _ => ?_)
theorem commonholdref_ValueCompares.mono : ∀ a0 a1 a2 a3 a4 a5 a6 k, LeO (commonholdref_ValueCompares.f k a0 a1 a2 a3 a4 a5 a6) (commonholdref_ValueCompares.f (k + 1) a0 a1 a2 a3 a4 a5 a6) := by
  intro a0 a1 a2 a3 a4 a5 a6 k
  obtain ⟨ih0, ih1⟩ := commonholdref_ValueCompares.mono_l k
  unfold commonholdref_ValueCompares.f
  repeat' first
      | (with_reducible exact ih0 _ _ _ _ _ _ _ _)
      | (with_reducible exact ih1 _ _ _ _ _ _ _ _ _)
      | (with_reducible exact commonholdref_ValueOrder.mono _ _ _ _ _ _ _)
      | (with_reducible exact LeO.refl _)
      | (with_reducible exact LeO.none _)
      | (with_reducible refine LeO.ite ?_ ?_)
      | (with_reducible refine LeO.bind ?_ (fun _ => ?_))
      | exact ih0 _ _ _ _ _ _ _ _
      | exact ih1 _ _ _ _ _ _ _ _ _
      | exact commonholdref_ValueOrder.mono _ _ _ _ _ _ _
      | exact LeO.none _
      | refine LeO.ite ?_ ?_
      | refine LeO.bind ?_ (fun _ => ?_)
set_option maxHeartbeats 8000000 in
set_option maxRecDepth 100000 in
theorem commonholdref_ValueCompares.calls (k : Nat) (a0 : Int) (a1_0 : Int) (a1_1 : Int) (a1_2 : ByteArray) (a2_0 : Int) (a2_1 : Int) (a2_2 : ByteArray) (r1 : Int) (r2 : Int) (w : World) (h : commonholdref_ValueCompares.f k a0 a1_0 a1_1 a1_2 a2_0 a2_1 a2_2 = some (r1, r2)) :
    Calls Tryd.prog 22 #[.int .i64 a0, .agg #[.int .i64 a1_0, .int .i64 a1_1, .string a1_2], .agg #[.int .i64 a2_0, .int .i64 a2_1, .string a2_2]] w fun e w' => e = .returned (.tuple #[.int .i64 r1, .int .i64 r2]) ∧ Below w.heap.size w w' := by
  have hu23 := Tryd.underlying23
  have HB := Aside0.mk (Below.refl w.heap.size w)
  have H : (if a0 = 13 then (commonholdref_ValueCompares.j0 k a0 false a1_0 a1_1 a1_2 a2_0 a2_1 a2_2) else (if a0 = 14 then (commonholdref_ValueCompares.j0 k a0 false a1_0 a1_1 a1_2 a2_0 a2_1 a2_2) else (if a0 = 15 then (commonholdref_ValueCompares.j0 k a0 false a1_0 a1_1 a1_2 a2_0 a2_1 a2_2) else (if a0 = 16 then (commonholdref_ValueCompares.j0 k a0 false a1_0 a1_1 a1_2 a2_0 a2_1 a2_2) else (if a0 = 17 then (commonholdref_ValueCompares.j0 k a0 false a1_0 a1_1 a1_2 a2_0 a2_1 a2_2) else (commonholdref_ValueCompares.j0 k a0 (a0 != 18) a1_0 a1_1 a1_2 a2_0 a2_1 a2_2)))))) = some (r1, r2) := h
  clear h
  have HC4 := Aside0.mk H
  clear H
  go_enter Tryd.func22, Tryd.ntmps22
  go_upto_region 1 with (first | ((with_reducible refine gate_dst (N := 4) rfl ?_); refine box_event ?hg (N := 4) ?hd (cs := #[.int .i64 a1_0, .int .i64 a1_1, .string a1_2]) (t := 23) ?hr ?_; (case hd => rfl); (case hg => rfl); (case hr => first | (go_simp; done) | (go_simp; rfl)); intro gb133 hg w5 hbox hb; have n0_ := Aside0.mk (below_step (by repeat (first | (with_reducible first | exact HB.out | apply below_alloc | apply pw_below_drewN | apply below_drew1) | exact HB.out)) hb); have n1_ := Aside0.mk (hbox); have n2_ := Aside0.mk ((by rw [hg]; exact (below_size (by repeat (first | (with_reducible first | exact HB.out | apply below_alloc | apply pw_below_drewN | apply below_drew1) | exact HB.out))) : w.heap.size ≤ gb133)); have n3_ := Aside0.mk ((by rw [hg]; exact (below_size (by repeat (first | (with_reducible first | exact HB.out | apply below_alloc | apply pw_below_drewN | apply below_drew1) | exact HB.out))) : w.heap.size ≤ gb133)); clear HB; have HB := n0_; have BK133 := n1_; have GW133 := n2_; have GE133 := n3_; clear n0_ n1_ n2_ n3_; clear hb hbox hg) | ((with_reducible refine gate_dst (N := 5) rfl ?_); refine box_event ?hg (N := 5) ?hd (cs := #[.int .i64 a2_0, .int .i64 a2_1, .string a2_2]) (t := 23) ?hr ?_; (case hd => rfl); (case hg => rfl); (case hr => first | (go_simp; done) | (go_simp; rfl)); intro gb134 hg w6 hbox hb; have n0_ := Aside0.mk (blk_below (g := gb133) (o := .cells #[.int .i64 a1_0, .int .i64 a1_1, .string a1_2] 23 (0, 0)) (by (with_reducible repeat (first | refine blk_drewN ?_ _ | refine blk_drew ?_ | refine blk_alloc ?_ _)); exact BK133.out) hb); have n1_ := Aside0.mk (below_step (by repeat (first | (with_reducible first | exact HB.out | apply below_alloc | apply pw_below_drewN | apply below_drew1 | refine below_set ?_ GE133.out) | exact HB.out)) hb); have n2_ := Aside0.mk (hbox); have n3_ := Aside0.mk ((by rw [hg]; exact (below_size (by repeat (first | (with_reducible first | exact HB.out | apply below_alloc | apply pw_below_drewN | apply below_drew1 | refine below_set ?_ GE133.out) | exact HB.out))) : w.heap.size ≤ gb134)); have n4_ := Aside0.mk ((by rw [hg]; exact (below_size (by repeat (first | (with_reducible first | exact HB.out | apply below_alloc | apply pw_below_drewN | apply below_drew1 | refine below_set ?_ GE133.out) | exact HB.out))) : w.heap.size ≤ gb134)); have n5_ := Aside0.mk ((by rw [hg]; exact Nat.ne_of_lt (blk_lt (g := gb133) (o := .cells #[.int .i64 a1_0, .int .i64 a1_1, .string a1_2] 23 (0, 0)) (by (with_reducible repeat (first | refine blk_drewN ?_ _ | refine blk_drew ?_ | refine blk_alloc ?_ _)); exact BK133.out)) : gb133 ≠ gb134)); have n6_ := Aside0.mk ((by rw [hg]; exact Nat.ne_of_gt (blk_lt (g := gb133) (o := .cells #[.int .i64 a1_0, .int .i64 a1_1, .string a1_2] 23 (0, 0)) (by (with_reducible repeat (first | refine blk_drewN ?_ _ | refine blk_drew ?_ | refine blk_alloc ?_ _)); exact BK133.out)) : gb134 ≠ gb133)); clear BK133; clear HB; have BK133 := n0_; have HB := n1_; have BK134 := n2_; have GW134 := n3_; have GE134 := n4_; have NB133_134 := n5_; have NB134_133 := n6_; clear n0_ n1_ n2_ n3_ n4_ n5_ n6_; clear hb hbox hg))
  (try simp only [Act.put, List.setIfInBounds_toArray, List.set_cons_zero, List.set_cons_succ])
  go_cut [31] (fun v31 wc => ∃ (kq : Nat) (x31_3 : Bool), v31 = .bool x31_3 ∧ Aside0 (commonholdref_ValueCompares.j0 kq a0 x31_3 a1_0 a1_1 a1_2 a2_0 a2_1 a2_2 = some (r1, r2)) ∧ Aside0 (kq ≤ k) ∧ Aside0 (wc.heap[gb133]? = some (.cells #[.int .i64 a1_0, .int .i64 a1_1, .string a1_2] 23 (0, 0))) ∧ Aside0 (wc.heap[gb134]? = some (.cells #[.int .i64 a2_0, .int .i64 a2_1, .string a2_2] 23 (0, 0))) ∧ Aside0 (Below w.heap.size w wc))
  case first =>
    have H := HC4.out
    clear HC4
    by_cases c7 : a0 = 13
    · rw [if_pos c7] at H
      have c7b0 : (a0 == 13) = true := beq_iff_eq.mpr c7
      have c7b1 : (a0 != 13) = false := bne_eq_false_iff_eq.mpr c7
      clear c7
      (first | rw [c7b0] | (simp only [i64_w, i32_w]; rw [c7b0]) | skip)
      have H' := Aside0.mk H
      clear H
      go_wp2
      go_meet
      case rel => exact ⟨_, (false), (by first | rfl | (simp; done) | (simp [*]; done)), H', ⟨by first | omega | exact Nat.le_refl _⟩, ⟨by (with_reducible repeat (first | refine blk_drewN ?_ _ | refine blk_drew ?_ | refine blk_alloc ?_ _)); exact BK133.out⟩, ⟨by (with_reducible repeat (first | refine blk_drewN ?_ _ | refine blk_drew ?_ | refine blk_alloc ?_ _)); exact BK134.out⟩, ⟨by repeat (first | (with_reducible first | exact HB.out | apply below_alloc | apply pw_below_drewN | apply below_drew1 | refine below_set ?_ GE133.out | refine below_set ?_ GE134.out) | exact HB.out)⟩⟩
    · rw [if_neg c7] at H
      have c7b0 : (a0 == 13) = false := beq_eq_false_iff_ne.mpr c7
      have c7b1 : (a0 != 13) = true := bne_iff_ne.mpr c7
      (first | rw [c7b0] | (simp only [i64_w, i32_w]; rw [c7b0]) | skip)
      by_cases c8 : a0 = 14
      · rw [if_pos c8] at H
        have c8b0 : (a0 == 14) = true := beq_iff_eq.mpr c8
        have c8b1 : (a0 != 14) = false := bne_eq_false_iff_eq.mpr c8
        clear c8
        have H' := Aside0.mk H
        clear H
        go_wp2
        go_meet
        case rel => exact ⟨_, (false), (by first | rfl | (simp; done) | (simp [*]; done)), H', ⟨by first | omega | exact Nat.le_refl _⟩, ⟨by (with_reducible repeat (first | refine blk_drewN ?_ _ | refine blk_drew ?_ | refine blk_alloc ?_ _)); exact BK133.out⟩, ⟨by (with_reducible repeat (first | refine blk_drewN ?_ _ | refine blk_drew ?_ | refine blk_alloc ?_ _)); exact BK134.out⟩, ⟨by repeat (first | (with_reducible first | exact HB.out | apply below_alloc | apply pw_below_drewN | apply below_drew1 | refine below_set ?_ GE133.out | refine below_set ?_ GE134.out) | exact HB.out)⟩⟩
      · rw [if_neg c8] at H
        have c8b0 : (a0 == 14) = false := beq_eq_false_iff_ne.mpr c8
        have c8b1 : (a0 != 14) = true := bne_iff_ne.mpr c8
        by_cases c9 : a0 = 15
        · rw [if_pos c9] at H
          have c9b0 : (a0 == 15) = true := beq_iff_eq.mpr c9
          have c9b1 : (a0 != 15) = false := bne_eq_false_iff_eq.mpr c9
          clear c9
          have H' := Aside0.mk H
          clear H
          go_wp2
          go_meet
          case rel => exact ⟨_, (false), (by first | rfl | (simp; done) | (simp [*]; done)), H', ⟨by first | omega | exact Nat.le_refl _⟩, ⟨by (with_reducible repeat (first | refine blk_drewN ?_ _ | refine blk_drew ?_ | refine blk_alloc ?_ _)); exact BK133.out⟩, ⟨by (with_reducible repeat (first | refine blk_drewN ?_ _ | refine blk_drew ?_ | refine blk_alloc ?_ _)); exact BK134.out⟩, ⟨by repeat (first | (with_reducible first | exact HB.out | apply below_alloc | apply pw_below_drewN | apply below_drew1 | refine below_set ?_ GE133.out | refine below_set ?_ GE134.out) | exact HB.out)⟩⟩
        · rw [if_neg c9] at H
          have c9b0 : (a0 == 15) = false := beq_eq_false_iff_ne.mpr c9
          have c9b1 : (a0 != 15) = true := bne_iff_ne.mpr c9
          by_cases c10 : a0 = 16
          · rw [if_pos c10] at H
            have c10b0 : (a0 == 16) = true := beq_iff_eq.mpr c10
            have c10b1 : (a0 != 16) = false := bne_eq_false_iff_eq.mpr c10
            clear c10
            have H' := Aside0.mk H
            clear H
            go_wp2
            go_meet
            case rel => exact ⟨_, (false), (by first | rfl | (simp; done) | (simp [*]; done)), H', ⟨by first | omega | exact Nat.le_refl _⟩, ⟨by (with_reducible repeat (first | refine blk_drewN ?_ _ | refine blk_drew ?_ | refine blk_alloc ?_ _)); exact BK133.out⟩, ⟨by (with_reducible repeat (first | refine blk_drewN ?_ _ | refine blk_drew ?_ | refine blk_alloc ?_ _)); exact BK134.out⟩, ⟨by repeat (first | (with_reducible first | exact HB.out | apply below_alloc | apply pw_below_drewN | apply below_drew1 | refine below_set ?_ GE133.out | refine below_set ?_ GE134.out) | exact HB.out)⟩⟩
          · rw [if_neg c10] at H
            have c10b0 : (a0 == 16) = false := beq_eq_false_iff_ne.mpr c10
            have c10b1 : (a0 != 16) = true := bne_iff_ne.mpr c10
            by_cases c11 : a0 = 17
            · rw [if_pos c11] at H
              have c11b0 : (a0 == 17) = true := beq_iff_eq.mpr c11
              have c11b1 : (a0 != 17) = false := bne_eq_false_iff_eq.mpr c11
              clear c11
              have H' := Aside0.mk H
              clear H
              go_wp2
              go_meet
              case rel => exact ⟨_, (false), (by first | rfl | (simp; done) | (simp [*]; done)), H', ⟨by first | omega | exact Nat.le_refl _⟩, ⟨by (with_reducible repeat (first | refine blk_drewN ?_ _ | refine blk_drew ?_ | refine blk_alloc ?_ _)); exact BK133.out⟩, ⟨by (with_reducible repeat (first | refine blk_drewN ?_ _ | refine blk_drew ?_ | refine blk_alloc ?_ _)); exact BK134.out⟩, ⟨by repeat (first | (with_reducible first | exact HB.out | apply below_alloc | apply pw_below_drewN | apply below_drew1 | refine below_set ?_ GE133.out | refine below_set ?_ GE134.out) | exact HB.out)⟩⟩
            · rw [if_neg c11] at H
              have c11b0 : (a0 == 17) = false := beq_eq_false_iff_ne.mpr c11
              have c11b1 : (a0 != 17) = true := bne_iff_ne.mpr c11
              have H' := Aside0.mk H
              clear H
              go_wp2
              go_meet
              case rel => exact ⟨_, ((a0 != 18)), (by first | rfl | (simp; done) | (simp [*]; done)), H', ⟨by first | omega | exact Nat.le_refl _⟩, ⟨by (with_reducible repeat (first | refine blk_drewN ?_ _ | refine blk_drew ?_ | refine blk_alloc ?_ _)); exact BK133.out⟩, ⟨by (with_reducible repeat (first | refine blk_drewN ?_ _ | refine blk_drew ?_ | refine blk_alloc ?_ _)); exact BK134.out⟩, ⟨by repeat (first | (with_reducible first | exact HB.out | apply below_alloc | apply pw_below_drewN | apply below_drew1 | refine below_set ?_ GE133.out | refine below_set ?_ GE134.out) | exact HB.out)⟩⟩
  case rest =>
    clear HC4
    try clear c1
    try clear c2
    try clear p2
    try clear c7
    try clear c7b0
    try clear c7b1
    try clear c8
    try clear c8b0
    try clear c8b1
    try clear c9
    try clear c9b0
    try clear c9b1
    try clear c10
    try clear c10b0
    try clear c10b1
    try clear c11
    try clear c11b0
    try clear c11b1
    obtain ⟨kq, x31_3, rfl, HA, HJ3, BK133, BK134, HB⟩ := hcut
    cases kq with
    | zero => exact absurd HA.out (by simp [commonholdref_ValueCompares.j0])
    | succ kj3 =>
      have H := HA.out
      clear HA
      simp only [commonholdref_ValueCompares.j0] at H
      by_cases c12 : x31_3 = true
      · subst c12
        have H1 : (some (0, 3)) = some (r1, r2) := by rw [if_pos rfl] at H; exact H
        clear H
        have H := H1
        clear H1
        simp only [Option.some.injEq, Prod.mk.injEq] at H
        obtain ⟨rfl, rfl⟩ := H
        go_wp2
        go_ret2
        exact ⟨by first | rfl | (simp [errW_none, errW_some] <;> rfl) | (simp [*, errW_none, errW_some] <;> rfl), by repeat (first | (with_reducible first | exact HB.out | apply below_alloc | apply pw_below_drewN | apply below_drew1 | refine below_set ?_ GE133.out | refine below_set ?_ GE134.out) | exact HB.out)⟩
      · replace c12 := Bool.eq_false_iff.mpr c12
        subst c12
        have H1 : ((commonholdref_ValueOrder.f kj3 a1_0 a1_1 a1_2 a2_0 a2_1 a2_2).bind fun bt135 => (if bt135.2 = 0 then (if a1_0 = 0 then (commonholdref_ValueCompares.j1 kj3 a0 bt135.1 true a1_0 a1_1 a1_2 a2_0 a2_1 a2_2) else (commonholdref_ValueCompares.j1 kj3 a0 bt135.1 (a2_0 == 0) a1_0 a1_1 a1_2 a2_0 a2_1 a2_2)) else (some (0, bt135.2)))) = some (r1, r2) := by rw [if_neg (show ¬ (false = true) by decide)] at H; exact H
        clear H
        have H := H1
        clear H1
        replace H := Option.bind_eq_some_iff.mp H
        obtain ⟨⟨t135, t136⟩, A130, H⟩ := H
        replace H : (if t136 = 0 then (if a1_0 = 0 then (commonholdref_ValueCompares.j1 kj3 a0 t135 true a1_0 a1_1 a1_2 a2_0 a2_1 a2_2) else (commonholdref_ValueCompares.j1 kj3 a0 t135 (a2_0 == 0) a1_0 a1_1 a1_2 a2_0 a2_1 a2_2)) else (some (0, t136))) = some (r1, r2) := H
        have A13 := Aside0.mk A130
        clear A130
        by_cases c14 : t136 = 0
        · rw [if_pos c14] at H
          have c14b0 : (t136 == 0) = true := beq_iff_eq.mpr c14
          have c14b1 : (t136 != 0) = false := bne_eq_false_iff_eq.mpr c14
          clear c14
          have HC15 := Aside0.mk H
          clear H
          have hnb16 := NB133_134.out
          have hnc16 := NB134_133.out
          have hcz17_0 : wc.cell? ⟨gb133, 0, none⟩ = some (.int .i64 a1_0) := (blk_cell BK133.out 0).trans rfl
          have hcz17_1 : wc.cell? ⟨gb133, 1, none⟩ = some (.int .i64 a1_1) := (blk_cell BK133.out 1).trans rfl
          have hcz17_2 : wc.cell? ⟨gb133, 2, none⟩ = some (.string a1_2) := (blk_cell BK133.out 2).trans rfl
          have hfz17_0 := blk_frozen BK133.out 0
          have hfz17_1 := blk_frozen BK133.out 1
          have hfz17_2 := blk_frozen BK133.out 2
          have hcz18_0 : wc.cell? ⟨gb134, 0, none⟩ = some (.int .i64 a2_0) := (blk_cell BK134.out 0).trans rfl
          have hcz18_1 : wc.cell? ⟨gb134, 1, none⟩ = some (.int .i64 a2_1) := (blk_cell BK134.out 1).trans rfl
          have hcz18_2 : wc.cell? ⟨gb134, 2, none⟩ = some (.string a2_2) := (blk_cell BK134.out 2).trans rfl
          have hfz18_0 := blk_frozen BK134.out 0
          have hfz18_1 := blk_frozen BK134.out 1
          have hfz18_2 := blk_frozen BK134.out 2
          go_upto_region 6 with (first | ((with_reducible refine gate_callee (f := 20) rfl ?_); refine goesL_ (some 35) rfl rfl Tryd.func20 (by kernel_rfl) rfl #[.agg #[.int .i64 a1_0, .int .i64 a1_1, .string a1_2], .agg #[.int .i64 a2_0, .int .i64 a2_1, .string a2_2]] rfl (by (try simp only [List.map_toArray, List.map_cons, List.map_nil]); first | done | rfl | (simp only [List.length_drop, List.length_take]; rfl)) ?_; (with_reducible refine (commonholdref_ValueOrder.calls kj3 a1_0 a1_1 a1_2 a2_0 a2_1 a2_2 t135 t136 _ A13.out).mono ?_); rintro e w19 ⟨rfl, hb⟩; refine ⟨_, rfl, ?_⟩; have n0_ := Aside0.mk (blk_below (g := gb133) (o := .cells #[.int .i64 a1_0, .int .i64 a1_1, .string a1_2] 23 (0, 0)) (by (with_reducible repeat (first | refine blk_drewN ?_ _ | refine blk_drew ?_ | refine blk_alloc ?_ _)); exact BK133.out) hb); have n1_ := Aside0.mk (blk_below (g := gb134) (o := .cells #[.int .i64 a2_0, .int .i64 a2_1, .string a2_2] 23 (0, 0)) (by (with_reducible repeat (first | refine blk_drewN ?_ _ | refine blk_drew ?_ | refine blk_alloc ?_ _)); exact BK134.out) hb); have n2_ := Aside0.mk (below_step (by repeat (first | (with_reducible first | exact HB.out | apply below_alloc | apply pw_below_drewN | apply below_drew1 | refine below_set ?_ GE133.out | refine below_set ?_ GE134.out) | exact HB.out)) hb); clear BK133; clear BK134; clear HB; have BK133 := n0_; have BK134 := n1_; have HB := n2_; clear n0_ n1_ n2_; (try clear hb); (try clear hb2); (try clear hk); (try clear hi)))
          (try simp only [Act.put, List.setIfInBounds_toArray, List.set_cons_zero, List.set_cons_succ])
          go_cut [48] (fun v48 wc => ∃ (kq : Nat) (x48_14 : Bool), v48 = .bool x48_14 ∧ Aside0 (commonholdref_ValueCompares.j1 kq a0 t135 x48_14 a1_0 a1_1 a1_2 a2_0 a2_1 a2_2 = some (r1, r2)) ∧ Aside0 (kq ≤ kj3) ∧ Aside0 (wc.heap[gb133]? = some (.cells #[.int .i64 a1_0, .int .i64 a1_1, .string a1_2] 23 (0, 0))) ∧ Aside0 (wc.heap[gb134]? = some (.cells #[.int .i64 a2_0, .int .i64 a2_1, .string a2_2] 23 (0, 0))) ∧ Aside0 (Below w.heap.size w wc))
          case first =>
            have H := HC15.out
            clear HC15
            by_cases c20 : a1_0 = 0
            · rw [if_pos c20] at H
              have c20b0 : (a1_0 == 0) = true := beq_iff_eq.mpr c20
              have c20b1 : (a1_0 != 0) = false := bne_eq_false_iff_eq.mpr c20
              clear c20
              (first | rw [c20b0] | (simp only [i64_w, i32_w]; rw [c20b0]) | skip)
              have H' := Aside0.mk H
              clear H
              have hnb21 := NB133_134.out
              have hnc21 := NB134_133.out
              have hcz22_0 : w19.cell? ⟨gb133, 0, none⟩ = some (.int .i64 a1_0) := (blk_cell BK133.out 0).trans rfl
              have hcz22_1 : w19.cell? ⟨gb133, 1, none⟩ = some (.int .i64 a1_1) := (blk_cell BK133.out 1).trans rfl
              have hcz22_2 : w19.cell? ⟨gb133, 2, none⟩ = some (.string a1_2) := (blk_cell BK133.out 2).trans rfl
              have hfz22_0 := blk_frozen BK133.out 0
              have hfz22_1 := blk_frozen BK133.out 1
              have hfz22_2 := blk_frozen BK133.out 2
              go_wp2
              go_meet
              case rel => exact ⟨_, (true), (by first | rfl | (simp; done) | (simp [*]; done)), H', ⟨by have := HJ3.out; first | omega | exact Nat.le_refl _⟩, ⟨by (with_reducible repeat (first | refine blk_drewN ?_ _ | refine blk_drew ?_ | refine blk_alloc ?_ _)); exact BK133.out⟩, ⟨by (with_reducible repeat (first | refine blk_drewN ?_ _ | refine blk_drew ?_ | refine blk_alloc ?_ _)); exact BK134.out⟩, ⟨by repeat (first | (with_reducible first | exact HB.out | apply below_alloc | apply pw_below_drewN | apply below_drew1 | refine below_set ?_ GE133.out | refine below_set ?_ GE134.out) | exact HB.out)⟩⟩
            · rw [if_neg c20] at H
              have c20b0 : (a1_0 == 0) = false := beq_eq_false_iff_ne.mpr c20
              have c20b1 : (a1_0 != 0) = true := bne_iff_ne.mpr c20
              (first | rw [c20b0] | (simp only [i64_w, i32_w]; rw [c20b0]) | skip)
              have H' := Aside0.mk H
              clear H
              have hnb23 := NB133_134.out
              have hnc23 := NB134_133.out
              have hcz24_0 : w19.cell? ⟨gb133, 0, none⟩ = some (.int .i64 a1_0) := (blk_cell BK133.out 0).trans rfl
              have hcz24_1 : w19.cell? ⟨gb133, 1, none⟩ = some (.int .i64 a1_1) := (blk_cell BK133.out 1).trans rfl
              have hcz24_2 : w19.cell? ⟨gb133, 2, none⟩ = some (.string a1_2) := (blk_cell BK133.out 2).trans rfl
              have hfz24_0 := blk_frozen BK133.out 0
              have hfz24_1 := blk_frozen BK133.out 1
              have hfz24_2 := blk_frozen BK133.out 2
              have hcz25_0 : w19.cell? ⟨gb134, 0, none⟩ = some (.int .i64 a2_0) := (blk_cell BK134.out 0).trans rfl
              have hcz25_1 : w19.cell? ⟨gb134, 1, none⟩ = some (.int .i64 a2_1) := (blk_cell BK134.out 1).trans rfl
              have hcz25_2 : w19.cell? ⟨gb134, 2, none⟩ = some (.string a2_2) := (blk_cell BK134.out 2).trans rfl
              have hfz25_0 := blk_frozen BK134.out 0
              have hfz25_1 := blk_frozen BK134.out 1
              have hfz25_2 := blk_frozen BK134.out 2
              go_wp2
              go_meet
              case rel => exact ⟨_, ((a2_0 == 0)), (by first | rfl | (simp; done) | (simp [*]; done)), H', ⟨by have := HJ3.out; first | omega | exact Nat.le_refl _⟩, ⟨by (with_reducible repeat (first | refine blk_drewN ?_ _ | refine blk_drew ?_ | refine blk_alloc ?_ _)); exact BK133.out⟩, ⟨by (with_reducible repeat (first | refine blk_drewN ?_ _ | refine blk_drew ?_ | refine blk_alloc ?_ _)); exact BK134.out⟩, ⟨by repeat (first | (with_reducible first | exact HB.out | apply below_alloc | apply pw_below_drewN | apply below_drew1 | refine below_set ?_ GE133.out | refine below_set ?_ GE134.out) | exact HB.out)⟩⟩
          case rest =>
            clear HC15
            try clear c1
            try clear c2
            try clear p2
            try clear c7
            try clear c7b0
            try clear c7b1
            try clear c8
            try clear c8b0
            try clear c8b1
            try clear c9
            try clear c9b0
            try clear c9b1
            try clear c10
            try clear c10b0
            try clear c10b1
            try clear c11
            try clear c11b0
            try clear c11b1
            try clear c12
            try clear c14
            try clear c14b0
            try clear c14b1
            try clear c16
            try clear c20
            try clear c20b0
            try clear c20b1
            try clear c21
            try clear c22
            try clear c23
            try clear hcz17_0
            try clear hcz17_1
            try clear hcz17_2
            try clear hcz18_0
            try clear hcz18_1
            try clear hcz18_2
            try clear hcz22_0
            try clear hcz22_1
            try clear hcz22_2
            try clear hcz24_0
            try clear hcz24_1
            try clear hcz24_2
            try clear hcz25_0
            try clear hcz25_1
            try clear hcz25_2
            try clear hfz17_0
            try clear hfz17_1
            try clear hfz17_2
            try clear hfz18_0
            try clear hfz18_1
            try clear hfz18_2
            try clear hfz22_0
            try clear hfz22_1
            try clear hfz22_2
            try clear hfz24_0
            try clear hfz24_1
            try clear hfz24_2
            try clear hfz25_0
            try clear hfz25_1
            try clear hfz25_2
            try clear p2
            obtain ⟨kq, x48_14, rfl, HA, HJ14, BK133, BK134, HB⟩ := hcut
            cases kq with
            | zero => exact absurd HA.out (by simp [commonholdref_ValueCompares.j1])
            | succ kj14 =>
              have H := HA.out
              clear HA
              simp only [commonholdref_ValueCompares.j1] at H
              by_cases c26 : x48_14 = true
              · subst c26
                have H1 : (some (1, 0)) = some (r1, r2) := by rw [if_pos rfl] at H; exact H
                clear H
                have H := H1
                clear H1
                simp only [Option.some.injEq, Prod.mk.injEq] at H
                obtain ⟨rfl, rfl⟩ := H
                go_wp2
                go_ret2
                exact ⟨by first | rfl | (simp [errW_none, errW_some] <;> rfl) | (simp [*, errW_none, errW_some] <;> rfl), by repeat (first | (with_reducible first | exact HB.out | apply below_alloc | apply pw_below_drewN | apply below_drew1 | refine below_set ?_ GE133.out | refine below_set ?_ GE134.out) | exact HB.out)⟩
              · replace c26 := Bool.eq_false_iff.mpr c26
                subst c26
                have H1 : (if a1_0 = a2_0 then (if a0 = 13 then (if t135 = 0 then (some (2, 0)) else (if a0 = 14 then (some (2, 0)) else (if a0 = 15 then (if t135 < 0 then (some (2, 0)) else (if a0 = 16 then (if t135 ≤ 0 then (some (2, 0)) else (if a0 = 17 then (if t135 > 0 then (some (2, 0)) else (if a0 = 18 then (if t135 ≥ 0 then (some (2, 0)) else (some (0, 0))) else (some (0, 0)))) else (if a0 = 18 then (if t135 ≥ 0 then (some (2, 0)) else (some (0, 0))) else (some (0, 0))))) else (if a0 = 17 then (if t135 > 0 then (some (2, 0)) else (if a0 = 18 then (if t135 ≥ 0 then (some (2, 0)) else (some (0, 0))) else (some (0, 0)))) else (if a0 = 18 then (if t135 ≥ 0 then (some (2, 0)) else (some (0, 0))) else (some (0, 0)))))) else (if a0 = 16 then (if t135 ≤ 0 then (some (2, 0)) else (if a0 = 17 then (if t135 > 0 then (some (2, 0)) else (if a0 = 18 then (if t135 ≥ 0 then (some (2, 0)) else (some (0, 0))) else (some (0, 0)))) else (if a0 = 18 then (if t135 ≥ 0 then (some (2, 0)) else (some (0, 0))) else (some (0, 0))))) else (if a0 = 17 then (if t135 > 0 then (some (2, 0)) else (if a0 = 18 then (if t135 ≥ 0 then (some (2, 0)) else (some (0, 0))) else (some (0, 0)))) else (if a0 = 18 then (if t135 ≥ 0 then (some (2, 0)) else (some (0, 0))) else (some (0, 0)))))))) else (if a0 = 14 then (if t135 = 0 then (if a0 = 15 then (if t135 < 0 then (some (2, 0)) else (if a0 = 16 then (if t135 ≤ 0 then (some (2, 0)) else (if a0 = 17 then (if t135 > 0 then (some (2, 0)) else (if a0 = 18 then (if t135 ≥ 0 then (some (2, 0)) else (some (0, 0))) else (some (0, 0)))) else (if a0 = 18 then (if t135 ≥ 0 then (some (2, 0)) else (some (0, 0))) else (some (0, 0))))) else (if a0 = 17 then (if t135 > 0 then (some (2, 0)) else (if a0 = 18 then (if t135 ≥ 0 then (some (2, 0)) else (some (0, 0))) else (some (0, 0)))) else (if a0 = 18 then (if t135 ≥ 0 then (some (2, 0)) else (some (0, 0))) else (some (0, 0)))))) else (if a0 = 16 then (if t135 ≤ 0 then (some (2, 0)) else (if a0 = 17 then (if t135 > 0 then (some (2, 0)) else (if a0 = 18 then (if t135 ≥ 0 then (some (2, 0)) else (some (0, 0))) else (some (0, 0)))) else (if a0 = 18 then (if t135 ≥ 0 then (some (2, 0)) else (some (0, 0))) else (some (0, 0))))) else (if a0 = 17 then (if t135 > 0 then (some (2, 0)) else (if a0 = 18 then (if t135 ≥ 0 then (some (2, 0)) else (some (0, 0))) else (some (0, 0)))) else (if a0 = 18 then (if t135 ≥ 0 then (some (2, 0)) else (some (0, 0))) else (some (0, 0)))))) else (some (2, 0))) else (if a0 = 15 then (if t135 < 0 then (some (2, 0)) else (if a0 = 16 then (if t135 ≤ 0 then (some (2, 0)) else (if a0 = 17 then (if t135 > 0 then (some (2, 0)) else (if a0 = 18 then (if t135 ≥ 0 then (some (2, 0)) else (some (0, 0))) else (some (0, 0)))) else (if a0 = 18 then (if t135 ≥ 0 then (some (2, 0)) else (some (0, 0))) else (some (0, 0))))) else (if a0 = 17 then (if t135 > 0 then (some (2, 0)) else (if a0 = 18 then (if t135 ≥ 0 then (some (2, 0)) else (some (0, 0))) else (some (0, 0)))) else (if a0 = 18 then (if t135 ≥ 0 then (some (2, 0)) else (some (0, 0))) else (some (0, 0)))))) else (if a0 = 16 then (if t135 ≤ 0 then (some (2, 0)) else (if a0 = 17 then (if t135 > 0 then (some (2, 0)) else (if a0 = 18 then (if t135 ≥ 0 then (some (2, 0)) else (some (0, 0))) else (some (0, 0)))) else (if a0 = 18 then (if t135 ≥ 0 then (some (2, 0)) else (some (0, 0))) else (some (0, 0))))) else (if a0 = 17 then (if t135 > 0 then (some (2, 0)) else (if a0 = 18 then (if t135 ≥ 0 then (some (2, 0)) else (some (0, 0))) else (some (0, 0)))) else (if a0 = 18 then (if t135 ≥ 0 then (some (2, 0)) else (some (0, 0))) else (some (0, 0)))))))) else (some (0, 12))) = some (r1, r2) := by rw [if_neg (show ¬ (false = true) by decide)] at H; exact H
                clear H
                have H := H1
                clear H1
                by_cases c27 : a1_0 = a2_0
                · rw [if_pos c27] at H
                  have c27b0 : (a1_0 == a2_0) = true := beq_iff_eq.mpr c27
                  have c27b1 : (a1_0 != a2_0) = false := bne_eq_false_iff_eq.mpr c27
                  clear c27
                  by_cases c28 : a0 = 13
                  · rw [if_pos c28] at H
                    have c28b0 : (a0 == 13) = true := beq_iff_eq.mpr c28
                    have c28b1 : (a0 != 13) = false := bne_eq_false_iff_eq.mpr c28
                    clear c28
                    by_cases c29 : t135 = 0
                    · rw [if_pos c29] at H
                      have c29b0 : (t135 == 0) = true := beq_iff_eq.mpr c29
                      have c29b1 : (t135 != 0) = false := bne_eq_false_iff_eq.mpr c29
                      clear c29
                      simp only [Option.some.injEq, Prod.mk.injEq] at H
                      obtain ⟨rfl, rfl⟩ := H
                      have hnb30 := NB133_134.out
                      have hnc30 := NB134_133.out
                      have hcz31_0 : wc.cell? ⟨gb133, 0, none⟩ = some (.int .i64 a1_0) := (blk_cell BK133.out 0).trans rfl
                      have hcz31_1 : wc.cell? ⟨gb133, 1, none⟩ = some (.int .i64 a1_1) := (blk_cell BK133.out 1).trans rfl
                      have hcz31_2 : wc.cell? ⟨gb133, 2, none⟩ = some (.string a1_2) := (blk_cell BK133.out 2).trans rfl
                      have hfz31_0 := blk_frozen BK133.out 0
                      have hfz31_1 := blk_frozen BK133.out 1
                      have hfz31_2 := blk_frozen BK133.out 2
                      have hcz32_0 : wc.cell? ⟨gb134, 0, none⟩ = some (.int .i64 a2_0) := (blk_cell BK134.out 0).trans rfl
                      have hcz32_1 : wc.cell? ⟨gb134, 1, none⟩ = some (.int .i64 a2_1) := (blk_cell BK134.out 1).trans rfl
                      have hcz32_2 : wc.cell? ⟨gb134, 2, none⟩ = some (.string a2_2) := (blk_cell BK134.out 2).trans rfl
                      have hfz32_0 := blk_frozen BK134.out 0
                      have hfz32_1 := blk_frozen BK134.out 1
                      have hfz32_2 := blk_frozen BK134.out 2
                      go_wp2
                      go_ret2
                      exact ⟨by first | rfl | (simp [errW_none, errW_some] <;> rfl) | (simp [*, errW_none, errW_some] <;> rfl), by repeat (first | (with_reducible first | exact HB.out | apply below_alloc | apply pw_below_drewN | apply below_drew1 | refine below_set ?_ GE133.out | refine below_set ?_ GE134.out) | exact HB.out)⟩
                    · rw [if_neg c29] at H
                      have c29b0 : (t135 == 0) = false := beq_eq_false_iff_ne.mpr c29
                      have c29b1 : (t135 != 0) = true := bne_iff_ne.mpr c29
                      by_cases c33 : a0 = 14
                      · rw [if_pos c33] at H
                        have c33b0 : (a0 == 14) = true := beq_iff_eq.mpr c33
                        have c33b1 : (a0 != 14) = false := bne_eq_false_iff_eq.mpr c33
                        clear c33
                        simp only [Option.some.injEq, Prod.mk.injEq] at H
                        obtain ⟨rfl, rfl⟩ := H
                        have hnb34 := NB133_134.out
                        have hnc34 := NB134_133.out
                        have hcz35_0 : wc.cell? ⟨gb133, 0, none⟩ = some (.int .i64 a1_0) := (blk_cell BK133.out 0).trans rfl
                        have hcz35_1 : wc.cell? ⟨gb133, 1, none⟩ = some (.int .i64 a1_1) := (blk_cell BK133.out 1).trans rfl
                        have hcz35_2 : wc.cell? ⟨gb133, 2, none⟩ = some (.string a1_2) := (blk_cell BK133.out 2).trans rfl
                        have hfz35_0 := blk_frozen BK133.out 0
                        have hfz35_1 := blk_frozen BK133.out 1
                        have hfz35_2 := blk_frozen BK133.out 2
                        have hcz36_0 : wc.cell? ⟨gb134, 0, none⟩ = some (.int .i64 a2_0) := (blk_cell BK134.out 0).trans rfl
                        have hcz36_1 : wc.cell? ⟨gb134, 1, none⟩ = some (.int .i64 a2_1) := (blk_cell BK134.out 1).trans rfl
                        have hcz36_2 : wc.cell? ⟨gb134, 2, none⟩ = some (.string a2_2) := (blk_cell BK134.out 2).trans rfl
                        have hfz36_0 := blk_frozen BK134.out 0
                        have hfz36_1 := blk_frozen BK134.out 1
                        have hfz36_2 := blk_frozen BK134.out 2
                        go_wp2
                        go_ret2
                        exact ⟨by first | rfl | (simp [errW_none, errW_some] <;> rfl) | (simp [*, errW_none, errW_some] <;> rfl), by repeat (first | (with_reducible first | exact HB.out | apply below_alloc | apply pw_below_drewN | apply below_drew1 | refine below_set ?_ GE133.out | refine below_set ?_ GE134.out) | exact HB.out)⟩
                      · rw [if_neg c33] at H
                        have c33b0 : (a0 == 14) = false := beq_eq_false_iff_ne.mpr c33
                        have c33b1 : (a0 != 14) = true := bne_iff_ne.mpr c33
                        by_cases c37 : a0 = 15
                        · rw [if_pos c37] at H
                          have c37b0 : (a0 == 15) = true := beq_iff_eq.mpr c37
                          have c37b1 : (a0 != 15) = false := bne_eq_false_iff_eq.mpr c37
                          clear c37
                          by_cases c38 : t135 < 0
                          · rw [if_pos c38] at H
                            have c38b0 : decide (t135 < 0) = true := decide_eq_true c38
                            clear c38
                            simp only [Option.some.injEq, Prod.mk.injEq] at H
                            obtain ⟨rfl, rfl⟩ := H
                            have hnb39 := NB133_134.out
                            have hnc39 := NB134_133.out
                            have hcz40_0 : wc.cell? ⟨gb133, 0, none⟩ = some (.int .i64 a1_0) := (blk_cell BK133.out 0).trans rfl
                            have hcz40_1 : wc.cell? ⟨gb133, 1, none⟩ = some (.int .i64 a1_1) := (blk_cell BK133.out 1).trans rfl
                            have hcz40_2 : wc.cell? ⟨gb133, 2, none⟩ = some (.string a1_2) := (blk_cell BK133.out 2).trans rfl
                            have hfz40_0 := blk_frozen BK133.out 0
                            have hfz40_1 := blk_frozen BK133.out 1
                            have hfz40_2 := blk_frozen BK133.out 2
                            have hcz41_0 : wc.cell? ⟨gb134, 0, none⟩ = some (.int .i64 a2_0) := (blk_cell BK134.out 0).trans rfl
                            have hcz41_1 : wc.cell? ⟨gb134, 1, none⟩ = some (.int .i64 a2_1) := (blk_cell BK134.out 1).trans rfl
                            have hcz41_2 : wc.cell? ⟨gb134, 2, none⟩ = some (.string a2_2) := (blk_cell BK134.out 2).trans rfl
                            have hfz41_0 := blk_frozen BK134.out 0
                            have hfz41_1 := blk_frozen BK134.out 1
                            have hfz41_2 := blk_frozen BK134.out 2
                            go_wp2
                            go_ret2
                            exact ⟨by first | rfl | (simp [errW_none, errW_some] <;> rfl) | (simp [*, errW_none, errW_some] <;> rfl), by repeat (first | (with_reducible first | exact HB.out | apply below_alloc | apply pw_below_drewN | apply below_drew1 | refine below_set ?_ GE133.out | refine below_set ?_ GE134.out) | exact HB.out)⟩
                          · rw [if_neg c38] at H
                            have c38b0 : decide (t135 < 0) = false := decide_eq_false c38
                            clear c38
                            by_cases c42 : a0 = 16
                            · rw [if_pos c42] at H
                              have c42b0 : (a0 == 16) = true := beq_iff_eq.mpr c42
                              have c42b1 : (a0 != 16) = false := bne_eq_false_iff_eq.mpr c42
                              clear c42
                              by_cases c43 : t135 ≤ 0
                              · rw [if_pos c43] at H
                                have c43b0 : decide (t135 ≤ 0) = true := decide_eq_true c43
                                clear c43
                                simp only [Option.some.injEq, Prod.mk.injEq] at H
                                obtain ⟨rfl, rfl⟩ := H
                                have hnb44 := NB133_134.out
                                have hnc44 := NB134_133.out
                                have hcz45_0 : wc.cell? ⟨gb133, 0, none⟩ = some (.int .i64 a1_0) := (blk_cell BK133.out 0).trans rfl
                                have hcz45_1 : wc.cell? ⟨gb133, 1, none⟩ = some (.int .i64 a1_1) := (blk_cell BK133.out 1).trans rfl
                                have hcz45_2 : wc.cell? ⟨gb133, 2, none⟩ = some (.string a1_2) := (blk_cell BK133.out 2).trans rfl
                                have hfz45_0 := blk_frozen BK133.out 0
                                have hfz45_1 := blk_frozen BK133.out 1
                                have hfz45_2 := blk_frozen BK133.out 2
                                have hcz46_0 : wc.cell? ⟨gb134, 0, none⟩ = some (.int .i64 a2_0) := (blk_cell BK134.out 0).trans rfl
                                have hcz46_1 : wc.cell? ⟨gb134, 1, none⟩ = some (.int .i64 a2_1) := (blk_cell BK134.out 1).trans rfl
                                have hcz46_2 : wc.cell? ⟨gb134, 2, none⟩ = some (.string a2_2) := (blk_cell BK134.out 2).trans rfl
                                have hfz46_0 := blk_frozen BK134.out 0
                                have hfz46_1 := blk_frozen BK134.out 1
                                have hfz46_2 := blk_frozen BK134.out 2
                                go_wp2
                                go_ret2
                                exact ⟨by first | rfl | (simp [errW_none, errW_some] <;> rfl) | (simp [*, errW_none, errW_some] <;> rfl), by repeat (first | (with_reducible first | exact HB.out | apply below_alloc | apply pw_below_drewN | apply below_drew1 | refine below_set ?_ GE133.out | refine below_set ?_ GE134.out) | exact HB.out)⟩
                              · rw [if_neg c43] at H
                                have c43b0 : decide (t135 ≤ 0) = false := decide_eq_false c43
                                clear c43
                                by_cases c47 : a0 = 17
                                · rw [if_pos c47] at H
                                  have c47b0 : (a0 == 17) = true := beq_iff_eq.mpr c47
                                  have c47b1 : (a0 != 17) = false := bne_eq_false_iff_eq.mpr c47
                                  clear c47
                                  by_cases c48 : t135 > 0
                                  · rw [if_pos c48] at H
                                    have c48b0 : decide (0 < t135) = true := decide_eq_true c48
                                    clear c48
                                    simp only [Option.some.injEq, Prod.mk.injEq] at H
                                    obtain ⟨rfl, rfl⟩ := H
                                    have hnb49 := NB133_134.out
                                    have hnc49 := NB134_133.out
                                    have hcz50_0 : wc.cell? ⟨gb133, 0, none⟩ = some (.int .i64 a1_0) := (blk_cell BK133.out 0).trans rfl
                                    have hcz50_1 : wc.cell? ⟨gb133, 1, none⟩ = some (.int .i64 a1_1) := (blk_cell BK133.out 1).trans rfl
                                    have hcz50_2 : wc.cell? ⟨gb133, 2, none⟩ = some (.string a1_2) := (blk_cell BK133.out 2).trans rfl
                                    have hfz50_0 := blk_frozen BK133.out 0
                                    have hfz50_1 := blk_frozen BK133.out 1
                                    have hfz50_2 := blk_frozen BK133.out 2
                                    have hcz51_0 : wc.cell? ⟨gb134, 0, none⟩ = some (.int .i64 a2_0) := (blk_cell BK134.out 0).trans rfl
                                    have hcz51_1 : wc.cell? ⟨gb134, 1, none⟩ = some (.int .i64 a2_1) := (blk_cell BK134.out 1).trans rfl
                                    have hcz51_2 : wc.cell? ⟨gb134, 2, none⟩ = some (.string a2_2) := (blk_cell BK134.out 2).trans rfl
                                    have hfz51_0 := blk_frozen BK134.out 0
                                    have hfz51_1 := blk_frozen BK134.out 1
                                    have hfz51_2 := blk_frozen BK134.out 2
                                    go_wp2
                                    go_ret2
                                    exact ⟨by first | rfl | (simp [errW_none, errW_some] <;> rfl) | (simp [*, errW_none, errW_some] <;> rfl), by repeat (first | (with_reducible first | exact HB.out | apply below_alloc | apply pw_below_drewN | apply below_drew1 | refine below_set ?_ GE133.out | refine below_set ?_ GE134.out) | exact HB.out)⟩
                                  · rw [if_neg c48] at H
                                    have c48b0 : decide (0 < t135) = false := decide_eq_false c48
                                    clear c48
                                    by_cases c52 : a0 = 18
                                    · rw [if_pos c52] at H
                                      have c52b0 : (a0 == 18) = true := beq_iff_eq.mpr c52
                                      have c52b1 : (a0 != 18) = false := bne_eq_false_iff_eq.mpr c52
                                      clear c52
                                      by_cases c53 : t135 ≥ 0
                                      · rw [if_pos c53] at H
                                        have c53b0 : decide (0 ≤ t135) = true := decide_eq_true c53
                                        clear c53
                                        simp only [Option.some.injEq, Prod.mk.injEq] at H
                                        obtain ⟨rfl, rfl⟩ := H
                                        have hnb54 := NB133_134.out
                                        have hnc54 := NB134_133.out
                                        have hcz55_0 : wc.cell? ⟨gb133, 0, none⟩ = some (.int .i64 a1_0) := (blk_cell BK133.out 0).trans rfl
                                        have hcz55_1 : wc.cell? ⟨gb133, 1, none⟩ = some (.int .i64 a1_1) := (blk_cell BK133.out 1).trans rfl
                                        have hcz55_2 : wc.cell? ⟨gb133, 2, none⟩ = some (.string a1_2) := (blk_cell BK133.out 2).trans rfl
                                        have hfz55_0 := blk_frozen BK133.out 0
                                        have hfz55_1 := blk_frozen BK133.out 1
                                        have hfz55_2 := blk_frozen BK133.out 2
                                        have hcz56_0 : wc.cell? ⟨gb134, 0, none⟩ = some (.int .i64 a2_0) := (blk_cell BK134.out 0).trans rfl
                                        have hcz56_1 : wc.cell? ⟨gb134, 1, none⟩ = some (.int .i64 a2_1) := (blk_cell BK134.out 1).trans rfl
                                        have hcz56_2 : wc.cell? ⟨gb134, 2, none⟩ = some (.string a2_2) := (blk_cell BK134.out 2).trans rfl
                                        have hfz56_0 := blk_frozen BK134.out 0
                                        have hfz56_1 := blk_frozen BK134.out 1
                                        have hfz56_2 := blk_frozen BK134.out 2
                                        go_wp2
                                        go_ret2
                                        exact ⟨by first | rfl | (simp [errW_none, errW_some] <;> rfl) | (simp [*, errW_none, errW_some] <;> rfl), by repeat (first | (with_reducible first | exact HB.out | apply below_alloc | apply pw_below_drewN | apply below_drew1 | refine below_set ?_ GE133.out | refine below_set ?_ GE134.out) | exact HB.out)⟩
                                      · rw [if_neg c53] at H
                                        have c53b0 : decide (0 ≤ t135) = false := decide_eq_false c53
                                        clear c53
                                        simp only [Option.some.injEq, Prod.mk.injEq] at H
                                        obtain ⟨rfl, rfl⟩ := H
                                        have hnb57 := NB133_134.out
                                        have hnc57 := NB134_133.out
                                        have hcz58_0 : wc.cell? ⟨gb133, 0, none⟩ = some (.int .i64 a1_0) := (blk_cell BK133.out 0).trans rfl
                                        have hcz58_1 : wc.cell? ⟨gb133, 1, none⟩ = some (.int .i64 a1_1) := (blk_cell BK133.out 1).trans rfl
                                        have hcz58_2 : wc.cell? ⟨gb133, 2, none⟩ = some (.string a1_2) := (blk_cell BK133.out 2).trans rfl
                                        have hfz58_0 := blk_frozen BK133.out 0
                                        have hfz58_1 := blk_frozen BK133.out 1
                                        have hfz58_2 := blk_frozen BK133.out 2
                                        have hcz59_0 : wc.cell? ⟨gb134, 0, none⟩ = some (.int .i64 a2_0) := (blk_cell BK134.out 0).trans rfl
                                        have hcz59_1 : wc.cell? ⟨gb134, 1, none⟩ = some (.int .i64 a2_1) := (blk_cell BK134.out 1).trans rfl
                                        have hcz59_2 : wc.cell? ⟨gb134, 2, none⟩ = some (.string a2_2) := (blk_cell BK134.out 2).trans rfl
                                        have hfz59_0 := blk_frozen BK134.out 0
                                        have hfz59_1 := blk_frozen BK134.out 1
                                        have hfz59_2 := blk_frozen BK134.out 2
                                        go_wp2
                                        go_ret2
                                        exact ⟨by first | rfl | (simp [errW_none, errW_some] <;> rfl) | (simp [*, errW_none, errW_some] <;> rfl), by repeat (first | (with_reducible first | exact HB.out | apply below_alloc | apply pw_below_drewN | apply below_drew1 | refine below_set ?_ GE133.out | refine below_set ?_ GE134.out) | exact HB.out)⟩
                                    · rw [if_neg c52] at H
                                      have c52b0 : (a0 == 18) = false := beq_eq_false_iff_ne.mpr c52
                                      have c52b1 : (a0 != 18) = true := bne_iff_ne.mpr c52
                                      simp only [Option.some.injEq, Prod.mk.injEq] at H
                                      obtain ⟨rfl, rfl⟩ := H
                                      have hnb60 := NB133_134.out
                                      have hnc60 := NB134_133.out
                                      have hcz61_0 : wc.cell? ⟨gb133, 0, none⟩ = some (.int .i64 a1_0) := (blk_cell BK133.out 0).trans rfl
                                      have hcz61_1 : wc.cell? ⟨gb133, 1, none⟩ = some (.int .i64 a1_1) := (blk_cell BK133.out 1).trans rfl
                                      have hcz61_2 : wc.cell? ⟨gb133, 2, none⟩ = some (.string a1_2) := (blk_cell BK133.out 2).trans rfl
                                      have hfz61_0 := blk_frozen BK133.out 0
                                      have hfz61_1 := blk_frozen BK133.out 1
                                      have hfz61_2 := blk_frozen BK133.out 2
                                      have hcz62_0 : wc.cell? ⟨gb134, 0, none⟩ = some (.int .i64 a2_0) := (blk_cell BK134.out 0).trans rfl
                                      have hcz62_1 : wc.cell? ⟨gb134, 1, none⟩ = some (.int .i64 a2_1) := (blk_cell BK134.out 1).trans rfl
                                      have hcz62_2 : wc.cell? ⟨gb134, 2, none⟩ = some (.string a2_2) := (blk_cell BK134.out 2).trans rfl
                                      have hfz62_0 := blk_frozen BK134.out 0
                                      have hfz62_1 := blk_frozen BK134.out 1
                                      have hfz62_2 := blk_frozen BK134.out 2
                                      go_wp2
                                      go_ret2
                                      exact ⟨by first | rfl | (simp [errW_none, errW_some] <;> rfl) | (simp [*, errW_none, errW_some] <;> rfl), by repeat (first | (with_reducible first | exact HB.out | apply below_alloc | apply pw_below_drewN | apply below_drew1 | refine below_set ?_ GE133.out | refine below_set ?_ GE134.out) | exact HB.out)⟩
                                · rw [if_neg c47] at H
                                  have c47b0 : (a0 == 17) = false := beq_eq_false_iff_ne.mpr c47
                                  have c47b1 : (a0 != 17) = true := bne_iff_ne.mpr c47
                                  by_cases c63 : a0 = 18
                                  · rw [if_pos c63] at H
                                    have c63b0 : (a0 == 18) = true := beq_iff_eq.mpr c63
                                    have c63b1 : (a0 != 18) = false := bne_eq_false_iff_eq.mpr c63
                                    clear c63
                                    by_cases c64 : t135 ≥ 0
                                    · rw [if_pos c64] at H
                                      have c64b0 : decide (0 ≤ t135) = true := decide_eq_true c64
                                      clear c64
                                      simp only [Option.some.injEq, Prod.mk.injEq] at H
                                      obtain ⟨rfl, rfl⟩ := H
                                      have hnb65 := NB133_134.out
                                      have hnc65 := NB134_133.out
                                      have hcz66_0 : wc.cell? ⟨gb133, 0, none⟩ = some (.int .i64 a1_0) := (blk_cell BK133.out 0).trans rfl
                                      have hcz66_1 : wc.cell? ⟨gb133, 1, none⟩ = some (.int .i64 a1_1) := (blk_cell BK133.out 1).trans rfl
                                      have hcz66_2 : wc.cell? ⟨gb133, 2, none⟩ = some (.string a1_2) := (blk_cell BK133.out 2).trans rfl
                                      have hfz66_0 := blk_frozen BK133.out 0
                                      have hfz66_1 := blk_frozen BK133.out 1
                                      have hfz66_2 := blk_frozen BK133.out 2
                                      have hcz67_0 : wc.cell? ⟨gb134, 0, none⟩ = some (.int .i64 a2_0) := (blk_cell BK134.out 0).trans rfl
                                      have hcz67_1 : wc.cell? ⟨gb134, 1, none⟩ = some (.int .i64 a2_1) := (blk_cell BK134.out 1).trans rfl
                                      have hcz67_2 : wc.cell? ⟨gb134, 2, none⟩ = some (.string a2_2) := (blk_cell BK134.out 2).trans rfl
                                      have hfz67_0 := blk_frozen BK134.out 0
                                      have hfz67_1 := blk_frozen BK134.out 1
                                      have hfz67_2 := blk_frozen BK134.out 2
                                      go_wp2
                                      go_ret2
                                      exact ⟨by first | rfl | (simp [errW_none, errW_some] <;> rfl) | (simp [*, errW_none, errW_some] <;> rfl), by repeat (first | (with_reducible first | exact HB.out | apply below_alloc | apply pw_below_drewN | apply below_drew1 | refine below_set ?_ GE133.out | refine below_set ?_ GE134.out) | exact HB.out)⟩
                                    · rw [if_neg c64] at H
                                      have c64b0 : decide (0 ≤ t135) = false := decide_eq_false c64
                                      clear c64
                                      simp only [Option.some.injEq, Prod.mk.injEq] at H
                                      obtain ⟨rfl, rfl⟩ := H
                                      have hnb68 := NB133_134.out
                                      have hnc68 := NB134_133.out
                                      have hcz69_0 : wc.cell? ⟨gb133, 0, none⟩ = some (.int .i64 a1_0) := (blk_cell BK133.out 0).trans rfl
                                      have hcz69_1 : wc.cell? ⟨gb133, 1, none⟩ = some (.int .i64 a1_1) := (blk_cell BK133.out 1).trans rfl
                                      have hcz69_2 : wc.cell? ⟨gb133, 2, none⟩ = some (.string a1_2) := (blk_cell BK133.out 2).trans rfl
                                      have hfz69_0 := blk_frozen BK133.out 0
                                      have hfz69_1 := blk_frozen BK133.out 1
                                      have hfz69_2 := blk_frozen BK133.out 2
                                      have hcz70_0 : wc.cell? ⟨gb134, 0, none⟩ = some (.int .i64 a2_0) := (blk_cell BK134.out 0).trans rfl
                                      have hcz70_1 : wc.cell? ⟨gb134, 1, none⟩ = some (.int .i64 a2_1) := (blk_cell BK134.out 1).trans rfl
                                      have hcz70_2 : wc.cell? ⟨gb134, 2, none⟩ = some (.string a2_2) := (blk_cell BK134.out 2).trans rfl
                                      have hfz70_0 := blk_frozen BK134.out 0
                                      have hfz70_1 := blk_frozen BK134.out 1
                                      have hfz70_2 := blk_frozen BK134.out 2
                                      go_wp2
                                      go_ret2
                                      exact ⟨by first | rfl | (simp [errW_none, errW_some] <;> rfl) | (simp [*, errW_none, errW_some] <;> rfl), by repeat (first | (with_reducible first | exact HB.out | apply below_alloc | apply pw_below_drewN | apply below_drew1 | refine below_set ?_ GE133.out | refine below_set ?_ GE134.out) | exact HB.out)⟩
                                  · rw [if_neg c63] at H
                                    have c63b0 : (a0 == 18) = false := beq_eq_false_iff_ne.mpr c63
                                    have c63b1 : (a0 != 18) = true := bne_iff_ne.mpr c63
                                    simp only [Option.some.injEq, Prod.mk.injEq] at H
                                    obtain ⟨rfl, rfl⟩ := H
                                    have hnb71 := NB133_134.out
                                    have hnc71 := NB134_133.out
                                    have hcz72_0 : wc.cell? ⟨gb133, 0, none⟩ = some (.int .i64 a1_0) := (blk_cell BK133.out 0).trans rfl
                                    have hcz72_1 : wc.cell? ⟨gb133, 1, none⟩ = some (.int .i64 a1_1) := (blk_cell BK133.out 1).trans rfl
                                    have hcz72_2 : wc.cell? ⟨gb133, 2, none⟩ = some (.string a1_2) := (blk_cell BK133.out 2).trans rfl
                                    have hfz72_0 := blk_frozen BK133.out 0
                                    have hfz72_1 := blk_frozen BK133.out 1
                                    have hfz72_2 := blk_frozen BK133.out 2
                                    have hcz73_0 : wc.cell? ⟨gb134, 0, none⟩ = some (.int .i64 a2_0) := (blk_cell BK134.out 0).trans rfl
                                    have hcz73_1 : wc.cell? ⟨gb134, 1, none⟩ = some (.int .i64 a2_1) := (blk_cell BK134.out 1).trans rfl
                                    have hcz73_2 : wc.cell? ⟨gb134, 2, none⟩ = some (.string a2_2) := (blk_cell BK134.out 2).trans rfl
                                    have hfz73_0 := blk_frozen BK134.out 0
                                    have hfz73_1 := blk_frozen BK134.out 1
                                    have hfz73_2 := blk_frozen BK134.out 2
                                    go_wp2
                                    go_ret2
                                    exact ⟨by first | rfl | (simp [errW_none, errW_some] <;> rfl) | (simp [*, errW_none, errW_some] <;> rfl), by repeat (first | (with_reducible first | exact HB.out | apply below_alloc | apply pw_below_drewN | apply below_drew1 | refine below_set ?_ GE133.out | refine below_set ?_ GE134.out) | exact HB.out)⟩
                            · rw [if_neg c42] at H
                              have c42b0 : (a0 == 16) = false := beq_eq_false_iff_ne.mpr c42
                              have c42b1 : (a0 != 16) = true := bne_iff_ne.mpr c42
                              by_cases c74 : a0 = 17
                              · rw [if_pos c74] at H
                                have c74b0 : (a0 == 17) = true := beq_iff_eq.mpr c74
                                have c74b1 : (a0 != 17) = false := bne_eq_false_iff_eq.mpr c74
                                clear c74
                                by_cases c75 : t135 > 0
                                · rw [if_pos c75] at H
                                  have c75b0 : decide (0 < t135) = true := decide_eq_true c75
                                  clear c75
                                  simp only [Option.some.injEq, Prod.mk.injEq] at H
                                  obtain ⟨rfl, rfl⟩ := H
                                  have hnb76 := NB133_134.out
                                  have hnc76 := NB134_133.out
                                  have hcz77_0 : wc.cell? ⟨gb133, 0, none⟩ = some (.int .i64 a1_0) := (blk_cell BK133.out 0).trans rfl
                                  have hcz77_1 : wc.cell? ⟨gb133, 1, none⟩ = some (.int .i64 a1_1) := (blk_cell BK133.out 1).trans rfl
                                  have hcz77_2 : wc.cell? ⟨gb133, 2, none⟩ = some (.string a1_2) := (blk_cell BK133.out 2).trans rfl
                                  have hfz77_0 := blk_frozen BK133.out 0
                                  have hfz77_1 := blk_frozen BK133.out 1
                                  have hfz77_2 := blk_frozen BK133.out 2
                                  have hcz78_0 : wc.cell? ⟨gb134, 0, none⟩ = some (.int .i64 a2_0) := (blk_cell BK134.out 0).trans rfl
                                  have hcz78_1 : wc.cell? ⟨gb134, 1, none⟩ = some (.int .i64 a2_1) := (blk_cell BK134.out 1).trans rfl
                                  have hcz78_2 : wc.cell? ⟨gb134, 2, none⟩ = some (.string a2_2) := (blk_cell BK134.out 2).trans rfl
                                  have hfz78_0 := blk_frozen BK134.out 0
                                  have hfz78_1 := blk_frozen BK134.out 1
                                  have hfz78_2 := blk_frozen BK134.out 2
                                  go_wp2
                                  go_ret2
                                  exact ⟨by first | rfl | (simp [errW_none, errW_some] <;> rfl) | (simp [*, errW_none, errW_some] <;> rfl), by repeat (first | (with_reducible first | exact HB.out | apply below_alloc | apply pw_below_drewN | apply below_drew1 | refine below_set ?_ GE133.out | refine below_set ?_ GE134.out) | exact HB.out)⟩
                                · rw [if_neg c75] at H
                                  have c75b0 : decide (0 < t135) = false := decide_eq_false c75
                                  clear c75
                                  by_cases c79 : a0 = 18
                                  · rw [if_pos c79] at H
                                    have c79b0 : (a0 == 18) = true := beq_iff_eq.mpr c79
                                    have c79b1 : (a0 != 18) = false := bne_eq_false_iff_eq.mpr c79
                                    clear c79
                                    by_cases c80 : t135 ≥ 0
                                    · rw [if_pos c80] at H
                                      have c80b0 : decide (0 ≤ t135) = true := decide_eq_true c80
                                      clear c80
                                      simp only [Option.some.injEq, Prod.mk.injEq] at H
                                      obtain ⟨rfl, rfl⟩ := H
                                      have hnb81 := NB133_134.out
                                      have hnc81 := NB134_133.out
                                      have hcz82_0 : wc.cell? ⟨gb133, 0, none⟩ = some (.int .i64 a1_0) := (blk_cell BK133.out 0).trans rfl
                                      have hcz82_1 : wc.cell? ⟨gb133, 1, none⟩ = some (.int .i64 a1_1) := (blk_cell BK133.out 1).trans rfl
                                      have hcz82_2 : wc.cell? ⟨gb133, 2, none⟩ = some (.string a1_2) := (blk_cell BK133.out 2).trans rfl
                                      have hfz82_0 := blk_frozen BK133.out 0
                                      have hfz82_1 := blk_frozen BK133.out 1
                                      have hfz82_2 := blk_frozen BK133.out 2
                                      have hcz83_0 : wc.cell? ⟨gb134, 0, none⟩ = some (.int .i64 a2_0) := (blk_cell BK134.out 0).trans rfl
                                      have hcz83_1 : wc.cell? ⟨gb134, 1, none⟩ = some (.int .i64 a2_1) := (blk_cell BK134.out 1).trans rfl
                                      have hcz83_2 : wc.cell? ⟨gb134, 2, none⟩ = some (.string a2_2) := (blk_cell BK134.out 2).trans rfl
                                      have hfz83_0 := blk_frozen BK134.out 0
                                      have hfz83_1 := blk_frozen BK134.out 1
                                      have hfz83_2 := blk_frozen BK134.out 2
                                      go_wp2
                                      go_ret2
                                      exact ⟨by first | rfl | (simp [errW_none, errW_some] <;> rfl) | (simp [*, errW_none, errW_some] <;> rfl), by repeat (first | (with_reducible first | exact HB.out | apply below_alloc | apply pw_below_drewN | apply below_drew1 | refine below_set ?_ GE133.out | refine below_set ?_ GE134.out) | exact HB.out)⟩
                                    · rw [if_neg c80] at H
                                      have c80b0 : decide (0 ≤ t135) = false := decide_eq_false c80
                                      clear c80
                                      simp only [Option.some.injEq, Prod.mk.injEq] at H
                                      obtain ⟨rfl, rfl⟩ := H
                                      have hnb84 := NB133_134.out
                                      have hnc84 := NB134_133.out
                                      have hcz85_0 : wc.cell? ⟨gb133, 0, none⟩ = some (.int .i64 a1_0) := (blk_cell BK133.out 0).trans rfl
                                      have hcz85_1 : wc.cell? ⟨gb133, 1, none⟩ = some (.int .i64 a1_1) := (blk_cell BK133.out 1).trans rfl
                                      have hcz85_2 : wc.cell? ⟨gb133, 2, none⟩ = some (.string a1_2) := (blk_cell BK133.out 2).trans rfl
                                      have hfz85_0 := blk_frozen BK133.out 0
                                      have hfz85_1 := blk_frozen BK133.out 1
                                      have hfz85_2 := blk_frozen BK133.out 2
                                      have hcz86_0 : wc.cell? ⟨gb134, 0, none⟩ = some (.int .i64 a2_0) := (blk_cell BK134.out 0).trans rfl
                                      have hcz86_1 : wc.cell? ⟨gb134, 1, none⟩ = some (.int .i64 a2_1) := (blk_cell BK134.out 1).trans rfl
                                      have hcz86_2 : wc.cell? ⟨gb134, 2, none⟩ = some (.string a2_2) := (blk_cell BK134.out 2).trans rfl
                                      have hfz86_0 := blk_frozen BK134.out 0
                                      have hfz86_1 := blk_frozen BK134.out 1
                                      have hfz86_2 := blk_frozen BK134.out 2
                                      go_wp2
                                      go_ret2
                                      exact ⟨by first | rfl | (simp [errW_none, errW_some] <;> rfl) | (simp [*, errW_none, errW_some] <;> rfl), by repeat (first | (with_reducible first | exact HB.out | apply below_alloc | apply pw_below_drewN | apply below_drew1 | refine below_set ?_ GE133.out | refine below_set ?_ GE134.out) | exact HB.out)⟩
                                  · rw [if_neg c79] at H
                                    have c79b0 : (a0 == 18) = false := beq_eq_false_iff_ne.mpr c79
                                    have c79b1 : (a0 != 18) = true := bne_iff_ne.mpr c79
                                    simp only [Option.some.injEq, Prod.mk.injEq] at H
                                    obtain ⟨rfl, rfl⟩ := H
                                    have hnb87 := NB133_134.out
                                    have hnc87 := NB134_133.out
                                    have hcz88_0 : wc.cell? ⟨gb133, 0, none⟩ = some (.int .i64 a1_0) := (blk_cell BK133.out 0).trans rfl
                                    have hcz88_1 : wc.cell? ⟨gb133, 1, none⟩ = some (.int .i64 a1_1) := (blk_cell BK133.out 1).trans rfl
                                    have hcz88_2 : wc.cell? ⟨gb133, 2, none⟩ = some (.string a1_2) := (blk_cell BK133.out 2).trans rfl
                                    have hfz88_0 := blk_frozen BK133.out 0
                                    have hfz88_1 := blk_frozen BK133.out 1
                                    have hfz88_2 := blk_frozen BK133.out 2
                                    have hcz89_0 : wc.cell? ⟨gb134, 0, none⟩ = some (.int .i64 a2_0) := (blk_cell BK134.out 0).trans rfl
                                    have hcz89_1 : wc.cell? ⟨gb134, 1, none⟩ = some (.int .i64 a2_1) := (blk_cell BK134.out 1).trans rfl
                                    have hcz89_2 : wc.cell? ⟨gb134, 2, none⟩ = some (.string a2_2) := (blk_cell BK134.out 2).trans rfl
                                    have hfz89_0 := blk_frozen BK134.out 0
                                    have hfz89_1 := blk_frozen BK134.out 1
                                    have hfz89_2 := blk_frozen BK134.out 2
                                    go_wp2
                                    go_ret2
                                    exact ⟨by first | rfl | (simp [errW_none, errW_some] <;> rfl) | (simp [*, errW_none, errW_some] <;> rfl), by repeat (first | (with_reducible first | exact HB.out | apply below_alloc | apply pw_below_drewN | apply below_drew1 | refine below_set ?_ GE133.out | refine below_set ?_ GE134.out) | exact HB.out)⟩
                              · rw [if_neg c74] at H
                                have c74b0 : (a0 == 17) = false := beq_eq_false_iff_ne.mpr c74
                                have c74b1 : (a0 != 17) = true := bne_iff_ne.mpr c74
                                by_cases c90 : a0 = 18
                                · rw [if_pos c90] at H
                                  have c90b0 : (a0 == 18) = true := beq_iff_eq.mpr c90
                                  have c90b1 : (a0 != 18) = false := bne_eq_false_iff_eq.mpr c90
                                  clear c90
                                  by_cases c91 : t135 ≥ 0
                                  · rw [if_pos c91] at H
                                    have c91b0 : decide (0 ≤ t135) = true := decide_eq_true c91
                                    clear c91
                                    simp only [Option.some.injEq, Prod.mk.injEq] at H
                                    obtain ⟨rfl, rfl⟩ := H
                                    have hnb92 := NB133_134.out
                                    have hnc92 := NB134_133.out
                                    have hcz93_0 : wc.cell? ⟨gb133, 0, none⟩ = some (.int .i64 a1_0) := (blk_cell BK133.out 0).trans rfl
                                    have hcz93_1 : wc.cell? ⟨gb133, 1, none⟩ = some (.int .i64 a1_1) := (blk_cell BK133.out 1).trans rfl
                                    have hcz93_2 : wc.cell? ⟨gb133, 2, none⟩ = some (.string a1_2) := (blk_cell BK133.out 2).trans rfl
                                    have hfz93_0 := blk_frozen BK133.out 0
                                    have hfz93_1 := blk_frozen BK133.out 1
                                    have hfz93_2 := blk_frozen BK133.out 2
                                    have hcz94_0 : wc.cell? ⟨gb134, 0, none⟩ = some (.int .i64 a2_0) := (blk_cell BK134.out 0).trans rfl
                                    have hcz94_1 : wc.cell? ⟨gb134, 1, none⟩ = some (.int .i64 a2_1) := (blk_cell BK134.out 1).trans rfl
                                    have hcz94_2 : wc.cell? ⟨gb134, 2, none⟩ = some (.string a2_2) := (blk_cell BK134.out 2).trans rfl
                                    have hfz94_0 := blk_frozen BK134.out 0
                                    have hfz94_1 := blk_frozen BK134.out 1
                                    have hfz94_2 := blk_frozen BK134.out 2
                                    go_wp2
                                    go_ret2
                                    exact ⟨by first | rfl | (simp [errW_none, errW_some] <;> rfl) | (simp [*, errW_none, errW_some] <;> rfl), by repeat (first | (with_reducible first | exact HB.out | apply below_alloc | apply pw_below_drewN | apply below_drew1 | refine below_set ?_ GE133.out | refine below_set ?_ GE134.out) | exact HB.out)⟩
                                  · rw [if_neg c91] at H
                                    have c91b0 : decide (0 ≤ t135) = false := decide_eq_false c91
                                    clear c91
                                    simp only [Option.some.injEq, Prod.mk.injEq] at H
                                    obtain ⟨rfl, rfl⟩ := H
                                    have hnb95 := NB133_134.out
                                    have hnc95 := NB134_133.out
                                    have hcz96_0 : wc.cell? ⟨gb133, 0, none⟩ = some (.int .i64 a1_0) := (blk_cell BK133.out 0).trans rfl
                                    have hcz96_1 : wc.cell? ⟨gb133, 1, none⟩ = some (.int .i64 a1_1) := (blk_cell BK133.out 1).trans rfl
                                    have hcz96_2 : wc.cell? ⟨gb133, 2, none⟩ = some (.string a1_2) := (blk_cell BK133.out 2).trans rfl
                                    have hfz96_0 := blk_frozen BK133.out 0
                                    have hfz96_1 := blk_frozen BK133.out 1
                                    have hfz96_2 := blk_frozen BK133.out 2
                                    have hcz97_0 : wc.cell? ⟨gb134, 0, none⟩ = some (.int .i64 a2_0) := (blk_cell BK134.out 0).trans rfl
                                    have hcz97_1 : wc.cell? ⟨gb134, 1, none⟩ = some (.int .i64 a2_1) := (blk_cell BK134.out 1).trans rfl
                                    have hcz97_2 : wc.cell? ⟨gb134, 2, none⟩ = some (.string a2_2) := (blk_cell BK134.out 2).trans rfl
                                    have hfz97_0 := blk_frozen BK134.out 0
                                    have hfz97_1 := blk_frozen BK134.out 1
                                    have hfz97_2 := blk_frozen BK134.out 2
                                    go_wp2
                                    go_ret2
                                    exact ⟨by first | rfl | (simp [errW_none, errW_some] <;> rfl) | (simp [*, errW_none, errW_some] <;> rfl), by repeat (first | (with_reducible first | exact HB.out | apply below_alloc | apply pw_below_drewN | apply below_drew1 | refine below_set ?_ GE133.out | refine below_set ?_ GE134.out) | exact HB.out)⟩
                                · rw [if_neg c90] at H
                                  have c90b0 : (a0 == 18) = false := beq_eq_false_iff_ne.mpr c90
                                  have c90b1 : (a0 != 18) = true := bne_iff_ne.mpr c90
                                  simp only [Option.some.injEq, Prod.mk.injEq] at H
                                  obtain ⟨rfl, rfl⟩ := H
                                  have hnb98 := NB133_134.out
                                  have hnc98 := NB134_133.out
                                  have hcz99_0 : wc.cell? ⟨gb133, 0, none⟩ = some (.int .i64 a1_0) := (blk_cell BK133.out 0).trans rfl
                                  have hcz99_1 : wc.cell? ⟨gb133, 1, none⟩ = some (.int .i64 a1_1) := (blk_cell BK133.out 1).trans rfl
                                  have hcz99_2 : wc.cell? ⟨gb133, 2, none⟩ = some (.string a1_2) := (blk_cell BK133.out 2).trans rfl
                                  have hfz99_0 := blk_frozen BK133.out 0
                                  have hfz99_1 := blk_frozen BK133.out 1
                                  have hfz99_2 := blk_frozen BK133.out 2
                                  have hcz100_0 : wc.cell? ⟨gb134, 0, none⟩ = some (.int .i64 a2_0) := (blk_cell BK134.out 0).trans rfl
                                  have hcz100_1 : wc.cell? ⟨gb134, 1, none⟩ = some (.int .i64 a2_1) := (blk_cell BK134.out 1).trans rfl
                                  have hcz100_2 : wc.cell? ⟨gb134, 2, none⟩ = some (.string a2_2) := (blk_cell BK134.out 2).trans rfl
                                  have hfz100_0 := blk_frozen BK134.out 0
                                  have hfz100_1 := blk_frozen BK134.out 1
                                  have hfz100_2 := blk_frozen BK134.out 2
                                  go_wp2
                                  go_ret2
                                  exact ⟨by first | rfl | (simp [errW_none, errW_some] <;> rfl) | (simp [*, errW_none, errW_some] <;> rfl), by repeat (first | (with_reducible first | exact HB.out | apply below_alloc | apply pw_below_drewN | apply below_drew1 | refine below_set ?_ GE133.out | refine below_set ?_ GE134.out) | exact HB.out)⟩
                        · rw [if_neg c37] at H
                          have c37b0 : (a0 == 15) = false := beq_eq_false_iff_ne.mpr c37
                          have c37b1 : (a0 != 15) = true := bne_iff_ne.mpr c37
                          by_cases c101 : a0 = 16
                          · rw [if_pos c101] at H
                            have c101b0 : (a0 == 16) = true := beq_iff_eq.mpr c101
                            have c101b1 : (a0 != 16) = false := bne_eq_false_iff_eq.mpr c101
                            clear c101
                            by_cases c102 : t135 ≤ 0
                            · rw [if_pos c102] at H
                              have c102b0 : decide (t135 ≤ 0) = true := decide_eq_true c102
                              clear c102
                              simp only [Option.some.injEq, Prod.mk.injEq] at H
                              obtain ⟨rfl, rfl⟩ := H
                              have hnb103 := NB133_134.out
                              have hnc103 := NB134_133.out
                              have hcz104_0 : wc.cell? ⟨gb133, 0, none⟩ = some (.int .i64 a1_0) := (blk_cell BK133.out 0).trans rfl
                              have hcz104_1 : wc.cell? ⟨gb133, 1, none⟩ = some (.int .i64 a1_1) := (blk_cell BK133.out 1).trans rfl
                              have hcz104_2 : wc.cell? ⟨gb133, 2, none⟩ = some (.string a1_2) := (blk_cell BK133.out 2).trans rfl
                              have hfz104_0 := blk_frozen BK133.out 0
                              have hfz104_1 := blk_frozen BK133.out 1
                              have hfz104_2 := blk_frozen BK133.out 2
                              have hcz105_0 : wc.cell? ⟨gb134, 0, none⟩ = some (.int .i64 a2_0) := (blk_cell BK134.out 0).trans rfl
                              have hcz105_1 : wc.cell? ⟨gb134, 1, none⟩ = some (.int .i64 a2_1) := (blk_cell BK134.out 1).trans rfl
                              have hcz105_2 : wc.cell? ⟨gb134, 2, none⟩ = some (.string a2_2) := (blk_cell BK134.out 2).trans rfl
                              have hfz105_0 := blk_frozen BK134.out 0
                              have hfz105_1 := blk_frozen BK134.out 1
                              have hfz105_2 := blk_frozen BK134.out 2
                              go_wp2
                              go_ret2
                              exact ⟨by first | rfl | (simp [errW_none, errW_some] <;> rfl) | (simp [*, errW_none, errW_some] <;> rfl), by repeat (first | (with_reducible first | exact HB.out | apply below_alloc | apply pw_below_drewN | apply below_drew1 | refine below_set ?_ GE133.out | refine below_set ?_ GE134.out) | exact HB.out)⟩
                            · rw [if_neg c102] at H
                              have c102b0 : decide (t135 ≤ 0) = false := decide_eq_false c102
                              clear c102
                              by_cases c106 : a0 = 17
                              · rw [if_pos c106] at H
                                have c106b0 : (a0 == 17) = true := beq_iff_eq.mpr c106
                                have c106b1 : (a0 != 17) = false := bne_eq_false_iff_eq.mpr c106
                                clear c106
                                by_cases c107 : t135 > 0
                                · rw [if_pos c107] at H
                                  have c107b0 : decide (0 < t135) = true := decide_eq_true c107
                                  clear c107
                                  simp only [Option.some.injEq, Prod.mk.injEq] at H
                                  obtain ⟨rfl, rfl⟩ := H
                                  have hnb108 := NB133_134.out
                                  have hnc108 := NB134_133.out
                                  have hcz109_0 : wc.cell? ⟨gb133, 0, none⟩ = some (.int .i64 a1_0) := (blk_cell BK133.out 0).trans rfl
                                  have hcz109_1 : wc.cell? ⟨gb133, 1, none⟩ = some (.int .i64 a1_1) := (blk_cell BK133.out 1).trans rfl
                                  have hcz109_2 : wc.cell? ⟨gb133, 2, none⟩ = some (.string a1_2) := (blk_cell BK133.out 2).trans rfl
                                  have hfz109_0 := blk_frozen BK133.out 0
                                  have hfz109_1 := blk_frozen BK133.out 1
                                  have hfz109_2 := blk_frozen BK133.out 2
                                  have hcz110_0 : wc.cell? ⟨gb134, 0, none⟩ = some (.int .i64 a2_0) := (blk_cell BK134.out 0).trans rfl
                                  have hcz110_1 : wc.cell? ⟨gb134, 1, none⟩ = some (.int .i64 a2_1) := (blk_cell BK134.out 1).trans rfl
                                  have hcz110_2 : wc.cell? ⟨gb134, 2, none⟩ = some (.string a2_2) := (blk_cell BK134.out 2).trans rfl
                                  have hfz110_0 := blk_frozen BK134.out 0
                                  have hfz110_1 := blk_frozen BK134.out 1
                                  have hfz110_2 := blk_frozen BK134.out 2
                                  go_wp2
                                  go_ret2
                                  exact ⟨by first | rfl | (simp [errW_none, errW_some] <;> rfl) | (simp [*, errW_none, errW_some] <;> rfl), by repeat (first | (with_reducible first | exact HB.out | apply below_alloc | apply pw_below_drewN | apply below_drew1 | refine below_set ?_ GE133.out | refine below_set ?_ GE134.out) | exact HB.out)⟩
                                · rw [if_neg c107] at H
                                  have c107b0 : decide (0 < t135) = false := decide_eq_false c107
                                  clear c107
                                  by_cases c111 : a0 = 18
                                  · rw [if_pos c111] at H
                                    have c111b0 : (a0 == 18) = true := beq_iff_eq.mpr c111
                                    have c111b1 : (a0 != 18) = false := bne_eq_false_iff_eq.mpr c111
                                    clear c111
                                    by_cases c112 : t135 ≥ 0
                                    · rw [if_pos c112] at H
                                      have c112b0 : decide (0 ≤ t135) = true := decide_eq_true c112
                                      clear c112
                                      simp only [Option.some.injEq, Prod.mk.injEq] at H
                                      obtain ⟨rfl, rfl⟩ := H
                                      have hnb113 := NB133_134.out
                                      have hnc113 := NB134_133.out
                                      have hcz114_0 : wc.cell? ⟨gb133, 0, none⟩ = some (.int .i64 a1_0) := (blk_cell BK133.out 0).trans rfl
                                      have hcz114_1 : wc.cell? ⟨gb133, 1, none⟩ = some (.int .i64 a1_1) := (blk_cell BK133.out 1).trans rfl
                                      have hcz114_2 : wc.cell? ⟨gb133, 2, none⟩ = some (.string a1_2) := (blk_cell BK133.out 2).trans rfl
                                      have hfz114_0 := blk_frozen BK133.out 0
                                      have hfz114_1 := blk_frozen BK133.out 1
                                      have hfz114_2 := blk_frozen BK133.out 2
                                      have hcz115_0 : wc.cell? ⟨gb134, 0, none⟩ = some (.int .i64 a2_0) := (blk_cell BK134.out 0).trans rfl
                                      have hcz115_1 : wc.cell? ⟨gb134, 1, none⟩ = some (.int .i64 a2_1) := (blk_cell BK134.out 1).trans rfl
                                      have hcz115_2 : wc.cell? ⟨gb134, 2, none⟩ = some (.string a2_2) := (blk_cell BK134.out 2).trans rfl
                                      have hfz115_0 := blk_frozen BK134.out 0
                                      have hfz115_1 := blk_frozen BK134.out 1
                                      have hfz115_2 := blk_frozen BK134.out 2
                                      go_wp2
                                      go_ret2
                                      exact ⟨by first | rfl | (simp [errW_none, errW_some] <;> rfl) | (simp [*, errW_none, errW_some] <;> rfl), by repeat (first | (with_reducible first | exact HB.out | apply below_alloc | apply pw_below_drewN | apply below_drew1 | refine below_set ?_ GE133.out | refine below_set ?_ GE134.out) | exact HB.out)⟩
                                    · rw [if_neg c112] at H
                                      have c112b0 : decide (0 ≤ t135) = false := decide_eq_false c112
                                      clear c112
                                      simp only [Option.some.injEq, Prod.mk.injEq] at H
                                      obtain ⟨rfl, rfl⟩ := H
                                      have hnb116 := NB133_134.out
                                      have hnc116 := NB134_133.out
                                      have hcz117_0 : wc.cell? ⟨gb133, 0, none⟩ = some (.int .i64 a1_0) := (blk_cell BK133.out 0).trans rfl
                                      have hcz117_1 : wc.cell? ⟨gb133, 1, none⟩ = some (.int .i64 a1_1) := (blk_cell BK133.out 1).trans rfl
                                      have hcz117_2 : wc.cell? ⟨gb133, 2, none⟩ = some (.string a1_2) := (blk_cell BK133.out 2).trans rfl
                                      have hfz117_0 := blk_frozen BK133.out 0
                                      have hfz117_1 := blk_frozen BK133.out 1
                                      have hfz117_2 := blk_frozen BK133.out 2
                                      have hcz118_0 : wc.cell? ⟨gb134, 0, none⟩ = some (.int .i64 a2_0) := (blk_cell BK134.out 0).trans rfl
                                      have hcz118_1 : wc.cell? ⟨gb134, 1, none⟩ = some (.int .i64 a2_1) := (blk_cell BK134.out 1).trans rfl
                                      have hcz118_2 : wc.cell? ⟨gb134, 2, none⟩ = some (.string a2_2) := (blk_cell BK134.out 2).trans rfl
                                      have hfz118_0 := blk_frozen BK134.out 0
                                      have hfz118_1 := blk_frozen BK134.out 1
                                      have hfz118_2 := blk_frozen BK134.out 2
                                      go_wp2
                                      go_ret2
                                      exact ⟨by first | rfl | (simp [errW_none, errW_some] <;> rfl) | (simp [*, errW_none, errW_some] <;> rfl), by repeat (first | (with_reducible first | exact HB.out | apply below_alloc | apply pw_below_drewN | apply below_drew1 | refine below_set ?_ GE133.out | refine below_set ?_ GE134.out) | exact HB.out)⟩
                                  · rw [if_neg c111] at H
                                    have c111b0 : (a0 == 18) = false := beq_eq_false_iff_ne.mpr c111
                                    have c111b1 : (a0 != 18) = true := bne_iff_ne.mpr c111
                                    simp only [Option.some.injEq, Prod.mk.injEq] at H
                                    obtain ⟨rfl, rfl⟩ := H
                                    have hnb119 := NB133_134.out
                                    have hnc119 := NB134_133.out
                                    have hcz120_0 : wc.cell? ⟨gb133, 0, none⟩ = some (.int .i64 a1_0) := (blk_cell BK133.out 0).trans rfl
                                    have hcz120_1 : wc.cell? ⟨gb133, 1, none⟩ = some (.int .i64 a1_1) := (blk_cell BK133.out 1).trans rfl
                                    have hcz120_2 : wc.cell? ⟨gb133, 2, none⟩ = some (.string a1_2) := (blk_cell BK133.out 2).trans rfl
                                    have hfz120_0 := blk_frozen BK133.out 0
                                    have hfz120_1 := blk_frozen BK133.out 1
                                    have hfz120_2 := blk_frozen BK133.out 2
                                    have hcz121_0 : wc.cell? ⟨gb134, 0, none⟩ = some (.int .i64 a2_0) := (blk_cell BK134.out 0).trans rfl
                                    have hcz121_1 : wc.cell? ⟨gb134, 1, none⟩ = some (.int .i64 a2_1) := (blk_cell BK134.out 1).trans rfl
                                    have hcz121_2 : wc.cell? ⟨gb134, 2, none⟩ = some (.string a2_2) := (blk_cell BK134.out 2).trans rfl
                                    have hfz121_0 := blk_frozen BK134.out 0
                                    have hfz121_1 := blk_frozen BK134.out 1
                                    have hfz121_2 := blk_frozen BK134.out 2
                                    go_wp2
                                    go_ret2
                                    exact ⟨by first | rfl | (simp [errW_none, errW_some] <;> rfl) | (simp [*, errW_none, errW_some] <;> rfl), by repeat (first | (with_reducible first | exact HB.out | apply below_alloc | apply pw_below_drewN | apply below_drew1 | refine below_set ?_ GE133.out | refine below_set ?_ GE134.out) | exact HB.out)⟩
                              · rw [if_neg c106] at H
                                have c106b0 : (a0 == 17) = false := beq_eq_false_iff_ne.mpr c106
                                have c106b1 : (a0 != 17) = true := bne_iff_ne.mpr c106
                                by_cases c122 : a0 = 18
                                · rw [if_pos c122] at H
                                  have c122b0 : (a0 == 18) = true := beq_iff_eq.mpr c122
                                  have c122b1 : (a0 != 18) = false := bne_eq_false_iff_eq.mpr c122
                                  clear c122
                                  by_cases c123 : t135 ≥ 0
                                  · rw [if_pos c123] at H
                                    have c123b0 : decide (0 ≤ t135) = true := decide_eq_true c123
                                    clear c123
                                    simp only [Option.some.injEq, Prod.mk.injEq] at H
                                    obtain ⟨rfl, rfl⟩ := H
                                    have hnb124 := NB133_134.out
                                    have hnc124 := NB134_133.out
                                    have hcz125_0 : wc.cell? ⟨gb133, 0, none⟩ = some (.int .i64 a1_0) := (blk_cell BK133.out 0).trans rfl
                                    have hcz125_1 : wc.cell? ⟨gb133, 1, none⟩ = some (.int .i64 a1_1) := (blk_cell BK133.out 1).trans rfl
                                    have hcz125_2 : wc.cell? ⟨gb133, 2, none⟩ = some (.string a1_2) := (blk_cell BK133.out 2).trans rfl
                                    have hfz125_0 := blk_frozen BK133.out 0
                                    have hfz125_1 := blk_frozen BK133.out 1
                                    have hfz125_2 := blk_frozen BK133.out 2
                                    have hcz126_0 : wc.cell? ⟨gb134, 0, none⟩ = some (.int .i64 a2_0) := (blk_cell BK134.out 0).trans rfl
                                    have hcz126_1 : wc.cell? ⟨gb134, 1, none⟩ = some (.int .i64 a2_1) := (blk_cell BK134.out 1).trans rfl
                                    have hcz126_2 : wc.cell? ⟨gb134, 2, none⟩ = some (.string a2_2) := (blk_cell BK134.out 2).trans rfl
                                    have hfz126_0 := blk_frozen BK134.out 0
                                    have hfz126_1 := blk_frozen BK134.out 1
                                    have hfz126_2 := blk_frozen BK134.out 2
                                    go_wp2
                                    go_ret2
                                    exact ⟨by first | rfl | (simp [errW_none, errW_some] <;> rfl) | (simp [*, errW_none, errW_some] <;> rfl), by repeat (first | (with_reducible first | exact HB.out | apply below_alloc | apply pw_below_drewN | apply below_drew1 | refine below_set ?_ GE133.out | refine below_set ?_ GE134.out) | exact HB.out)⟩
                                  · rw [if_neg c123] at H
                                    have c123b0 : decide (0 ≤ t135) = false := decide_eq_false c123
                                    clear c123
                                    simp only [Option.some.injEq, Prod.mk.injEq] at H
                                    obtain ⟨rfl, rfl⟩ := H
                                    have hnb127 := NB133_134.out
                                    have hnc127 := NB134_133.out
                                    have hcz128_0 : wc.cell? ⟨gb133, 0, none⟩ = some (.int .i64 a1_0) := (blk_cell BK133.out 0).trans rfl
                                    have hcz128_1 : wc.cell? ⟨gb133, 1, none⟩ = some (.int .i64 a1_1) := (blk_cell BK133.out 1).trans rfl
                                    have hcz128_2 : wc.cell? ⟨gb133, 2, none⟩ = some (.string a1_2) := (blk_cell BK133.out 2).trans rfl
                                    have hfz128_0 := blk_frozen BK133.out 0
                                    have hfz128_1 := blk_frozen BK133.out 1
                                    have hfz128_2 := blk_frozen BK133.out 2
                                    have hcz129_0 : wc.cell? ⟨gb134, 0, none⟩ = some (.int .i64 a2_0) := (blk_cell BK134.out 0).trans rfl
                                    have hcz129_1 : wc.cell? ⟨gb134, 1, none⟩ = some (.int .i64 a2_1) := (blk_cell BK134.out 1).trans rfl
                                    have hcz129_2 : wc.cell? ⟨gb134, 2, none⟩ = some (.string a2_2) := (blk_cell BK134.out 2).trans rfl
                                    have hfz129_0 := blk_frozen BK134.out 0
                                    have hfz129_1 := blk_frozen BK134.out 1
                                    have hfz129_2 := blk_frozen BK134.out 2
                                    go_wp2
                                    go_ret2
                                    exact ⟨by first | rfl | (simp [errW_none, errW_some] <;> rfl) | (simp [*, errW_none, errW_some] <;> rfl), by repeat (first | (with_reducible first | exact HB.out | apply below_alloc | apply pw_below_drewN | apply below_drew1 | refine below_set ?_ GE133.out | refine below_set ?_ GE134.out) | exact HB.out)⟩
                                · rw [if_neg c122] at H
                                  have c122b0 : (a0 == 18) = false := beq_eq_false_iff_ne.mpr c122
                                  have c122b1 : (a0 != 18) = true := bne_iff_ne.mpr c122
                                  simp only [Option.some.injEq, Prod.mk.injEq] at H
                                  obtain ⟨rfl, rfl⟩ := H
                                  have hnb130 := NB133_134.out
                                  have hnc130 := NB134_133.out
                                  have hcz131_0 : wc.cell? ⟨gb133, 0, none⟩ = some (.int .i64 a1_0) := (blk_cell BK133.out 0).trans rfl
                                  have hcz131_1 : wc.cell? ⟨gb133, 1, none⟩ = some (.int .i64 a1_1) := (blk_cell BK133.out 1).trans rfl
                                  have hcz131_2 : wc.cell? ⟨gb133, 2, none⟩ = some (.string a1_2) := (blk_cell BK133.out 2).trans rfl
                                  have hfz131_0 := blk_frozen BK133.out 0
                                  have hfz131_1 := blk_frozen BK133.out 1
                                  have hfz131_2 := blk_frozen BK133.out 2
                                  have hcz132_0 : wc.cell? ⟨gb134, 0, none⟩ = some (.int .i64 a2_0) := (blk_cell BK134.out 0).trans rfl
                                  have hcz132_1 : wc.cell? ⟨gb134, 1, none⟩ = some (.int .i64 a2_1) := (blk_cell BK134.out 1).trans rfl
                                  have hcz132_2 : wc.cell? ⟨gb134, 2, none⟩ = some (.string a2_2) := (blk_cell BK134.out 2).trans rfl
                                  have hfz132_0 := blk_frozen BK134.out 0
                                  have hfz132_1 := blk_frozen BK134.out 1
                                  have hfz132_2 := blk_frozen BK134.out 2
                                  go_wp2
                                  go_ret2
                                  exact ⟨by first | rfl | (simp [errW_none, errW_some] <;> rfl) | (simp [*, errW_none, errW_some] <;> rfl), by repeat (first | (with_reducible first | exact HB.out | apply below_alloc | apply pw_below_drewN | apply below_drew1 | refine below_set ?_ GE133.out | refine below_set ?_ GE134.out) | exact HB.out)⟩
                          · rw [if_neg c101] at H
                            have c101b0 : (a0 == 16) = false := beq_eq_false_iff_ne.mpr c101
                            have c101b1 : (a0 != 16) = true := bne_iff_ne.mpr c101
                            by_cases c133 : a0 = 17
                            · rw [if_pos c133] at H
                              have c133b0 : (a0 == 17) = true := beq_iff_eq.mpr c133
                              have c133b1 : (a0 != 17) = false := bne_eq_false_iff_eq.mpr c133
                              clear c133
                              by_cases c134 : t135 > 0
                              · rw [if_pos c134] at H
                                have c134b0 : decide (0 < t135) = true := decide_eq_true c134
                                clear c134
                                simp only [Option.some.injEq, Prod.mk.injEq] at H
                                obtain ⟨rfl, rfl⟩ := H
                                have hnb135 := NB133_134.out
                                have hnc135 := NB134_133.out
                                have hcz136_0 : wc.cell? ⟨gb133, 0, none⟩ = some (.int .i64 a1_0) := (blk_cell BK133.out 0).trans rfl
                                have hcz136_1 : wc.cell? ⟨gb133, 1, none⟩ = some (.int .i64 a1_1) := (blk_cell BK133.out 1).trans rfl
                                have hcz136_2 : wc.cell? ⟨gb133, 2, none⟩ = some (.string a1_2) := (blk_cell BK133.out 2).trans rfl
                                have hfz136_0 := blk_frozen BK133.out 0
                                have hfz136_1 := blk_frozen BK133.out 1
                                have hfz136_2 := blk_frozen BK133.out 2
                                have hcz137_0 : wc.cell? ⟨gb134, 0, none⟩ = some (.int .i64 a2_0) := (blk_cell BK134.out 0).trans rfl
                                have hcz137_1 : wc.cell? ⟨gb134, 1, none⟩ = some (.int .i64 a2_1) := (blk_cell BK134.out 1).trans rfl
                                have hcz137_2 : wc.cell? ⟨gb134, 2, none⟩ = some (.string a2_2) := (blk_cell BK134.out 2).trans rfl
                                have hfz137_0 := blk_frozen BK134.out 0
                                have hfz137_1 := blk_frozen BK134.out 1
                                have hfz137_2 := blk_frozen BK134.out 2
                                go_wp2
                                go_ret2
                                exact ⟨by first | rfl | (simp [errW_none, errW_some] <;> rfl) | (simp [*, errW_none, errW_some] <;> rfl), by repeat (first | (with_reducible first | exact HB.out | apply below_alloc | apply pw_below_drewN | apply below_drew1 | refine below_set ?_ GE133.out | refine below_set ?_ GE134.out) | exact HB.out)⟩
                              · rw [if_neg c134] at H
                                have c134b0 : decide (0 < t135) = false := decide_eq_false c134
                                clear c134
                                by_cases c138 : a0 = 18
                                · rw [if_pos c138] at H
                                  have c138b0 : (a0 == 18) = true := beq_iff_eq.mpr c138
                                  have c138b1 : (a0 != 18) = false := bne_eq_false_iff_eq.mpr c138
                                  clear c138
                                  by_cases c139 : t135 ≥ 0
                                  · rw [if_pos c139] at H
                                    have c139b0 : decide (0 ≤ t135) = true := decide_eq_true c139
                                    clear c139
                                    simp only [Option.some.injEq, Prod.mk.injEq] at H
                                    obtain ⟨rfl, rfl⟩ := H
                                    have hnb140 := NB133_134.out
                                    have hnc140 := NB134_133.out
                                    have hcz141_0 : wc.cell? ⟨gb133, 0, none⟩ = some (.int .i64 a1_0) := (blk_cell BK133.out 0).trans rfl
                                    have hcz141_1 : wc.cell? ⟨gb133, 1, none⟩ = some (.int .i64 a1_1) := (blk_cell BK133.out 1).trans rfl
                                    have hcz141_2 : wc.cell? ⟨gb133, 2, none⟩ = some (.string a1_2) := (blk_cell BK133.out 2).trans rfl
                                    have hfz141_0 := blk_frozen BK133.out 0
                                    have hfz141_1 := blk_frozen BK133.out 1
                                    have hfz141_2 := blk_frozen BK133.out 2
                                    have hcz142_0 : wc.cell? ⟨gb134, 0, none⟩ = some (.int .i64 a2_0) := (blk_cell BK134.out 0).trans rfl
                                    have hcz142_1 : wc.cell? ⟨gb134, 1, none⟩ = some (.int .i64 a2_1) := (blk_cell BK134.out 1).trans rfl
                                    have hcz142_2 : wc.cell? ⟨gb134, 2, none⟩ = some (.string a2_2) := (blk_cell BK134.out 2).trans rfl
                                    have hfz142_0 := blk_frozen BK134.out 0
                                    have hfz142_1 := blk_frozen BK134.out 1
                                    have hfz142_2 := blk_frozen BK134.out 2
                                    go_wp2
                                    go_ret2
                                    exact ⟨by first | rfl | (simp [errW_none, errW_some] <;> rfl) | (simp [*, errW_none, errW_some] <;> rfl), by repeat (first | (with_reducible first | exact HB.out | apply below_alloc | apply pw_below_drewN | apply below_drew1 | refine below_set ?_ GE133.out | refine below_set ?_ GE134.out) | exact HB.out)⟩
                                  · rw [if_neg c139] at H
                                    have c139b0 : decide (0 ≤ t135) = false := decide_eq_false c139
                                    clear c139
                                    simp only [Option.some.injEq, Prod.mk.injEq] at H
                                    obtain ⟨rfl, rfl⟩ := H
                                    have hnb143 := NB133_134.out
                                    have hnc143 := NB134_133.out
                                    have hcz144_0 : wc.cell? ⟨gb133, 0, none⟩ = some (.int .i64 a1_0) := (blk_cell BK133.out 0).trans rfl
                                    have hcz144_1 : wc.cell? ⟨gb133, 1, none⟩ = some (.int .i64 a1_1) := (blk_cell BK133.out 1).trans rfl
                                    have hcz144_2 : wc.cell? ⟨gb133, 2, none⟩ = some (.string a1_2) := (blk_cell BK133.out 2).trans rfl
                                    have hfz144_0 := blk_frozen BK133.out 0
                                    have hfz144_1 := blk_frozen BK133.out 1
                                    have hfz144_2 := blk_frozen BK133.out 2
                                    have hcz145_0 : wc.cell? ⟨gb134, 0, none⟩ = some (.int .i64 a2_0) := (blk_cell BK134.out 0).trans rfl
                                    have hcz145_1 : wc.cell? ⟨gb134, 1, none⟩ = some (.int .i64 a2_1) := (blk_cell BK134.out 1).trans rfl
                                    have hcz145_2 : wc.cell? ⟨gb134, 2, none⟩ = some (.string a2_2) := (blk_cell BK134.out 2).trans rfl
                                    have hfz145_0 := blk_frozen BK134.out 0
                                    have hfz145_1 := blk_frozen BK134.out 1
                                    have hfz145_2 := blk_frozen BK134.out 2
                                    go_wp2
                                    go_ret2
                                    exact ⟨by first | rfl | (simp [errW_none, errW_some] <;> rfl) | (simp [*, errW_none, errW_some] <;> rfl), by repeat (first | (with_reducible first | exact HB.out | apply below_alloc | apply pw_below_drewN | apply below_drew1 | refine below_set ?_ GE133.out | refine below_set ?_ GE134.out) | exact HB.out)⟩
                                · rw [if_neg c138] at H
                                  have c138b0 : (a0 == 18) = false := beq_eq_false_iff_ne.mpr c138
                                  have c138b1 : (a0 != 18) = true := bne_iff_ne.mpr c138
                                  simp only [Option.some.injEq, Prod.mk.injEq] at H
                                  obtain ⟨rfl, rfl⟩ := H
                                  have hnb146 := NB133_134.out
                                  have hnc146 := NB134_133.out
                                  have hcz147_0 : wc.cell? ⟨gb133, 0, none⟩ = some (.int .i64 a1_0) := (blk_cell BK133.out 0).trans rfl
                                  have hcz147_1 : wc.cell? ⟨gb133, 1, none⟩ = some (.int .i64 a1_1) := (blk_cell BK133.out 1).trans rfl
                                  have hcz147_2 : wc.cell? ⟨gb133, 2, none⟩ = some (.string a1_2) := (blk_cell BK133.out 2).trans rfl
                                  have hfz147_0 := blk_frozen BK133.out 0
                                  have hfz147_1 := blk_frozen BK133.out 1
                                  have hfz147_2 := blk_frozen BK133.out 2
                                  have hcz148_0 : wc.cell? ⟨gb134, 0, none⟩ = some (.int .i64 a2_0) := (blk_cell BK134.out 0).trans rfl
                                  have hcz148_1 : wc.cell? ⟨gb134, 1, none⟩ = some (.int .i64 a2_1) := (blk_cell BK134.out 1).trans rfl
                                  have hcz148_2 : wc.cell? ⟨gb134, 2, none⟩ = some (.string a2_2) := (blk_cell BK134.out 2).trans rfl
                                  have hfz148_0 := blk_frozen BK134.out 0
                                  have hfz148_1 := blk_frozen BK134.out 1
                                  have hfz148_2 := blk_frozen BK134.out 2
                                  go_wp2
                                  go_ret2
                                  exact ⟨by first | rfl | (simp [errW_none, errW_some] <;> rfl) | (simp [*, errW_none, errW_some] <;> rfl), by repeat (first | (with_reducible first | exact HB.out | apply below_alloc | apply pw_below_drewN | apply below_drew1 | refine below_set ?_ GE133.out | refine below_set ?_ GE134.out) | exact HB.out)⟩
                            · rw [if_neg c133] at H
                              have c133b0 : (a0 == 17) = false := beq_eq_false_iff_ne.mpr c133
                              have c133b1 : (a0 != 17) = true := bne_iff_ne.mpr c133
                              by_cases c149 : a0 = 18
                              · rw [if_pos c149] at H
                                have c149b0 : (a0 == 18) = true := beq_iff_eq.mpr c149
                                have c149b1 : (a0 != 18) = false := bne_eq_false_iff_eq.mpr c149
                                clear c149
                                by_cases c150 : t135 ≥ 0
                                · rw [if_pos c150] at H
                                  have c150b0 : decide (0 ≤ t135) = true := decide_eq_true c150
                                  clear c150
                                  simp only [Option.some.injEq, Prod.mk.injEq] at H
                                  obtain ⟨rfl, rfl⟩ := H
                                  have hnb151 := NB133_134.out
                                  have hnc151 := NB134_133.out
                                  have hcz152_0 : wc.cell? ⟨gb133, 0, none⟩ = some (.int .i64 a1_0) := (blk_cell BK133.out 0).trans rfl
                                  have hcz152_1 : wc.cell? ⟨gb133, 1, none⟩ = some (.int .i64 a1_1) := (blk_cell BK133.out 1).trans rfl
                                  have hcz152_2 : wc.cell? ⟨gb133, 2, none⟩ = some (.string a1_2) := (blk_cell BK133.out 2).trans rfl
                                  have hfz152_0 := blk_frozen BK133.out 0
                                  have hfz152_1 := blk_frozen BK133.out 1
                                  have hfz152_2 := blk_frozen BK133.out 2
                                  have hcz153_0 : wc.cell? ⟨gb134, 0, none⟩ = some (.int .i64 a2_0) := (blk_cell BK134.out 0).trans rfl
                                  have hcz153_1 : wc.cell? ⟨gb134, 1, none⟩ = some (.int .i64 a2_1) := (blk_cell BK134.out 1).trans rfl
                                  have hcz153_2 : wc.cell? ⟨gb134, 2, none⟩ = some (.string a2_2) := (blk_cell BK134.out 2).trans rfl
                                  have hfz153_0 := blk_frozen BK134.out 0
                                  have hfz153_1 := blk_frozen BK134.out 1
                                  have hfz153_2 := blk_frozen BK134.out 2
                                  go_wp2
                                  go_ret2
                                  exact ⟨by first | rfl | (simp [errW_none, errW_some] <;> rfl) | (simp [*, errW_none, errW_some] <;> rfl), by repeat (first | (with_reducible first | exact HB.out | apply below_alloc | apply pw_below_drewN | apply below_drew1 | refine below_set ?_ GE133.out | refine below_set ?_ GE134.out) | exact HB.out)⟩
                                · rw [if_neg c150] at H
                                  have c150b0 : decide (0 ≤ t135) = false := decide_eq_false c150
                                  clear c150
                                  simp only [Option.some.injEq, Prod.mk.injEq] at H
                                  obtain ⟨rfl, rfl⟩ := H
                                  have hnb154 := NB133_134.out
                                  have hnc154 := NB134_133.out
                                  have hcz155_0 : wc.cell? ⟨gb133, 0, none⟩ = some (.int .i64 a1_0) := (blk_cell BK133.out 0).trans rfl
                                  have hcz155_1 : wc.cell? ⟨gb133, 1, none⟩ = some (.int .i64 a1_1) := (blk_cell BK133.out 1).trans rfl
                                  have hcz155_2 : wc.cell? ⟨gb133, 2, none⟩ = some (.string a1_2) := (blk_cell BK133.out 2).trans rfl
                                  have hfz155_0 := blk_frozen BK133.out 0
                                  have hfz155_1 := blk_frozen BK133.out 1
                                  have hfz155_2 := blk_frozen BK133.out 2
                                  have hcz156_0 : wc.cell? ⟨gb134, 0, none⟩ = some (.int .i64 a2_0) := (blk_cell BK134.out 0).trans rfl
                                  have hcz156_1 : wc.cell? ⟨gb134, 1, none⟩ = some (.int .i64 a2_1) := (blk_cell BK134.out 1).trans rfl
                                  have hcz156_2 : wc.cell? ⟨gb134, 2, none⟩ = some (.string a2_2) := (blk_cell BK134.out 2).trans rfl
                                  have hfz156_0 := blk_frozen BK134.out 0
                                  have hfz156_1 := blk_frozen BK134.out 1
                                  have hfz156_2 := blk_frozen BK134.out 2
                                  go_wp2
                                  go_ret2
                                  exact ⟨by first | rfl | (simp [errW_none, errW_some] <;> rfl) | (simp [*, errW_none, errW_some] <;> rfl), by repeat (first | (with_reducible first | exact HB.out | apply below_alloc | apply pw_below_drewN | apply below_drew1 | refine below_set ?_ GE133.out | refine below_set ?_ GE134.out) | exact HB.out)⟩
                              · rw [if_neg c149] at H
                                have c149b0 : (a0 == 18) = false := beq_eq_false_iff_ne.mpr c149
                                have c149b1 : (a0 != 18) = true := bne_iff_ne.mpr c149
                                simp only [Option.some.injEq, Prod.mk.injEq] at H
                                obtain ⟨rfl, rfl⟩ := H
                                have hnb157 := NB133_134.out
                                have hnc157 := NB134_133.out
                                have hcz158_0 : wc.cell? ⟨gb133, 0, none⟩ = some (.int .i64 a1_0) := (blk_cell BK133.out 0).trans rfl
                                have hcz158_1 : wc.cell? ⟨gb133, 1, none⟩ = some (.int .i64 a1_1) := (blk_cell BK133.out 1).trans rfl
                                have hcz158_2 : wc.cell? ⟨gb133, 2, none⟩ = some (.string a1_2) := (blk_cell BK133.out 2).trans rfl
                                have hfz158_0 := blk_frozen BK133.out 0
                                have hfz158_1 := blk_frozen BK133.out 1
                                have hfz158_2 := blk_frozen BK133.out 2
                                have hcz159_0 : wc.cell? ⟨gb134, 0, none⟩ = some (.int .i64 a2_0) := (blk_cell BK134.out 0).trans rfl
                                have hcz159_1 : wc.cell? ⟨gb134, 1, none⟩ = some (.int .i64 a2_1) := (blk_cell BK134.out 1).trans rfl
                                have hcz159_2 : wc.cell? ⟨gb134, 2, none⟩ = some (.string a2_2) := (blk_cell BK134.out 2).trans rfl
                                have hfz159_0 := blk_frozen BK134.out 0
                                have hfz159_1 := blk_frozen BK134.out 1
                                have hfz159_2 := blk_frozen BK134.out 2
                                go_wp2
                                go_ret2
                                exact ⟨by first | rfl | (simp [errW_none, errW_some] <;> rfl) | (simp [*, errW_none, errW_some] <;> rfl), by repeat (first | (with_reducible first | exact HB.out | apply below_alloc | apply pw_below_drewN | apply below_drew1 | refine below_set ?_ GE133.out | refine below_set ?_ GE134.out) | exact HB.out)⟩
                  · rw [if_neg c28] at H
                    have c28b0 : (a0 == 13) = false := beq_eq_false_iff_ne.mpr c28
                    have c28b1 : (a0 != 13) = true := bne_iff_ne.mpr c28
                    by_cases c160 : a0 = 14
                    · rw [if_pos c160] at H
                      have c160b0 : (a0 == 14) = true := beq_iff_eq.mpr c160
                      have c160b1 : (a0 != 14) = false := bne_eq_false_iff_eq.mpr c160
                      clear c160
                      by_cases c161 : t135 = 0
                      · rw [if_pos c161] at H
                        have c161b0 : (t135 == 0) = true := beq_iff_eq.mpr c161
                        have c161b1 : (t135 != 0) = false := bne_eq_false_iff_eq.mpr c161
                        clear c161
                        by_cases c162 : a0 = 15
                        · rw [if_pos c162] at H
                          have c162b0 : (a0 == 15) = true := beq_iff_eq.mpr c162
                          have c162b1 : (a0 != 15) = false := bne_eq_false_iff_eq.mpr c162
                          clear c162
                          by_cases c163 : t135 < 0
                          · rw [if_pos c163] at H
                            have c163b0 : decide (t135 < 0) = true := decide_eq_true c163
                            clear c163
                            simp only [Option.some.injEq, Prod.mk.injEq] at H
                            obtain ⟨rfl, rfl⟩ := H
                            have hnb164 := NB133_134.out
                            have hnc164 := NB134_133.out
                            have hcz165_0 : wc.cell? ⟨gb133, 0, none⟩ = some (.int .i64 a1_0) := (blk_cell BK133.out 0).trans rfl
                            have hcz165_1 : wc.cell? ⟨gb133, 1, none⟩ = some (.int .i64 a1_1) := (blk_cell BK133.out 1).trans rfl
                            have hcz165_2 : wc.cell? ⟨gb133, 2, none⟩ = some (.string a1_2) := (blk_cell BK133.out 2).trans rfl
                            have hfz165_0 := blk_frozen BK133.out 0
                            have hfz165_1 := blk_frozen BK133.out 1
                            have hfz165_2 := blk_frozen BK133.out 2
                            have hcz166_0 : wc.cell? ⟨gb134, 0, none⟩ = some (.int .i64 a2_0) := (blk_cell BK134.out 0).trans rfl
                            have hcz166_1 : wc.cell? ⟨gb134, 1, none⟩ = some (.int .i64 a2_1) := (blk_cell BK134.out 1).trans rfl
                            have hcz166_2 : wc.cell? ⟨gb134, 2, none⟩ = some (.string a2_2) := (blk_cell BK134.out 2).trans rfl
                            have hfz166_0 := blk_frozen BK134.out 0
                            have hfz166_1 := blk_frozen BK134.out 1
                            have hfz166_2 := blk_frozen BK134.out 2
                            go_wp2
                            go_ret2
                            exact ⟨by first | rfl | (simp [errW_none, errW_some] <;> rfl) | (simp [*, errW_none, errW_some] <;> rfl), by repeat (first | (with_reducible first | exact HB.out | apply below_alloc | apply pw_below_drewN | apply below_drew1 | refine below_set ?_ GE133.out | refine below_set ?_ GE134.out) | exact HB.out)⟩
                          · rw [if_neg c163] at H
                            have c163b0 : decide (t135 < 0) = false := decide_eq_false c163
                            clear c163
                            by_cases c167 : a0 = 16
                            · rw [if_pos c167] at H
                              have c167b0 : (a0 == 16) = true := beq_iff_eq.mpr c167
                              have c167b1 : (a0 != 16) = false := bne_eq_false_iff_eq.mpr c167
                              clear c167
                              by_cases c168 : t135 ≤ 0
                              · rw [if_pos c168] at H
                                have c168b0 : decide (t135 ≤ 0) = true := decide_eq_true c168
                                clear c168
                                simp only [Option.some.injEq, Prod.mk.injEq] at H
                                obtain ⟨rfl, rfl⟩ := H
                                have hnb169 := NB133_134.out
                                have hnc169 := NB134_133.out
                                have hcz170_0 : wc.cell? ⟨gb133, 0, none⟩ = some (.int .i64 a1_0) := (blk_cell BK133.out 0).trans rfl
                                have hcz170_1 : wc.cell? ⟨gb133, 1, none⟩ = some (.int .i64 a1_1) := (blk_cell BK133.out 1).trans rfl
                                have hcz170_2 : wc.cell? ⟨gb133, 2, none⟩ = some (.string a1_2) := (blk_cell BK133.out 2).trans rfl
                                have hfz170_0 := blk_frozen BK133.out 0
                                have hfz170_1 := blk_frozen BK133.out 1
                                have hfz170_2 := blk_frozen BK133.out 2
                                have hcz171_0 : wc.cell? ⟨gb134, 0, none⟩ = some (.int .i64 a2_0) := (blk_cell BK134.out 0).trans rfl
                                have hcz171_1 : wc.cell? ⟨gb134, 1, none⟩ = some (.int .i64 a2_1) := (blk_cell BK134.out 1).trans rfl
                                have hcz171_2 : wc.cell? ⟨gb134, 2, none⟩ = some (.string a2_2) := (blk_cell BK134.out 2).trans rfl
                                have hfz171_0 := blk_frozen BK134.out 0
                                have hfz171_1 := blk_frozen BK134.out 1
                                have hfz171_2 := blk_frozen BK134.out 2
                                go_wp2
                                go_ret2
                                exact ⟨by first | rfl | (simp [errW_none, errW_some] <;> rfl) | (simp [*, errW_none, errW_some] <;> rfl), by repeat (first | (with_reducible first | exact HB.out | apply below_alloc | apply pw_below_drewN | apply below_drew1 | refine below_set ?_ GE133.out | refine below_set ?_ GE134.out) | exact HB.out)⟩
                              · rw [if_neg c168] at H
                                have c168b0 : decide (t135 ≤ 0) = false := decide_eq_false c168
                                clear c168
                                by_cases c172 : a0 = 17
                                · rw [if_pos c172] at H
                                  have c172b0 : (a0 == 17) = true := beq_iff_eq.mpr c172
                                  have c172b1 : (a0 != 17) = false := bne_eq_false_iff_eq.mpr c172
                                  clear c172
                                  by_cases c173 : t135 > 0
                                  · rw [if_pos c173] at H
                                    have c173b0 : decide (0 < t135) = true := decide_eq_true c173
                                    clear c173
                                    simp only [Option.some.injEq, Prod.mk.injEq] at H
                                    obtain ⟨rfl, rfl⟩ := H
                                    have hnb174 := NB133_134.out
                                    have hnc174 := NB134_133.out
                                    have hcz175_0 : wc.cell? ⟨gb133, 0, none⟩ = some (.int .i64 a1_0) := (blk_cell BK133.out 0).trans rfl
                                    have hcz175_1 : wc.cell? ⟨gb133, 1, none⟩ = some (.int .i64 a1_1) := (blk_cell BK133.out 1).trans rfl
                                    have hcz175_2 : wc.cell? ⟨gb133, 2, none⟩ = some (.string a1_2) := (blk_cell BK133.out 2).trans rfl
                                    have hfz175_0 := blk_frozen BK133.out 0
                                    have hfz175_1 := blk_frozen BK133.out 1
                                    have hfz175_2 := blk_frozen BK133.out 2
                                    have hcz176_0 : wc.cell? ⟨gb134, 0, none⟩ = some (.int .i64 a2_0) := (blk_cell BK134.out 0).trans rfl
                                    have hcz176_1 : wc.cell? ⟨gb134, 1, none⟩ = some (.int .i64 a2_1) := (blk_cell BK134.out 1).trans rfl
                                    have hcz176_2 : wc.cell? ⟨gb134, 2, none⟩ = some (.string a2_2) := (blk_cell BK134.out 2).trans rfl
                                    have hfz176_0 := blk_frozen BK134.out 0
                                    have hfz176_1 := blk_frozen BK134.out 1
                                    have hfz176_2 := blk_frozen BK134.out 2
                                    go_wp2
                                    go_ret2
                                    exact ⟨by first | rfl | (simp [errW_none, errW_some] <;> rfl) | (simp [*, errW_none, errW_some] <;> rfl), by repeat (first | (with_reducible first | exact HB.out | apply below_alloc | apply pw_below_drewN | apply below_drew1 | refine below_set ?_ GE133.out | refine below_set ?_ GE134.out) | exact HB.out)⟩
                                  · rw [if_neg c173] at H
                                    have c173b0 : decide (0 < t135) = false := decide_eq_false c173
                                    clear c173
                                    by_cases c177 : a0 = 18
                                    · rw [if_pos c177] at H
                                      have c177b0 : (a0 == 18) = true := beq_iff_eq.mpr c177
                                      have c177b1 : (a0 != 18) = false := bne_eq_false_iff_eq.mpr c177
                                      clear c177
                                      by_cases c178 : t135 ≥ 0
                                      · rw [if_pos c178] at H
                                        have c178b0 : decide (0 ≤ t135) = true := decide_eq_true c178
                                        clear c178
                                        simp only [Option.some.injEq, Prod.mk.injEq] at H
                                        obtain ⟨rfl, rfl⟩ := H
                                        have hnb179 := NB133_134.out
                                        have hnc179 := NB134_133.out
                                        have hcz180_0 : wc.cell? ⟨gb133, 0, none⟩ = some (.int .i64 a1_0) := (blk_cell BK133.out 0).trans rfl
                                        have hcz180_1 : wc.cell? ⟨gb133, 1, none⟩ = some (.int .i64 a1_1) := (blk_cell BK133.out 1).trans rfl
                                        have hcz180_2 : wc.cell? ⟨gb133, 2, none⟩ = some (.string a1_2) := (blk_cell BK133.out 2).trans rfl
                                        have hfz180_0 := blk_frozen BK133.out 0
                                        have hfz180_1 := blk_frozen BK133.out 1
                                        have hfz180_2 := blk_frozen BK133.out 2
                                        have hcz181_0 : wc.cell? ⟨gb134, 0, none⟩ = some (.int .i64 a2_0) := (blk_cell BK134.out 0).trans rfl
                                        have hcz181_1 : wc.cell? ⟨gb134, 1, none⟩ = some (.int .i64 a2_1) := (blk_cell BK134.out 1).trans rfl
                                        have hcz181_2 : wc.cell? ⟨gb134, 2, none⟩ = some (.string a2_2) := (blk_cell BK134.out 2).trans rfl
                                        have hfz181_0 := blk_frozen BK134.out 0
                                        have hfz181_1 := blk_frozen BK134.out 1
                                        have hfz181_2 := blk_frozen BK134.out 2
                                        go_wp2
                                        go_ret2
                                        exact ⟨by first | rfl | (simp [errW_none, errW_some] <;> rfl) | (simp [*, errW_none, errW_some] <;> rfl), by repeat (first | (with_reducible first | exact HB.out | apply below_alloc | apply pw_below_drewN | apply below_drew1 | refine below_set ?_ GE133.out | refine below_set ?_ GE134.out) | exact HB.out)⟩
                                      · rw [if_neg c178] at H
                                        have c178b0 : decide (0 ≤ t135) = false := decide_eq_false c178
                                        clear c178
                                        simp only [Option.some.injEq, Prod.mk.injEq] at H
                                        obtain ⟨rfl, rfl⟩ := H
                                        have hnb182 := NB133_134.out
                                        have hnc182 := NB134_133.out
                                        have hcz183_0 : wc.cell? ⟨gb133, 0, none⟩ = some (.int .i64 a1_0) := (blk_cell BK133.out 0).trans rfl
                                        have hcz183_1 : wc.cell? ⟨gb133, 1, none⟩ = some (.int .i64 a1_1) := (blk_cell BK133.out 1).trans rfl
                                        have hcz183_2 : wc.cell? ⟨gb133, 2, none⟩ = some (.string a1_2) := (blk_cell BK133.out 2).trans rfl
                                        have hfz183_0 := blk_frozen BK133.out 0
                                        have hfz183_1 := blk_frozen BK133.out 1
                                        have hfz183_2 := blk_frozen BK133.out 2
                                        have hcz184_0 : wc.cell? ⟨gb134, 0, none⟩ = some (.int .i64 a2_0) := (blk_cell BK134.out 0).trans rfl
                                        have hcz184_1 : wc.cell? ⟨gb134, 1, none⟩ = some (.int .i64 a2_1) := (blk_cell BK134.out 1).trans rfl
                                        have hcz184_2 : wc.cell? ⟨gb134, 2, none⟩ = some (.string a2_2) := (blk_cell BK134.out 2).trans rfl
                                        have hfz184_0 := blk_frozen BK134.out 0
                                        have hfz184_1 := blk_frozen BK134.out 1
                                        have hfz184_2 := blk_frozen BK134.out 2
                                        go_wp2
                                        go_ret2
                                        exact ⟨by first | rfl | (simp [errW_none, errW_some] <;> rfl) | (simp [*, errW_none, errW_some] <;> rfl), by repeat (first | (with_reducible first | exact HB.out | apply below_alloc | apply pw_below_drewN | apply below_drew1 | refine below_set ?_ GE133.out | refine below_set ?_ GE134.out) | exact HB.out)⟩
                                    · rw [if_neg c177] at H
                                      have c177b0 : (a0 == 18) = false := beq_eq_false_iff_ne.mpr c177
                                      have c177b1 : (a0 != 18) = true := bne_iff_ne.mpr c177
                                      simp only [Option.some.injEq, Prod.mk.injEq] at H
                                      obtain ⟨rfl, rfl⟩ := H
                                      have hnb185 := NB133_134.out
                                      have hnc185 := NB134_133.out
                                      have hcz186_0 : wc.cell? ⟨gb133, 0, none⟩ = some (.int .i64 a1_0) := (blk_cell BK133.out 0).trans rfl
                                      have hcz186_1 : wc.cell? ⟨gb133, 1, none⟩ = some (.int .i64 a1_1) := (blk_cell BK133.out 1).trans rfl
                                      have hcz186_2 : wc.cell? ⟨gb133, 2, none⟩ = some (.string a1_2) := (blk_cell BK133.out 2).trans rfl
                                      have hfz186_0 := blk_frozen BK133.out 0
                                      have hfz186_1 := blk_frozen BK133.out 1
                                      have hfz186_2 := blk_frozen BK133.out 2
                                      have hcz187_0 : wc.cell? ⟨gb134, 0, none⟩ = some (.int .i64 a2_0) := (blk_cell BK134.out 0).trans rfl
                                      have hcz187_1 : wc.cell? ⟨gb134, 1, none⟩ = some (.int .i64 a2_1) := (blk_cell BK134.out 1).trans rfl
                                      have hcz187_2 : wc.cell? ⟨gb134, 2, none⟩ = some (.string a2_2) := (blk_cell BK134.out 2).trans rfl
                                      have hfz187_0 := blk_frozen BK134.out 0
                                      have hfz187_1 := blk_frozen BK134.out 1
                                      have hfz187_2 := blk_frozen BK134.out 2
                                      go_wp2
                                      go_ret2
                                      exact ⟨by first | rfl | (simp [errW_none, errW_some] <;> rfl) | (simp [*, errW_none, errW_some] <;> rfl), by repeat (first | (with_reducible first | exact HB.out | apply below_alloc | apply pw_below_drewN | apply below_drew1 | refine below_set ?_ GE133.out | refine below_set ?_ GE134.out) | exact HB.out)⟩
                                · rw [if_neg c172] at H
                                  have c172b0 : (a0 == 17) = false := beq_eq_false_iff_ne.mpr c172
                                  have c172b1 : (a0 != 17) = true := bne_iff_ne.mpr c172
                                  by_cases c188 : a0 = 18
                                  · rw [if_pos c188] at H
                                    have c188b0 : (a0 == 18) = true := beq_iff_eq.mpr c188
                                    have c188b1 : (a0 != 18) = false := bne_eq_false_iff_eq.mpr c188
                                    clear c188
                                    by_cases c189 : t135 ≥ 0
                                    · rw [if_pos c189] at H
                                      have c189b0 : decide (0 ≤ t135) = true := decide_eq_true c189
                                      clear c189
                                      simp only [Option.some.injEq, Prod.mk.injEq] at H
                                      obtain ⟨rfl, rfl⟩ := H
                                      have hnb190 := NB133_134.out
                                      have hnc190 := NB134_133.out
                                      have hcz191_0 : wc.cell? ⟨gb133, 0, none⟩ = some (.int .i64 a1_0) := (blk_cell BK133.out 0).trans rfl
                                      have hcz191_1 : wc.cell? ⟨gb133, 1, none⟩ = some (.int .i64 a1_1) := (blk_cell BK133.out 1).trans rfl
                                      have hcz191_2 : wc.cell? ⟨gb133, 2, none⟩ = some (.string a1_2) := (blk_cell BK133.out 2).trans rfl
                                      have hfz191_0 := blk_frozen BK133.out 0
                                      have hfz191_1 := blk_frozen BK133.out 1
                                      have hfz191_2 := blk_frozen BK133.out 2
                                      have hcz192_0 : wc.cell? ⟨gb134, 0, none⟩ = some (.int .i64 a2_0) := (blk_cell BK134.out 0).trans rfl
                                      have hcz192_1 : wc.cell? ⟨gb134, 1, none⟩ = some (.int .i64 a2_1) := (blk_cell BK134.out 1).trans rfl
                                      have hcz192_2 : wc.cell? ⟨gb134, 2, none⟩ = some (.string a2_2) := (blk_cell BK134.out 2).trans rfl
                                      have hfz192_0 := blk_frozen BK134.out 0
                                      have hfz192_1 := blk_frozen BK134.out 1
                                      have hfz192_2 := blk_frozen BK134.out 2
                                      go_wp2
                                      go_ret2
                                      exact ⟨by first | rfl | (simp [errW_none, errW_some] <;> rfl) | (simp [*, errW_none, errW_some] <;> rfl), by repeat (first | (with_reducible first | exact HB.out | apply below_alloc | apply pw_below_drewN | apply below_drew1 | refine below_set ?_ GE133.out | refine below_set ?_ GE134.out) | exact HB.out)⟩
                                    · rw [if_neg c189] at H
                                      have c189b0 : decide (0 ≤ t135) = false := decide_eq_false c189
                                      clear c189
                                      simp only [Option.some.injEq, Prod.mk.injEq] at H
                                      obtain ⟨rfl, rfl⟩ := H
                                      have hnb193 := NB133_134.out
                                      have hnc193 := NB134_133.out
                                      have hcz194_0 : wc.cell? ⟨gb133, 0, none⟩ = some (.int .i64 a1_0) := (blk_cell BK133.out 0).trans rfl
                                      have hcz194_1 : wc.cell? ⟨gb133, 1, none⟩ = some (.int .i64 a1_1) := (blk_cell BK133.out 1).trans rfl
                                      have hcz194_2 : wc.cell? ⟨gb133, 2, none⟩ = some (.string a1_2) := (blk_cell BK133.out 2).trans rfl
                                      have hfz194_0 := blk_frozen BK133.out 0
                                      have hfz194_1 := blk_frozen BK133.out 1
                                      have hfz194_2 := blk_frozen BK133.out 2
                                      have hcz195_0 : wc.cell? ⟨gb134, 0, none⟩ = some (.int .i64 a2_0) := (blk_cell BK134.out 0).trans rfl
                                      have hcz195_1 : wc.cell? ⟨gb134, 1, none⟩ = some (.int .i64 a2_1) := (blk_cell BK134.out 1).trans rfl
                                      have hcz195_2 : wc.cell? ⟨gb134, 2, none⟩ = some (.string a2_2) := (blk_cell BK134.out 2).trans rfl
                                      have hfz195_0 := blk_frozen BK134.out 0
                                      have hfz195_1 := blk_frozen BK134.out 1
                                      have hfz195_2 := blk_frozen BK134.out 2
                                      go_wp2
                                      go_ret2
                                      exact ⟨by first | rfl | (simp [errW_none, errW_some] <;> rfl) | (simp [*, errW_none, errW_some] <;> rfl), by repeat (first | (with_reducible first | exact HB.out | apply below_alloc | apply pw_below_drewN | apply below_drew1 | refine below_set ?_ GE133.out | refine below_set ?_ GE134.out) | exact HB.out)⟩
                                  · rw [if_neg c188] at H
                                    have c188b0 : (a0 == 18) = false := beq_eq_false_iff_ne.mpr c188
                                    have c188b1 : (a0 != 18) = true := bne_iff_ne.mpr c188
                                    simp only [Option.some.injEq, Prod.mk.injEq] at H
                                    obtain ⟨rfl, rfl⟩ := H
                                    have hnb196 := NB133_134.out
                                    have hnc196 := NB134_133.out
                                    have hcz197_0 : wc.cell? ⟨gb133, 0, none⟩ = some (.int .i64 a1_0) := (blk_cell BK133.out 0).trans rfl
                                    have hcz197_1 : wc.cell? ⟨gb133, 1, none⟩ = some (.int .i64 a1_1) := (blk_cell BK133.out 1).trans rfl
                                    have hcz197_2 : wc.cell? ⟨gb133, 2, none⟩ = some (.string a1_2) := (blk_cell BK133.out 2).trans rfl
                                    have hfz197_0 := blk_frozen BK133.out 0
                                    have hfz197_1 := blk_frozen BK133.out 1
                                    have hfz197_2 := blk_frozen BK133.out 2
                                    have hcz198_0 : wc.cell? ⟨gb134, 0, none⟩ = some (.int .i64 a2_0) := (blk_cell BK134.out 0).trans rfl
                                    have hcz198_1 : wc.cell? ⟨gb134, 1, none⟩ = some (.int .i64 a2_1) := (blk_cell BK134.out 1).trans rfl
                                    have hcz198_2 : wc.cell? ⟨gb134, 2, none⟩ = some (.string a2_2) := (blk_cell BK134.out 2).trans rfl
                                    have hfz198_0 := blk_frozen BK134.out 0
                                    have hfz198_1 := blk_frozen BK134.out 1
                                    have hfz198_2 := blk_frozen BK134.out 2
                                    go_wp2
                                    go_ret2
                                    exact ⟨by first | rfl | (simp [errW_none, errW_some] <;> rfl) | (simp [*, errW_none, errW_some] <;> rfl), by repeat (first | (with_reducible first | exact HB.out | apply below_alloc | apply pw_below_drewN | apply below_drew1 | refine below_set ?_ GE133.out | refine below_set ?_ GE134.out) | exact HB.out)⟩
                            · rw [if_neg c167] at H
                              have c167b0 : (a0 == 16) = false := beq_eq_false_iff_ne.mpr c167
                              have c167b1 : (a0 != 16) = true := bne_iff_ne.mpr c167
                              by_cases c199 : a0 = 17
                              · rw [if_pos c199] at H
                                have c199b0 : (a0 == 17) = true := beq_iff_eq.mpr c199
                                have c199b1 : (a0 != 17) = false := bne_eq_false_iff_eq.mpr c199
                                clear c199
                                by_cases c200 : t135 > 0
                                · rw [if_pos c200] at H
                                  have c200b0 : decide (0 < t135) = true := decide_eq_true c200
                                  clear c200
                                  simp only [Option.some.injEq, Prod.mk.injEq] at H
                                  obtain ⟨rfl, rfl⟩ := H
                                  have hnb201 := NB133_134.out
                                  have hnc201 := NB134_133.out
                                  have hcz202_0 : wc.cell? ⟨gb133, 0, none⟩ = some (.int .i64 a1_0) := (blk_cell BK133.out 0).trans rfl
                                  have hcz202_1 : wc.cell? ⟨gb133, 1, none⟩ = some (.int .i64 a1_1) := (blk_cell BK133.out 1).trans rfl
                                  have hcz202_2 : wc.cell? ⟨gb133, 2, none⟩ = some (.string a1_2) := (blk_cell BK133.out 2).trans rfl
                                  have hfz202_0 := blk_frozen BK133.out 0
                                  have hfz202_1 := blk_frozen BK133.out 1
                                  have hfz202_2 := blk_frozen BK133.out 2
                                  have hcz203_0 : wc.cell? ⟨gb134, 0, none⟩ = some (.int .i64 a2_0) := (blk_cell BK134.out 0).trans rfl
                                  have hcz203_1 : wc.cell? ⟨gb134, 1, none⟩ = some (.int .i64 a2_1) := (blk_cell BK134.out 1).trans rfl
                                  have hcz203_2 : wc.cell? ⟨gb134, 2, none⟩ = some (.string a2_2) := (blk_cell BK134.out 2).trans rfl
                                  have hfz203_0 := blk_frozen BK134.out 0
                                  have hfz203_1 := blk_frozen BK134.out 1
                                  have hfz203_2 := blk_frozen BK134.out 2
                                  go_wp2
                                  go_ret2
                                  exact ⟨by first | rfl | (simp [errW_none, errW_some] <;> rfl) | (simp [*, errW_none, errW_some] <;> rfl), by repeat (first | (with_reducible first | exact HB.out | apply below_alloc | apply pw_below_drewN | apply below_drew1 | refine below_set ?_ GE133.out | refine below_set ?_ GE134.out) | exact HB.out)⟩
                                · rw [if_neg c200] at H
                                  have c200b0 : decide (0 < t135) = false := decide_eq_false c200
                                  clear c200
                                  by_cases c204 : a0 = 18
                                  · rw [if_pos c204] at H
                                    have c204b0 : (a0 == 18) = true := beq_iff_eq.mpr c204
                                    have c204b1 : (a0 != 18) = false := bne_eq_false_iff_eq.mpr c204
                                    clear c204
                                    by_cases c205 : t135 ≥ 0
                                    · rw [if_pos c205] at H
                                      have c205b0 : decide (0 ≤ t135) = true := decide_eq_true c205
                                      clear c205
                                      simp only [Option.some.injEq, Prod.mk.injEq] at H
                                      obtain ⟨rfl, rfl⟩ := H
                                      have hnb206 := NB133_134.out
                                      have hnc206 := NB134_133.out
                                      have hcz207_0 : wc.cell? ⟨gb133, 0, none⟩ = some (.int .i64 a1_0) := (blk_cell BK133.out 0).trans rfl
                                      have hcz207_1 : wc.cell? ⟨gb133, 1, none⟩ = some (.int .i64 a1_1) := (blk_cell BK133.out 1).trans rfl
                                      have hcz207_2 : wc.cell? ⟨gb133, 2, none⟩ = some (.string a1_2) := (blk_cell BK133.out 2).trans rfl
                                      have hfz207_0 := blk_frozen BK133.out 0
                                      have hfz207_1 := blk_frozen BK133.out 1
                                      have hfz207_2 := blk_frozen BK133.out 2
                                      have hcz208_0 : wc.cell? ⟨gb134, 0, none⟩ = some (.int .i64 a2_0) := (blk_cell BK134.out 0).trans rfl
                                      have hcz208_1 : wc.cell? ⟨gb134, 1, none⟩ = some (.int .i64 a2_1) := (blk_cell BK134.out 1).trans rfl
                                      have hcz208_2 : wc.cell? ⟨gb134, 2, none⟩ = some (.string a2_2) := (blk_cell BK134.out 2).trans rfl
                                      have hfz208_0 := blk_frozen BK134.out 0
                                      have hfz208_1 := blk_frozen BK134.out 1
                                      have hfz208_2 := blk_frozen BK134.out 2
                                      go_wp2
                                      go_ret2
                                      exact ⟨by first | rfl | (simp [errW_none, errW_some] <;> rfl) | (simp [*, errW_none, errW_some] <;> rfl), by repeat (first | (with_reducible first | exact HB.out | apply below_alloc | apply pw_below_drewN | apply below_drew1 | refine below_set ?_ GE133.out | refine below_set ?_ GE134.out) | exact HB.out)⟩
                                    · rw [if_neg c205] at H
                                      have c205b0 : decide (0 ≤ t135) = false := decide_eq_false c205
                                      clear c205
                                      simp only [Option.some.injEq, Prod.mk.injEq] at H
                                      obtain ⟨rfl, rfl⟩ := H
                                      have hnb209 := NB133_134.out
                                      have hnc209 := NB134_133.out
                                      have hcz210_0 : wc.cell? ⟨gb133, 0, none⟩ = some (.int .i64 a1_0) := (blk_cell BK133.out 0).trans rfl
                                      have hcz210_1 : wc.cell? ⟨gb133, 1, none⟩ = some (.int .i64 a1_1) := (blk_cell BK133.out 1).trans rfl
                                      have hcz210_2 : wc.cell? ⟨gb133, 2, none⟩ = some (.string a1_2) := (blk_cell BK133.out 2).trans rfl
                                      have hfz210_0 := blk_frozen BK133.out 0
                                      have hfz210_1 := blk_frozen BK133.out 1
                                      have hfz210_2 := blk_frozen BK133.out 2
                                      have hcz211_0 : wc.cell? ⟨gb134, 0, none⟩ = some (.int .i64 a2_0) := (blk_cell BK134.out 0).trans rfl
                                      have hcz211_1 : wc.cell? ⟨gb134, 1, none⟩ = some (.int .i64 a2_1) := (blk_cell BK134.out 1).trans rfl
                                      have hcz211_2 : wc.cell? ⟨gb134, 2, none⟩ = some (.string a2_2) := (blk_cell BK134.out 2).trans rfl
                                      have hfz211_0 := blk_frozen BK134.out 0
                                      have hfz211_1 := blk_frozen BK134.out 1
                                      have hfz211_2 := blk_frozen BK134.out 2
                                      go_wp2
                                      go_ret2
                                      exact ⟨by first | rfl | (simp [errW_none, errW_some] <;> rfl) | (simp [*, errW_none, errW_some] <;> rfl), by repeat (first | (with_reducible first | exact HB.out | apply below_alloc | apply pw_below_drewN | apply below_drew1 | refine below_set ?_ GE133.out | refine below_set ?_ GE134.out) | exact HB.out)⟩
                                  · rw [if_neg c204] at H
                                    have c204b0 : (a0 == 18) = false := beq_eq_false_iff_ne.mpr c204
                                    have c204b1 : (a0 != 18) = true := bne_iff_ne.mpr c204
                                    simp only [Option.some.injEq, Prod.mk.injEq] at H
                                    obtain ⟨rfl, rfl⟩ := H
                                    have hnb212 := NB133_134.out
                                    have hnc212 := NB134_133.out
                                    have hcz213_0 : wc.cell? ⟨gb133, 0, none⟩ = some (.int .i64 a1_0) := (blk_cell BK133.out 0).trans rfl
                                    have hcz213_1 : wc.cell? ⟨gb133, 1, none⟩ = some (.int .i64 a1_1) := (blk_cell BK133.out 1).trans rfl
                                    have hcz213_2 : wc.cell? ⟨gb133, 2, none⟩ = some (.string a1_2) := (blk_cell BK133.out 2).trans rfl
                                    have hfz213_0 := blk_frozen BK133.out 0
                                    have hfz213_1 := blk_frozen BK133.out 1
                                    have hfz213_2 := blk_frozen BK133.out 2
                                    have hcz214_0 : wc.cell? ⟨gb134, 0, none⟩ = some (.int .i64 a2_0) := (blk_cell BK134.out 0).trans rfl
                                    have hcz214_1 : wc.cell? ⟨gb134, 1, none⟩ = some (.int .i64 a2_1) := (blk_cell BK134.out 1).trans rfl
                                    have hcz214_2 : wc.cell? ⟨gb134, 2, none⟩ = some (.string a2_2) := (blk_cell BK134.out 2).trans rfl
                                    have hfz214_0 := blk_frozen BK134.out 0
                                    have hfz214_1 := blk_frozen BK134.out 1
                                    have hfz214_2 := blk_frozen BK134.out 2
                                    go_wp2
                                    go_ret2
                                    exact ⟨by first | rfl | (simp [errW_none, errW_some] <;> rfl) | (simp [*, errW_none, errW_some] <;> rfl), by repeat (first | (with_reducible first | exact HB.out | apply below_alloc | apply pw_below_drewN | apply below_drew1 | refine below_set ?_ GE133.out | refine below_set ?_ GE134.out) | exact HB.out)⟩
                              · rw [if_neg c199] at H
                                have c199b0 : (a0 == 17) = false := beq_eq_false_iff_ne.mpr c199
                                have c199b1 : (a0 != 17) = true := bne_iff_ne.mpr c199
                                by_cases c215 : a0 = 18
                                · rw [if_pos c215] at H
                                  have c215b0 : (a0 == 18) = true := beq_iff_eq.mpr c215
                                  have c215b1 : (a0 != 18) = false := bne_eq_false_iff_eq.mpr c215
                                  clear c215
                                  by_cases c216 : t135 ≥ 0
                                  · rw [if_pos c216] at H
                                    have c216b0 : decide (0 ≤ t135) = true := decide_eq_true c216
                                    clear c216
                                    simp only [Option.some.injEq, Prod.mk.injEq] at H
                                    obtain ⟨rfl, rfl⟩ := H
                                    have hnb217 := NB133_134.out
                                    have hnc217 := NB134_133.out
                                    have hcz218_0 : wc.cell? ⟨gb133, 0, none⟩ = some (.int .i64 a1_0) := (blk_cell BK133.out 0).trans rfl
                                    have hcz218_1 : wc.cell? ⟨gb133, 1, none⟩ = some (.int .i64 a1_1) := (blk_cell BK133.out 1).trans rfl
                                    have hcz218_2 : wc.cell? ⟨gb133, 2, none⟩ = some (.string a1_2) := (blk_cell BK133.out 2).trans rfl
                                    have hfz218_0 := blk_frozen BK133.out 0
                                    have hfz218_1 := blk_frozen BK133.out 1
                                    have hfz218_2 := blk_frozen BK133.out 2
                                    have hcz219_0 : wc.cell? ⟨gb134, 0, none⟩ = some (.int .i64 a2_0) := (blk_cell BK134.out 0).trans rfl
                                    have hcz219_1 : wc.cell? ⟨gb134, 1, none⟩ = some (.int .i64 a2_1) := (blk_cell BK134.out 1).trans rfl
                                    have hcz219_2 : wc.cell? ⟨gb134, 2, none⟩ = some (.string a2_2) := (blk_cell BK134.out 2).trans rfl
                                    have hfz219_0 := blk_frozen BK134.out 0
                                    have hfz219_1 := blk_frozen BK134.out 1
                                    have hfz219_2 := blk_frozen BK134.out 2
                                    go_wp2
                                    go_ret2
                                    exact ⟨by first | rfl | (simp [errW_none, errW_some] <;> rfl) | (simp [*, errW_none, errW_some] <;> rfl), by repeat (first | (with_reducible first | exact HB.out | apply below_alloc | apply pw_below_drewN | apply below_drew1 | refine below_set ?_ GE133.out | refine below_set ?_ GE134.out) | exact HB.out)⟩
                                  · rw [if_neg c216] at H
                                    have c216b0 : decide (0 ≤ t135) = false := decide_eq_false c216
                                    clear c216
                                    simp only [Option.some.injEq, Prod.mk.injEq] at H
                                    obtain ⟨rfl, rfl⟩ := H
                                    have hnb220 := NB133_134.out
                                    have hnc220 := NB134_133.out
                                    have hcz221_0 : wc.cell? ⟨gb133, 0, none⟩ = some (.int .i64 a1_0) := (blk_cell BK133.out 0).trans rfl
                                    have hcz221_1 : wc.cell? ⟨gb133, 1, none⟩ = some (.int .i64 a1_1) := (blk_cell BK133.out 1).trans rfl
                                    have hcz221_2 : wc.cell? ⟨gb133, 2, none⟩ = some (.string a1_2) := (blk_cell BK133.out 2).trans rfl
                                    have hfz221_0 := blk_frozen BK133.out 0
                                    have hfz221_1 := blk_frozen BK133.out 1
                                    have hfz221_2 := blk_frozen BK133.out 2
                                    have hcz222_0 : wc.cell? ⟨gb134, 0, none⟩ = some (.int .i64 a2_0) := (blk_cell BK134.out 0).trans rfl
                                    have hcz222_1 : wc.cell? ⟨gb134, 1, none⟩ = some (.int .i64 a2_1) := (blk_cell BK134.out 1).trans rfl
                                    have hcz222_2 : wc.cell? ⟨gb134, 2, none⟩ = some (.string a2_2) := (blk_cell BK134.out 2).trans rfl
                                    have hfz222_0 := blk_frozen BK134.out 0
                                    have hfz222_1 := blk_frozen BK134.out 1
                                    have hfz222_2 := blk_frozen BK134.out 2
                                    go_wp2
                                    go_ret2
                                    exact ⟨by first | rfl | (simp [errW_none, errW_some] <;> rfl) | (simp [*, errW_none, errW_some] <;> rfl), by repeat (first | (with_reducible first | exact HB.out | apply below_alloc | apply pw_below_drewN | apply below_drew1 | refine below_set ?_ GE133.out | refine below_set ?_ GE134.out) | exact HB.out)⟩
                                · rw [if_neg c215] at H
                                  have c215b0 : (a0 == 18) = false := beq_eq_false_iff_ne.mpr c215
                                  have c215b1 : (a0 != 18) = true := bne_iff_ne.mpr c215
                                  simp only [Option.some.injEq, Prod.mk.injEq] at H
                                  obtain ⟨rfl, rfl⟩ := H
                                  have hnb223 := NB133_134.out
                                  have hnc223 := NB134_133.out
                                  have hcz224_0 : wc.cell? ⟨gb133, 0, none⟩ = some (.int .i64 a1_0) := (blk_cell BK133.out 0).trans rfl
                                  have hcz224_1 : wc.cell? ⟨gb133, 1, none⟩ = some (.int .i64 a1_1) := (blk_cell BK133.out 1).trans rfl
                                  have hcz224_2 : wc.cell? ⟨gb133, 2, none⟩ = some (.string a1_2) := (blk_cell BK133.out 2).trans rfl
                                  have hfz224_0 := blk_frozen BK133.out 0
                                  have hfz224_1 := blk_frozen BK133.out 1
                                  have hfz224_2 := blk_frozen BK133.out 2
                                  have hcz225_0 : wc.cell? ⟨gb134, 0, none⟩ = some (.int .i64 a2_0) := (blk_cell BK134.out 0).trans rfl
                                  have hcz225_1 : wc.cell? ⟨gb134, 1, none⟩ = some (.int .i64 a2_1) := (blk_cell BK134.out 1).trans rfl
                                  have hcz225_2 : wc.cell? ⟨gb134, 2, none⟩ = some (.string a2_2) := (blk_cell BK134.out 2).trans rfl
                                  have hfz225_0 := blk_frozen BK134.out 0
                                  have hfz225_1 := blk_frozen BK134.out 1
                                  have hfz225_2 := blk_frozen BK134.out 2
                                  go_wp2
                                  go_ret2
                                  exact ⟨by first | rfl | (simp [errW_none, errW_some] <;> rfl) | (simp [*, errW_none, errW_some] <;> rfl), by repeat (first | (with_reducible first | exact HB.out | apply below_alloc | apply pw_below_drewN | apply below_drew1 | refine below_set ?_ GE133.out | refine below_set ?_ GE134.out) | exact HB.out)⟩
                        · rw [if_neg c162] at H
                          have c162b0 : (a0 == 15) = false := beq_eq_false_iff_ne.mpr c162
                          have c162b1 : (a0 != 15) = true := bne_iff_ne.mpr c162
                          by_cases c226 : a0 = 16
                          · rw [if_pos c226] at H
                            have c226b0 : (a0 == 16) = true := beq_iff_eq.mpr c226
                            have c226b1 : (a0 != 16) = false := bne_eq_false_iff_eq.mpr c226
                            clear c226
                            by_cases c227 : t135 ≤ 0
                            · rw [if_pos c227] at H
                              have c227b0 : decide (t135 ≤ 0) = true := decide_eq_true c227
                              clear c227
                              simp only [Option.some.injEq, Prod.mk.injEq] at H
                              obtain ⟨rfl, rfl⟩ := H
                              have hnb228 := NB133_134.out
                              have hnc228 := NB134_133.out
                              have hcz229_0 : wc.cell? ⟨gb133, 0, none⟩ = some (.int .i64 a1_0) := (blk_cell BK133.out 0).trans rfl
                              have hcz229_1 : wc.cell? ⟨gb133, 1, none⟩ = some (.int .i64 a1_1) := (blk_cell BK133.out 1).trans rfl
                              have hcz229_2 : wc.cell? ⟨gb133, 2, none⟩ = some (.string a1_2) := (blk_cell BK133.out 2).trans rfl
                              have hfz229_0 := blk_frozen BK133.out 0
                              have hfz229_1 := blk_frozen BK133.out 1
                              have hfz229_2 := blk_frozen BK133.out 2
                              have hcz230_0 : wc.cell? ⟨gb134, 0, none⟩ = some (.int .i64 a2_0) := (blk_cell BK134.out 0).trans rfl
                              have hcz230_1 : wc.cell? ⟨gb134, 1, none⟩ = some (.int .i64 a2_1) := (blk_cell BK134.out 1).trans rfl
                              have hcz230_2 : wc.cell? ⟨gb134, 2, none⟩ = some (.string a2_2) := (blk_cell BK134.out 2).trans rfl
                              have hfz230_0 := blk_frozen BK134.out 0
                              have hfz230_1 := blk_frozen BK134.out 1
                              have hfz230_2 := blk_frozen BK134.out 2
                              go_wp2
                              go_ret2
                              exact ⟨by first | rfl | (simp [errW_none, errW_some] <;> rfl) | (simp [*, errW_none, errW_some] <;> rfl), by repeat (first | (with_reducible first | exact HB.out | apply below_alloc | apply pw_below_drewN | apply below_drew1 | refine below_set ?_ GE133.out | refine below_set ?_ GE134.out) | exact HB.out)⟩
                            · rw [if_neg c227] at H
                              have c227b0 : decide (t135 ≤ 0) = false := decide_eq_false c227
                              clear c227
                              by_cases c231 : a0 = 17
                              · rw [if_pos c231] at H
                                have c231b0 : (a0 == 17) = true := beq_iff_eq.mpr c231
                                have c231b1 : (a0 != 17) = false := bne_eq_false_iff_eq.mpr c231
                                clear c231
                                by_cases c232 : t135 > 0
                                · rw [if_pos c232] at H
                                  have c232b0 : decide (0 < t135) = true := decide_eq_true c232
                                  clear c232
                                  simp only [Option.some.injEq, Prod.mk.injEq] at H
                                  obtain ⟨rfl, rfl⟩ := H
                                  have hnb233 := NB133_134.out
                                  have hnc233 := NB134_133.out
                                  have hcz234_0 : wc.cell? ⟨gb133, 0, none⟩ = some (.int .i64 a1_0) := (blk_cell BK133.out 0).trans rfl
                                  have hcz234_1 : wc.cell? ⟨gb133, 1, none⟩ = some (.int .i64 a1_1) := (blk_cell BK133.out 1).trans rfl
                                  have hcz234_2 : wc.cell? ⟨gb133, 2, none⟩ = some (.string a1_2) := (blk_cell BK133.out 2).trans rfl
                                  have hfz234_0 := blk_frozen BK133.out 0
                                  have hfz234_1 := blk_frozen BK133.out 1
                                  have hfz234_2 := blk_frozen BK133.out 2
                                  have hcz235_0 : wc.cell? ⟨gb134, 0, none⟩ = some (.int .i64 a2_0) := (blk_cell BK134.out 0).trans rfl
                                  have hcz235_1 : wc.cell? ⟨gb134, 1, none⟩ = some (.int .i64 a2_1) := (blk_cell BK134.out 1).trans rfl
                                  have hcz235_2 : wc.cell? ⟨gb134, 2, none⟩ = some (.string a2_2) := (blk_cell BK134.out 2).trans rfl
                                  have hfz235_0 := blk_frozen BK134.out 0
                                  have hfz235_1 := blk_frozen BK134.out 1
                                  have hfz235_2 := blk_frozen BK134.out 2
                                  go_wp2
                                  go_ret2
                                  exact ⟨by first | rfl | (simp [errW_none, errW_some] <;> rfl) | (simp [*, errW_none, errW_some] <;> rfl), by repeat (first | (with_reducible first | exact HB.out | apply below_alloc | apply pw_below_drewN | apply below_drew1 | refine below_set ?_ GE133.out | refine below_set ?_ GE134.out) | exact HB.out)⟩
                                · rw [if_neg c232] at H
                                  have c232b0 : decide (0 < t135) = false := decide_eq_false c232
                                  clear c232
                                  by_cases c236 : a0 = 18
                                  · rw [if_pos c236] at H
                                    have c236b0 : (a0 == 18) = true := beq_iff_eq.mpr c236
                                    have c236b1 : (a0 != 18) = false := bne_eq_false_iff_eq.mpr c236
                                    clear c236
                                    by_cases c237 : t135 ≥ 0
                                    · rw [if_pos c237] at H
                                      have c237b0 : decide (0 ≤ t135) = true := decide_eq_true c237
                                      clear c237
                                      simp only [Option.some.injEq, Prod.mk.injEq] at H
                                      obtain ⟨rfl, rfl⟩ := H
                                      have hnb238 := NB133_134.out
                                      have hnc238 := NB134_133.out
                                      have hcz239_0 : wc.cell? ⟨gb133, 0, none⟩ = some (.int .i64 a1_0) := (blk_cell BK133.out 0).trans rfl
                                      have hcz239_1 : wc.cell? ⟨gb133, 1, none⟩ = some (.int .i64 a1_1) := (blk_cell BK133.out 1).trans rfl
                                      have hcz239_2 : wc.cell? ⟨gb133, 2, none⟩ = some (.string a1_2) := (blk_cell BK133.out 2).trans rfl
                                      have hfz239_0 := blk_frozen BK133.out 0
                                      have hfz239_1 := blk_frozen BK133.out 1
                                      have hfz239_2 := blk_frozen BK133.out 2
                                      have hcz240_0 : wc.cell? ⟨gb134, 0, none⟩ = some (.int .i64 a2_0) := (blk_cell BK134.out 0).trans rfl
                                      have hcz240_1 : wc.cell? ⟨gb134, 1, none⟩ = some (.int .i64 a2_1) := (blk_cell BK134.out 1).trans rfl
                                      have hcz240_2 : wc.cell? ⟨gb134, 2, none⟩ = some (.string a2_2) := (blk_cell BK134.out 2).trans rfl
                                      have hfz240_0 := blk_frozen BK134.out 0
                                      have hfz240_1 := blk_frozen BK134.out 1
                                      have hfz240_2 := blk_frozen BK134.out 2
                                      go_wp2
                                      go_ret2
                                      exact ⟨by first | rfl | (simp [errW_none, errW_some] <;> rfl) | (simp [*, errW_none, errW_some] <;> rfl), by repeat (first | (with_reducible first | exact HB.out | apply below_alloc | apply pw_below_drewN | apply below_drew1 | refine below_set ?_ GE133.out | refine below_set ?_ GE134.out) | exact HB.out)⟩
                                    · rw [if_neg c237] at H
                                      have c237b0 : decide (0 ≤ t135) = false := decide_eq_false c237
                                      clear c237
                                      simp only [Option.some.injEq, Prod.mk.injEq] at H
                                      obtain ⟨rfl, rfl⟩ := H
                                      have hnb241 := NB133_134.out
                                      have hnc241 := NB134_133.out
                                      have hcz242_0 : wc.cell? ⟨gb133, 0, none⟩ = some (.int .i64 a1_0) := (blk_cell BK133.out 0).trans rfl
                                      have hcz242_1 : wc.cell? ⟨gb133, 1, none⟩ = some (.int .i64 a1_1) := (blk_cell BK133.out 1).trans rfl
                                      have hcz242_2 : wc.cell? ⟨gb133, 2, none⟩ = some (.string a1_2) := (blk_cell BK133.out 2).trans rfl
                                      have hfz242_0 := blk_frozen BK133.out 0
                                      have hfz242_1 := blk_frozen BK133.out 1
                                      have hfz242_2 := blk_frozen BK133.out 2
                                      have hcz243_0 : wc.cell? ⟨gb134, 0, none⟩ = some (.int .i64 a2_0) := (blk_cell BK134.out 0).trans rfl
                                      have hcz243_1 : wc.cell? ⟨gb134, 1, none⟩ = some (.int .i64 a2_1) := (blk_cell BK134.out 1).trans rfl
                                      have hcz243_2 : wc.cell? ⟨gb134, 2, none⟩ = some (.string a2_2) := (blk_cell BK134.out 2).trans rfl
                                      have hfz243_0 := blk_frozen BK134.out 0
                                      have hfz243_1 := blk_frozen BK134.out 1
                                      have hfz243_2 := blk_frozen BK134.out 2
                                      go_wp2
                                      go_ret2
                                      exact ⟨by first | rfl | (simp [errW_none, errW_some] <;> rfl) | (simp [*, errW_none, errW_some] <;> rfl), by repeat (first | (with_reducible first | exact HB.out | apply below_alloc | apply pw_below_drewN | apply below_drew1 | refine below_set ?_ GE133.out | refine below_set ?_ GE134.out) | exact HB.out)⟩
                                  · rw [if_neg c236] at H
                                    have c236b0 : (a0 == 18) = false := beq_eq_false_iff_ne.mpr c236
                                    have c236b1 : (a0 != 18) = true := bne_iff_ne.mpr c236
                                    simp only [Option.some.injEq, Prod.mk.injEq] at H
                                    obtain ⟨rfl, rfl⟩ := H
                                    have hnb244 := NB133_134.out
                                    have hnc244 := NB134_133.out
                                    have hcz245_0 : wc.cell? ⟨gb133, 0, none⟩ = some (.int .i64 a1_0) := (blk_cell BK133.out 0).trans rfl
                                    have hcz245_1 : wc.cell? ⟨gb133, 1, none⟩ = some (.int .i64 a1_1) := (blk_cell BK133.out 1).trans rfl
                                    have hcz245_2 : wc.cell? ⟨gb133, 2, none⟩ = some (.string a1_2) := (blk_cell BK133.out 2).trans rfl
                                    have hfz245_0 := blk_frozen BK133.out 0
                                    have hfz245_1 := blk_frozen BK133.out 1
                                    have hfz245_2 := blk_frozen BK133.out 2
                                    have hcz246_0 : wc.cell? ⟨gb134, 0, none⟩ = some (.int .i64 a2_0) := (blk_cell BK134.out 0).trans rfl
                                    have hcz246_1 : wc.cell? ⟨gb134, 1, none⟩ = some (.int .i64 a2_1) := (blk_cell BK134.out 1).trans rfl
                                    have hcz246_2 : wc.cell? ⟨gb134, 2, none⟩ = some (.string a2_2) := (blk_cell BK134.out 2).trans rfl
                                    have hfz246_0 := blk_frozen BK134.out 0
                                    have hfz246_1 := blk_frozen BK134.out 1
                                    have hfz246_2 := blk_frozen BK134.out 2
                                    go_wp2
                                    go_ret2
                                    exact ⟨by first | rfl | (simp [errW_none, errW_some] <;> rfl) | (simp [*, errW_none, errW_some] <;> rfl), by repeat (first | (with_reducible first | exact HB.out | apply below_alloc | apply pw_below_drewN | apply below_drew1 | refine below_set ?_ GE133.out | refine below_set ?_ GE134.out) | exact HB.out)⟩
                              · rw [if_neg c231] at H
                                have c231b0 : (a0 == 17) = false := beq_eq_false_iff_ne.mpr c231
                                have c231b1 : (a0 != 17) = true := bne_iff_ne.mpr c231
                                by_cases c247 : a0 = 18
                                · rw [if_pos c247] at H
                                  have c247b0 : (a0 == 18) = true := beq_iff_eq.mpr c247
                                  have c247b1 : (a0 != 18) = false := bne_eq_false_iff_eq.mpr c247
                                  clear c247
                                  by_cases c248 : t135 ≥ 0
                                  · rw [if_pos c248] at H
                                    have c248b0 : decide (0 ≤ t135) = true := decide_eq_true c248
                                    clear c248
                                    simp only [Option.some.injEq, Prod.mk.injEq] at H
                                    obtain ⟨rfl, rfl⟩ := H
                                    have hnb249 := NB133_134.out
                                    have hnc249 := NB134_133.out
                                    have hcz250_0 : wc.cell? ⟨gb133, 0, none⟩ = some (.int .i64 a1_0) := (blk_cell BK133.out 0).trans rfl
                                    have hcz250_1 : wc.cell? ⟨gb133, 1, none⟩ = some (.int .i64 a1_1) := (blk_cell BK133.out 1).trans rfl
                                    have hcz250_2 : wc.cell? ⟨gb133, 2, none⟩ = some (.string a1_2) := (blk_cell BK133.out 2).trans rfl
                                    have hfz250_0 := blk_frozen BK133.out 0
                                    have hfz250_1 := blk_frozen BK133.out 1
                                    have hfz250_2 := blk_frozen BK133.out 2
                                    have hcz251_0 : wc.cell? ⟨gb134, 0, none⟩ = some (.int .i64 a2_0) := (blk_cell BK134.out 0).trans rfl
                                    have hcz251_1 : wc.cell? ⟨gb134, 1, none⟩ = some (.int .i64 a2_1) := (blk_cell BK134.out 1).trans rfl
                                    have hcz251_2 : wc.cell? ⟨gb134, 2, none⟩ = some (.string a2_2) := (blk_cell BK134.out 2).trans rfl
                                    have hfz251_0 := blk_frozen BK134.out 0
                                    have hfz251_1 := blk_frozen BK134.out 1
                                    have hfz251_2 := blk_frozen BK134.out 2
                                    go_wp2
                                    go_ret2
                                    exact ⟨by first | rfl | (simp [errW_none, errW_some] <;> rfl) | (simp [*, errW_none, errW_some] <;> rfl), by repeat (first | (with_reducible first | exact HB.out | apply below_alloc | apply pw_below_drewN | apply below_drew1 | refine below_set ?_ GE133.out | refine below_set ?_ GE134.out) | exact HB.out)⟩
                                  · rw [if_neg c248] at H
                                    have c248b0 : decide (0 ≤ t135) = false := decide_eq_false c248
                                    clear c248
                                    simp only [Option.some.injEq, Prod.mk.injEq] at H
                                    obtain ⟨rfl, rfl⟩ := H
                                    have hnb252 := NB133_134.out
                                    have hnc252 := NB134_133.out
                                    have hcz253_0 : wc.cell? ⟨gb133, 0, none⟩ = some (.int .i64 a1_0) := (blk_cell BK133.out 0).trans rfl
                                    have hcz253_1 : wc.cell? ⟨gb133, 1, none⟩ = some (.int .i64 a1_1) := (blk_cell BK133.out 1).trans rfl
                                    have hcz253_2 : wc.cell? ⟨gb133, 2, none⟩ = some (.string a1_2) := (blk_cell BK133.out 2).trans rfl
                                    have hfz253_0 := blk_frozen BK133.out 0
                                    have hfz253_1 := blk_frozen BK133.out 1
                                    have hfz253_2 := blk_frozen BK133.out 2
                                    have hcz254_0 : wc.cell? ⟨gb134, 0, none⟩ = some (.int .i64 a2_0) := (blk_cell BK134.out 0).trans rfl
                                    have hcz254_1 : wc.cell? ⟨gb134, 1, none⟩ = some (.int .i64 a2_1) := (blk_cell BK134.out 1).trans rfl
                                    have hcz254_2 : wc.cell? ⟨gb134, 2, none⟩ = some (.string a2_2) := (blk_cell BK134.out 2).trans rfl
                                    have hfz254_0 := blk_frozen BK134.out 0
                                    have hfz254_1 := blk_frozen BK134.out 1
                                    have hfz254_2 := blk_frozen BK134.out 2
                                    go_wp2
                                    go_ret2
                                    exact ⟨by first | rfl | (simp [errW_none, errW_some] <;> rfl) | (simp [*, errW_none, errW_some] <;> rfl), by repeat (first | (with_reducible first | exact HB.out | apply below_alloc | apply pw_below_drewN | apply below_drew1 | refine below_set ?_ GE133.out | refine below_set ?_ GE134.out) | exact HB.out)⟩
                                · rw [if_neg c247] at H
                                  have c247b0 : (a0 == 18) = false := beq_eq_false_iff_ne.mpr c247
                                  have c247b1 : (a0 != 18) = true := bne_iff_ne.mpr c247
                                  simp only [Option.some.injEq, Prod.mk.injEq] at H
                                  obtain ⟨rfl, rfl⟩ := H
                                  have hnb255 := NB133_134.out
                                  have hnc255 := NB134_133.out
                                  have hcz256_0 : wc.cell? ⟨gb133, 0, none⟩ = some (.int .i64 a1_0) := (blk_cell BK133.out 0).trans rfl
                                  have hcz256_1 : wc.cell? ⟨gb133, 1, none⟩ = some (.int .i64 a1_1) := (blk_cell BK133.out 1).trans rfl
                                  have hcz256_2 : wc.cell? ⟨gb133, 2, none⟩ = some (.string a1_2) := (blk_cell BK133.out 2).trans rfl
                                  have hfz256_0 := blk_frozen BK133.out 0
                                  have hfz256_1 := blk_frozen BK133.out 1
                                  have hfz256_2 := blk_frozen BK133.out 2
                                  have hcz257_0 : wc.cell? ⟨gb134, 0, none⟩ = some (.int .i64 a2_0) := (blk_cell BK134.out 0).trans rfl
                                  have hcz257_1 : wc.cell? ⟨gb134, 1, none⟩ = some (.int .i64 a2_1) := (blk_cell BK134.out 1).trans rfl
                                  have hcz257_2 : wc.cell? ⟨gb134, 2, none⟩ = some (.string a2_2) := (blk_cell BK134.out 2).trans rfl
                                  have hfz257_0 := blk_frozen BK134.out 0
                                  have hfz257_1 := blk_frozen BK134.out 1
                                  have hfz257_2 := blk_frozen BK134.out 2
                                  go_wp2
                                  go_ret2
                                  exact ⟨by first | rfl | (simp [errW_none, errW_some] <;> rfl) | (simp [*, errW_none, errW_some] <;> rfl), by repeat (first | (with_reducible first | exact HB.out | apply below_alloc | apply pw_below_drewN | apply below_drew1 | refine below_set ?_ GE133.out | refine below_set ?_ GE134.out) | exact HB.out)⟩
                          · rw [if_neg c226] at H
                            have c226b0 : (a0 == 16) = false := beq_eq_false_iff_ne.mpr c226
                            have c226b1 : (a0 != 16) = true := bne_iff_ne.mpr c226
                            by_cases c258 : a0 = 17
                            · rw [if_pos c258] at H
                              have c258b0 : (a0 == 17) = true := beq_iff_eq.mpr c258
                              have c258b1 : (a0 != 17) = false := bne_eq_false_iff_eq.mpr c258
                              clear c258
                              by_cases c259 : t135 > 0
                              · rw [if_pos c259] at H
                                have c259b0 : decide (0 < t135) = true := decide_eq_true c259
                                clear c259
                                simp only [Option.some.injEq, Prod.mk.injEq] at H
                                obtain ⟨rfl, rfl⟩ := H
                                have hnb260 := NB133_134.out
                                have hnc260 := NB134_133.out
                                have hcz261_0 : wc.cell? ⟨gb133, 0, none⟩ = some (.int .i64 a1_0) := (blk_cell BK133.out 0).trans rfl
                                have hcz261_1 : wc.cell? ⟨gb133, 1, none⟩ = some (.int .i64 a1_1) := (blk_cell BK133.out 1).trans rfl
                                have hcz261_2 : wc.cell? ⟨gb133, 2, none⟩ = some (.string a1_2) := (blk_cell BK133.out 2).trans rfl
                                have hfz261_0 := blk_frozen BK133.out 0
                                have hfz261_1 := blk_frozen BK133.out 1
                                have hfz261_2 := blk_frozen BK133.out 2
                                have hcz262_0 : wc.cell? ⟨gb134, 0, none⟩ = some (.int .i64 a2_0) := (blk_cell BK134.out 0).trans rfl
                                have hcz262_1 : wc.cell? ⟨gb134, 1, none⟩ = some (.int .i64 a2_1) := (blk_cell BK134.out 1).trans rfl
                                have hcz262_2 : wc.cell? ⟨gb134, 2, none⟩ = some (.string a2_2) := (blk_cell BK134.out 2).trans rfl
                                have hfz262_0 := blk_frozen BK134.out 0
                                have hfz262_1 := blk_frozen BK134.out 1
                                have hfz262_2 := blk_frozen BK134.out 2
                                go_wp2
                                go_ret2
                                exact ⟨by first | rfl | (simp [errW_none, errW_some] <;> rfl) | (simp [*, errW_none, errW_some] <;> rfl), by repeat (first | (with_reducible first | exact HB.out | apply below_alloc | apply pw_below_drewN | apply below_drew1 | refine below_set ?_ GE133.out | refine below_set ?_ GE134.out) | exact HB.out)⟩
                              · rw [if_neg c259] at H
                                have c259b0 : decide (0 < t135) = false := decide_eq_false c259
                                clear c259
                                by_cases c263 : a0 = 18
                                · rw [if_pos c263] at H
                                  have c263b0 : (a0 == 18) = true := beq_iff_eq.mpr c263
                                  have c263b1 : (a0 != 18) = false := bne_eq_false_iff_eq.mpr c263
                                  clear c263
                                  by_cases c264 : t135 ≥ 0
                                  · rw [if_pos c264] at H
                                    have c264b0 : decide (0 ≤ t135) = true := decide_eq_true c264
                                    clear c264
                                    simp only [Option.some.injEq, Prod.mk.injEq] at H
                                    obtain ⟨rfl, rfl⟩ := H
                                    have hnb265 := NB133_134.out
                                    have hnc265 := NB134_133.out
                                    have hcz266_0 : wc.cell? ⟨gb133, 0, none⟩ = some (.int .i64 a1_0) := (blk_cell BK133.out 0).trans rfl
                                    have hcz266_1 : wc.cell? ⟨gb133, 1, none⟩ = some (.int .i64 a1_1) := (blk_cell BK133.out 1).trans rfl
                                    have hcz266_2 : wc.cell? ⟨gb133, 2, none⟩ = some (.string a1_2) := (blk_cell BK133.out 2).trans rfl
                                    have hfz266_0 := blk_frozen BK133.out 0
                                    have hfz266_1 := blk_frozen BK133.out 1
                                    have hfz266_2 := blk_frozen BK133.out 2
                                    have hcz267_0 : wc.cell? ⟨gb134, 0, none⟩ = some (.int .i64 a2_0) := (blk_cell BK134.out 0).trans rfl
                                    have hcz267_1 : wc.cell? ⟨gb134, 1, none⟩ = some (.int .i64 a2_1) := (blk_cell BK134.out 1).trans rfl
                                    have hcz267_2 : wc.cell? ⟨gb134, 2, none⟩ = some (.string a2_2) := (blk_cell BK134.out 2).trans rfl
                                    have hfz267_0 := blk_frozen BK134.out 0
                                    have hfz267_1 := blk_frozen BK134.out 1
                                    have hfz267_2 := blk_frozen BK134.out 2
                                    go_wp2
                                    go_ret2
                                    exact ⟨by first | rfl | (simp [errW_none, errW_some] <;> rfl) | (simp [*, errW_none, errW_some] <;> rfl), by repeat (first | (with_reducible first | exact HB.out | apply below_alloc | apply pw_below_drewN | apply below_drew1 | refine below_set ?_ GE133.out | refine below_set ?_ GE134.out) | exact HB.out)⟩
                                  · rw [if_neg c264] at H
                                    have c264b0 : decide (0 ≤ t135) = false := decide_eq_false c264
                                    clear c264
                                    simp only [Option.some.injEq, Prod.mk.injEq] at H
                                    obtain ⟨rfl, rfl⟩ := H
                                    have hnb268 := NB133_134.out
                                    have hnc268 := NB134_133.out
                                    have hcz269_0 : wc.cell? ⟨gb133, 0, none⟩ = some (.int .i64 a1_0) := (blk_cell BK133.out 0).trans rfl
                                    have hcz269_1 : wc.cell? ⟨gb133, 1, none⟩ = some (.int .i64 a1_1) := (blk_cell BK133.out 1).trans rfl
                                    have hcz269_2 : wc.cell? ⟨gb133, 2, none⟩ = some (.string a1_2) := (blk_cell BK133.out 2).trans rfl
                                    have hfz269_0 := blk_frozen BK133.out 0
                                    have hfz269_1 := blk_frozen BK133.out 1
                                    have hfz269_2 := blk_frozen BK133.out 2
                                    have hcz270_0 : wc.cell? ⟨gb134, 0, none⟩ = some (.int .i64 a2_0) := (blk_cell BK134.out 0).trans rfl
                                    have hcz270_1 : wc.cell? ⟨gb134, 1, none⟩ = some (.int .i64 a2_1) := (blk_cell BK134.out 1).trans rfl
                                    have hcz270_2 : wc.cell? ⟨gb134, 2, none⟩ = some (.string a2_2) := (blk_cell BK134.out 2).trans rfl
                                    have hfz270_0 := blk_frozen BK134.out 0
                                    have hfz270_1 := blk_frozen BK134.out 1
                                    have hfz270_2 := blk_frozen BK134.out 2
                                    go_wp2
                                    go_ret2
                                    exact ⟨by first | rfl | (simp [errW_none, errW_some] <;> rfl) | (simp [*, errW_none, errW_some] <;> rfl), by repeat (first | (with_reducible first | exact HB.out | apply below_alloc | apply pw_below_drewN | apply below_drew1 | refine below_set ?_ GE133.out | refine below_set ?_ GE134.out) | exact HB.out)⟩
                                · rw [if_neg c263] at H
                                  have c263b0 : (a0 == 18) = false := beq_eq_false_iff_ne.mpr c263
                                  have c263b1 : (a0 != 18) = true := bne_iff_ne.mpr c263
                                  simp only [Option.some.injEq, Prod.mk.injEq] at H
                                  obtain ⟨rfl, rfl⟩ := H
                                  have hnb271 := NB133_134.out
                                  have hnc271 := NB134_133.out
                                  have hcz272_0 : wc.cell? ⟨gb133, 0, none⟩ = some (.int .i64 a1_0) := (blk_cell BK133.out 0).trans rfl
                                  have hcz272_1 : wc.cell? ⟨gb133, 1, none⟩ = some (.int .i64 a1_1) := (blk_cell BK133.out 1).trans rfl
                                  have hcz272_2 : wc.cell? ⟨gb133, 2, none⟩ = some (.string a1_2) := (blk_cell BK133.out 2).trans rfl
                                  have hfz272_0 := blk_frozen BK133.out 0
                                  have hfz272_1 := blk_frozen BK133.out 1
                                  have hfz272_2 := blk_frozen BK133.out 2
                                  have hcz273_0 : wc.cell? ⟨gb134, 0, none⟩ = some (.int .i64 a2_0) := (blk_cell BK134.out 0).trans rfl
                                  have hcz273_1 : wc.cell? ⟨gb134, 1, none⟩ = some (.int .i64 a2_1) := (blk_cell BK134.out 1).trans rfl
                                  have hcz273_2 : wc.cell? ⟨gb134, 2, none⟩ = some (.string a2_2) := (blk_cell BK134.out 2).trans rfl
                                  have hfz273_0 := blk_frozen BK134.out 0
                                  have hfz273_1 := blk_frozen BK134.out 1
                                  have hfz273_2 := blk_frozen BK134.out 2
                                  go_wp2
                                  go_ret2
                                  exact ⟨by first | rfl | (simp [errW_none, errW_some] <;> rfl) | (simp [*, errW_none, errW_some] <;> rfl), by repeat (first | (with_reducible first | exact HB.out | apply below_alloc | apply pw_below_drewN | apply below_drew1 | refine below_set ?_ GE133.out | refine below_set ?_ GE134.out) | exact HB.out)⟩
                            · rw [if_neg c258] at H
                              have c258b0 : (a0 == 17) = false := beq_eq_false_iff_ne.mpr c258
                              have c258b1 : (a0 != 17) = true := bne_iff_ne.mpr c258
                              by_cases c274 : a0 = 18
                              · rw [if_pos c274] at H
                                have c274b0 : (a0 == 18) = true := beq_iff_eq.mpr c274
                                have c274b1 : (a0 != 18) = false := bne_eq_false_iff_eq.mpr c274
                                clear c274
                                by_cases c275 : t135 ≥ 0
                                · rw [if_pos c275] at H
                                  have c275b0 : decide (0 ≤ t135) = true := decide_eq_true c275
                                  clear c275
                                  simp only [Option.some.injEq, Prod.mk.injEq] at H
                                  obtain ⟨rfl, rfl⟩ := H
                                  have hnb276 := NB133_134.out
                                  have hnc276 := NB134_133.out
                                  have hcz277_0 : wc.cell? ⟨gb133, 0, none⟩ = some (.int .i64 a1_0) := (blk_cell BK133.out 0).trans rfl
                                  have hcz277_1 : wc.cell? ⟨gb133, 1, none⟩ = some (.int .i64 a1_1) := (blk_cell BK133.out 1).trans rfl
                                  have hcz277_2 : wc.cell? ⟨gb133, 2, none⟩ = some (.string a1_2) := (blk_cell BK133.out 2).trans rfl
                                  have hfz277_0 := blk_frozen BK133.out 0
                                  have hfz277_1 := blk_frozen BK133.out 1
                                  have hfz277_2 := blk_frozen BK133.out 2
                                  have hcz278_0 : wc.cell? ⟨gb134, 0, none⟩ = some (.int .i64 a2_0) := (blk_cell BK134.out 0).trans rfl
                                  have hcz278_1 : wc.cell? ⟨gb134, 1, none⟩ = some (.int .i64 a2_1) := (blk_cell BK134.out 1).trans rfl
                                  have hcz278_2 : wc.cell? ⟨gb134, 2, none⟩ = some (.string a2_2) := (blk_cell BK134.out 2).trans rfl
                                  have hfz278_0 := blk_frozen BK134.out 0
                                  have hfz278_1 := blk_frozen BK134.out 1
                                  have hfz278_2 := blk_frozen BK134.out 2
                                  go_wp2
                                  go_ret2
                                  exact ⟨by first | rfl | (simp [errW_none, errW_some] <;> rfl) | (simp [*, errW_none, errW_some] <;> rfl), by repeat (first | (with_reducible first | exact HB.out | apply below_alloc | apply pw_below_drewN | apply below_drew1 | refine below_set ?_ GE133.out | refine below_set ?_ GE134.out) | exact HB.out)⟩
                                · rw [if_neg c275] at H
                                  have c275b0 : decide (0 ≤ t135) = false := decide_eq_false c275
                                  clear c275
                                  simp only [Option.some.injEq, Prod.mk.injEq] at H
                                  obtain ⟨rfl, rfl⟩ := H
                                  have hnb279 := NB133_134.out
                                  have hnc279 := NB134_133.out
                                  have hcz280_0 : wc.cell? ⟨gb133, 0, none⟩ = some (.int .i64 a1_0) := (blk_cell BK133.out 0).trans rfl
                                  have hcz280_1 : wc.cell? ⟨gb133, 1, none⟩ = some (.int .i64 a1_1) := (blk_cell BK133.out 1).trans rfl
                                  have hcz280_2 : wc.cell? ⟨gb133, 2, none⟩ = some (.string a1_2) := (blk_cell BK133.out 2).trans rfl
                                  have hfz280_0 := blk_frozen BK133.out 0
                                  have hfz280_1 := blk_frozen BK133.out 1
                                  have hfz280_2 := blk_frozen BK133.out 2
                                  have hcz281_0 : wc.cell? ⟨gb134, 0, none⟩ = some (.int .i64 a2_0) := (blk_cell BK134.out 0).trans rfl
                                  have hcz281_1 : wc.cell? ⟨gb134, 1, none⟩ = some (.int .i64 a2_1) := (blk_cell BK134.out 1).trans rfl
                                  have hcz281_2 : wc.cell? ⟨gb134, 2, none⟩ = some (.string a2_2) := (blk_cell BK134.out 2).trans rfl
                                  have hfz281_0 := blk_frozen BK134.out 0
                                  have hfz281_1 := blk_frozen BK134.out 1
                                  have hfz281_2 := blk_frozen BK134.out 2
                                  go_wp2
                                  go_ret2
                                  exact ⟨by first | rfl | (simp [errW_none, errW_some] <;> rfl) | (simp [*, errW_none, errW_some] <;> rfl), by repeat (first | (with_reducible first | exact HB.out | apply below_alloc | apply pw_below_drewN | apply below_drew1 | refine below_set ?_ GE133.out | refine below_set ?_ GE134.out) | exact HB.out)⟩
                              · rw [if_neg c274] at H
                                have c274b0 : (a0 == 18) = false := beq_eq_false_iff_ne.mpr c274
                                have c274b1 : (a0 != 18) = true := bne_iff_ne.mpr c274
                                simp only [Option.some.injEq, Prod.mk.injEq] at H
                                obtain ⟨rfl, rfl⟩ := H
                                have hnb282 := NB133_134.out
                                have hnc282 := NB134_133.out
                                have hcz283_0 : wc.cell? ⟨gb133, 0, none⟩ = some (.int .i64 a1_0) := (blk_cell BK133.out 0).trans rfl
                                have hcz283_1 : wc.cell? ⟨gb133, 1, none⟩ = some (.int .i64 a1_1) := (blk_cell BK133.out 1).trans rfl
                                have hcz283_2 : wc.cell? ⟨gb133, 2, none⟩ = some (.string a1_2) := (blk_cell BK133.out 2).trans rfl
                                have hfz283_0 := blk_frozen BK133.out 0
                                have hfz283_1 := blk_frozen BK133.out 1
                                have hfz283_2 := blk_frozen BK133.out 2
                                have hcz284_0 : wc.cell? ⟨gb134, 0, none⟩ = some (.int .i64 a2_0) := (blk_cell BK134.out 0).trans rfl
                                have hcz284_1 : wc.cell? ⟨gb134, 1, none⟩ = some (.int .i64 a2_1) := (blk_cell BK134.out 1).trans rfl
                                have hcz284_2 : wc.cell? ⟨gb134, 2, none⟩ = some (.string a2_2) := (blk_cell BK134.out 2).trans rfl
                                have hfz284_0 := blk_frozen BK134.out 0
                                have hfz284_1 := blk_frozen BK134.out 1
                                have hfz284_2 := blk_frozen BK134.out 2
                                go_wp2
                                go_ret2
                                exact ⟨by first | rfl | (simp [errW_none, errW_some] <;> rfl) | (simp [*, errW_none, errW_some] <;> rfl), by repeat (first | (with_reducible first | exact HB.out | apply below_alloc | apply pw_below_drewN | apply below_drew1 | refine below_set ?_ GE133.out | refine below_set ?_ GE134.out) | exact HB.out)⟩
                      · rw [if_neg c161] at H
                        have c161b0 : (t135 == 0) = false := beq_eq_false_iff_ne.mpr c161
                        have c161b1 : (t135 != 0) = true := bne_iff_ne.mpr c161
                        simp only [Option.some.injEq, Prod.mk.injEq] at H
                        obtain ⟨rfl, rfl⟩ := H
                        have hnb285 := NB133_134.out
                        have hnc285 := NB134_133.out
                        have hcz286_0 : wc.cell? ⟨gb133, 0, none⟩ = some (.int .i64 a1_0) := (blk_cell BK133.out 0).trans rfl
                        have hcz286_1 : wc.cell? ⟨gb133, 1, none⟩ = some (.int .i64 a1_1) := (blk_cell BK133.out 1).trans rfl
                        have hcz286_2 : wc.cell? ⟨gb133, 2, none⟩ = some (.string a1_2) := (blk_cell BK133.out 2).trans rfl
                        have hfz286_0 := blk_frozen BK133.out 0
                        have hfz286_1 := blk_frozen BK133.out 1
                        have hfz286_2 := blk_frozen BK133.out 2
                        have hcz287_0 : wc.cell? ⟨gb134, 0, none⟩ = some (.int .i64 a2_0) := (blk_cell BK134.out 0).trans rfl
                        have hcz287_1 : wc.cell? ⟨gb134, 1, none⟩ = some (.int .i64 a2_1) := (blk_cell BK134.out 1).trans rfl
                        have hcz287_2 : wc.cell? ⟨gb134, 2, none⟩ = some (.string a2_2) := (blk_cell BK134.out 2).trans rfl
                        have hfz287_0 := blk_frozen BK134.out 0
                        have hfz287_1 := blk_frozen BK134.out 1
                        have hfz287_2 := blk_frozen BK134.out 2
                        go_wp2
                        go_ret2
                        exact ⟨by first | rfl | (simp [errW_none, errW_some] <;> rfl) | (simp [*, errW_none, errW_some] <;> rfl), by repeat (first | (with_reducible first | exact HB.out | apply below_alloc | apply pw_below_drewN | apply below_drew1 | refine below_set ?_ GE133.out | refine below_set ?_ GE134.out) | exact HB.out)⟩
                    · rw [if_neg c160] at H
                      have c160b0 : (a0 == 14) = false := beq_eq_false_iff_ne.mpr c160
                      have c160b1 : (a0 != 14) = true := bne_iff_ne.mpr c160
                      by_cases c288 : a0 = 15
                      · rw [if_pos c288] at H
                        have c288b0 : (a0 == 15) = true := beq_iff_eq.mpr c288
                        have c288b1 : (a0 != 15) = false := bne_eq_false_iff_eq.mpr c288
                        clear c288
                        by_cases c289 : t135 < 0
                        · rw [if_pos c289] at H
                          have c289b0 : decide (t135 < 0) = true := decide_eq_true c289
                          clear c289
                          simp only [Option.some.injEq, Prod.mk.injEq] at H
                          obtain ⟨rfl, rfl⟩ := H
                          have hnb290 := NB133_134.out
                          have hnc290 := NB134_133.out
                          have hcz291_0 : wc.cell? ⟨gb133, 0, none⟩ = some (.int .i64 a1_0) := (blk_cell BK133.out 0).trans rfl
                          have hcz291_1 : wc.cell? ⟨gb133, 1, none⟩ = some (.int .i64 a1_1) := (blk_cell BK133.out 1).trans rfl
                          have hcz291_2 : wc.cell? ⟨gb133, 2, none⟩ = some (.string a1_2) := (blk_cell BK133.out 2).trans rfl
                          have hfz291_0 := blk_frozen BK133.out 0
                          have hfz291_1 := blk_frozen BK133.out 1
                          have hfz291_2 := blk_frozen BK133.out 2
                          have hcz292_0 : wc.cell? ⟨gb134, 0, none⟩ = some (.int .i64 a2_0) := (blk_cell BK134.out 0).trans rfl
                          have hcz292_1 : wc.cell? ⟨gb134, 1, none⟩ = some (.int .i64 a2_1) := (blk_cell BK134.out 1).trans rfl
                          have hcz292_2 : wc.cell? ⟨gb134, 2, none⟩ = some (.string a2_2) := (blk_cell BK134.out 2).trans rfl
                          have hfz292_0 := blk_frozen BK134.out 0
                          have hfz292_1 := blk_frozen BK134.out 1
                          have hfz292_2 := blk_frozen BK134.out 2
                          go_wp2
                          go_ret2
                          exact ⟨by first | rfl | (simp [errW_none, errW_some] <;> rfl) | (simp [*, errW_none, errW_some] <;> rfl), by repeat (first | (with_reducible first | exact HB.out | apply below_alloc | apply pw_below_drewN | apply below_drew1 | refine below_set ?_ GE133.out | refine below_set ?_ GE134.out) | exact HB.out)⟩
                        · rw [if_neg c289] at H
                          have c289b0 : decide (t135 < 0) = false := decide_eq_false c289
                          clear c289
                          by_cases c293 : a0 = 16
                          · rw [if_pos c293] at H
                            have c293b0 : (a0 == 16) = true := beq_iff_eq.mpr c293
                            have c293b1 : (a0 != 16) = false := bne_eq_false_iff_eq.mpr c293
                            clear c293
                            by_cases c294 : t135 ≤ 0
                            · rw [if_pos c294] at H
                              have c294b0 : decide (t135 ≤ 0) = true := decide_eq_true c294
                              clear c294
                              simp only [Option.some.injEq, Prod.mk.injEq] at H
                              obtain ⟨rfl, rfl⟩ := H
                              have hnb295 := NB133_134.out
                              have hnc295 := NB134_133.out
                              have hcz296_0 : wc.cell? ⟨gb133, 0, none⟩ = some (.int .i64 a1_0) := (blk_cell BK133.out 0).trans rfl
                              have hcz296_1 : wc.cell? ⟨gb133, 1, none⟩ = some (.int .i64 a1_1) := (blk_cell BK133.out 1).trans rfl
                              have hcz296_2 : wc.cell? ⟨gb133, 2, none⟩ = some (.string a1_2) := (blk_cell BK133.out 2).trans rfl
                              have hfz296_0 := blk_frozen BK133.out 0
                              have hfz296_1 := blk_frozen BK133.out 1
                              have hfz296_2 := blk_frozen BK133.out 2
                              have hcz297_0 : wc.cell? ⟨gb134, 0, none⟩ = some (.int .i64 a2_0) := (blk_cell BK134.out 0).trans rfl
                              have hcz297_1 : wc.cell? ⟨gb134, 1, none⟩ = some (.int .i64 a2_1) := (blk_cell BK134.out 1).trans rfl
                              have hcz297_2 : wc.cell? ⟨gb134, 2, none⟩ = some (.string a2_2) := (blk_cell BK134.out 2).trans rfl
                              have hfz297_0 := blk_frozen BK134.out 0
                              have hfz297_1 := blk_frozen BK134.out 1
                              have hfz297_2 := blk_frozen BK134.out 2
                              go_wp2
                              go_ret2
                              exact ⟨by first | rfl | (simp [errW_none, errW_some] <;> rfl) | (simp [*, errW_none, errW_some] <;> rfl), by repeat (first | (with_reducible first | exact HB.out | apply below_alloc | apply pw_below_drewN | apply below_drew1 | refine below_set ?_ GE133.out | refine below_set ?_ GE134.out) | exact HB.out)⟩
                            · rw [if_neg c294] at H
                              have c294b0 : decide (t135 ≤ 0) = false := decide_eq_false c294
                              clear c294
                              by_cases c298 : a0 = 17
                              · rw [if_pos c298] at H
                                have c298b0 : (a0 == 17) = true := beq_iff_eq.mpr c298
                                have c298b1 : (a0 != 17) = false := bne_eq_false_iff_eq.mpr c298
                                clear c298
                                by_cases c299 : t135 > 0
                                · rw [if_pos c299] at H
                                  have c299b0 : decide (0 < t135) = true := decide_eq_true c299
                                  clear c299
                                  simp only [Option.some.injEq, Prod.mk.injEq] at H
                                  obtain ⟨rfl, rfl⟩ := H
                                  have hnb300 := NB133_134.out
                                  have hnc300 := NB134_133.out
                                  have hcz301_0 : wc.cell? ⟨gb133, 0, none⟩ = some (.int .i64 a1_0) := (blk_cell BK133.out 0).trans rfl
                                  have hcz301_1 : wc.cell? ⟨gb133, 1, none⟩ = some (.int .i64 a1_1) := (blk_cell BK133.out 1).trans rfl
                                  have hcz301_2 : wc.cell? ⟨gb133, 2, none⟩ = some (.string a1_2) := (blk_cell BK133.out 2).trans rfl
                                  have hfz301_0 := blk_frozen BK133.out 0
                                  have hfz301_1 := blk_frozen BK133.out 1
                                  have hfz301_2 := blk_frozen BK133.out 2
                                  have hcz302_0 : wc.cell? ⟨gb134, 0, none⟩ = some (.int .i64 a2_0) := (blk_cell BK134.out 0).trans rfl
                                  have hcz302_1 : wc.cell? ⟨gb134, 1, none⟩ = some (.int .i64 a2_1) := (blk_cell BK134.out 1).trans rfl
                                  have hcz302_2 : wc.cell? ⟨gb134, 2, none⟩ = some (.string a2_2) := (blk_cell BK134.out 2).trans rfl
                                  have hfz302_0 := blk_frozen BK134.out 0
                                  have hfz302_1 := blk_frozen BK134.out 1
                                  have hfz302_2 := blk_frozen BK134.out 2
                                  go_wp2
                                  go_ret2
                                  exact ⟨by first | rfl | (simp [errW_none, errW_some] <;> rfl) | (simp [*, errW_none, errW_some] <;> rfl), by repeat (first | (with_reducible first | exact HB.out | apply below_alloc | apply pw_below_drewN | apply below_drew1 | refine below_set ?_ GE133.out | refine below_set ?_ GE134.out) | exact HB.out)⟩
                                · rw [if_neg c299] at H
                                  have c299b0 : decide (0 < t135) = false := decide_eq_false c299
                                  clear c299
                                  by_cases c303 : a0 = 18
                                  · rw [if_pos c303] at H
                                    have c303b0 : (a0 == 18) = true := beq_iff_eq.mpr c303
                                    have c303b1 : (a0 != 18) = false := bne_eq_false_iff_eq.mpr c303
                                    clear c303
                                    by_cases c304 : t135 ≥ 0
                                    · rw [if_pos c304] at H
                                      have c304b0 : decide (0 ≤ t135) = true := decide_eq_true c304
                                      clear c304
                                      simp only [Option.some.injEq, Prod.mk.injEq] at H
                                      obtain ⟨rfl, rfl⟩ := H
                                      have hnb305 := NB133_134.out
                                      have hnc305 := NB134_133.out
                                      have hcz306_0 : wc.cell? ⟨gb133, 0, none⟩ = some (.int .i64 a1_0) := (blk_cell BK133.out 0).trans rfl
                                      have hcz306_1 : wc.cell? ⟨gb133, 1, none⟩ = some (.int .i64 a1_1) := (blk_cell BK133.out 1).trans rfl
                                      have hcz306_2 : wc.cell? ⟨gb133, 2, none⟩ = some (.string a1_2) := (blk_cell BK133.out 2).trans rfl
                                      have hfz306_0 := blk_frozen BK133.out 0
                                      have hfz306_1 := blk_frozen BK133.out 1
                                      have hfz306_2 := blk_frozen BK133.out 2
                                      have hcz307_0 : wc.cell? ⟨gb134, 0, none⟩ = some (.int .i64 a2_0) := (blk_cell BK134.out 0).trans rfl
                                      have hcz307_1 : wc.cell? ⟨gb134, 1, none⟩ = some (.int .i64 a2_1) := (blk_cell BK134.out 1).trans rfl
                                      have hcz307_2 : wc.cell? ⟨gb134, 2, none⟩ = some (.string a2_2) := (blk_cell BK134.out 2).trans rfl
                                      have hfz307_0 := blk_frozen BK134.out 0
                                      have hfz307_1 := blk_frozen BK134.out 1
                                      have hfz307_2 := blk_frozen BK134.out 2
                                      go_wp2
                                      go_ret2
                                      exact ⟨by first | rfl | (simp [errW_none, errW_some] <;> rfl) | (simp [*, errW_none, errW_some] <;> rfl), by repeat (first | (with_reducible first | exact HB.out | apply below_alloc | apply pw_below_drewN | apply below_drew1 | refine below_set ?_ GE133.out | refine below_set ?_ GE134.out) | exact HB.out)⟩
                                    · rw [if_neg c304] at H
                                      have c304b0 : decide (0 ≤ t135) = false := decide_eq_false c304
                                      clear c304
                                      simp only [Option.some.injEq, Prod.mk.injEq] at H
                                      obtain ⟨rfl, rfl⟩ := H
                                      have hnb308 := NB133_134.out
                                      have hnc308 := NB134_133.out
                                      have hcz309_0 : wc.cell? ⟨gb133, 0, none⟩ = some (.int .i64 a1_0) := (blk_cell BK133.out 0).trans rfl
                                      have hcz309_1 : wc.cell? ⟨gb133, 1, none⟩ = some (.int .i64 a1_1) := (blk_cell BK133.out 1).trans rfl
                                      have hcz309_2 : wc.cell? ⟨gb133, 2, none⟩ = some (.string a1_2) := (blk_cell BK133.out 2).trans rfl
                                      have hfz309_0 := blk_frozen BK133.out 0
                                      have hfz309_1 := blk_frozen BK133.out 1
                                      have hfz309_2 := blk_frozen BK133.out 2
                                      have hcz310_0 : wc.cell? ⟨gb134, 0, none⟩ = some (.int .i64 a2_0) := (blk_cell BK134.out 0).trans rfl
                                      have hcz310_1 : wc.cell? ⟨gb134, 1, none⟩ = some (.int .i64 a2_1) := (blk_cell BK134.out 1).trans rfl
                                      have hcz310_2 : wc.cell? ⟨gb134, 2, none⟩ = some (.string a2_2) := (blk_cell BK134.out 2).trans rfl
                                      have hfz310_0 := blk_frozen BK134.out 0
                                      have hfz310_1 := blk_frozen BK134.out 1
                                      have hfz310_2 := blk_frozen BK134.out 2
                                      go_wp2
                                      go_ret2
                                      exact ⟨by first | rfl | (simp [errW_none, errW_some] <;> rfl) | (simp [*, errW_none, errW_some] <;> rfl), by repeat (first | (with_reducible first | exact HB.out | apply below_alloc | apply pw_below_drewN | apply below_drew1 | refine below_set ?_ GE133.out | refine below_set ?_ GE134.out) | exact HB.out)⟩
                                  · rw [if_neg c303] at H
                                    have c303b0 : (a0 == 18) = false := beq_eq_false_iff_ne.mpr c303
                                    have c303b1 : (a0 != 18) = true := bne_iff_ne.mpr c303
                                    simp only [Option.some.injEq, Prod.mk.injEq] at H
                                    obtain ⟨rfl, rfl⟩ := H
                                    have hnb311 := NB133_134.out
                                    have hnc311 := NB134_133.out
                                    have hcz312_0 : wc.cell? ⟨gb133, 0, none⟩ = some (.int .i64 a1_0) := (blk_cell BK133.out 0).trans rfl
                                    have hcz312_1 : wc.cell? ⟨gb133, 1, none⟩ = some (.int .i64 a1_1) := (blk_cell BK133.out 1).trans rfl
                                    have hcz312_2 : wc.cell? ⟨gb133, 2, none⟩ = some (.string a1_2) := (blk_cell BK133.out 2).trans rfl
                                    have hfz312_0 := blk_frozen BK133.out 0
                                    have hfz312_1 := blk_frozen BK133.out 1
                                    have hfz312_2 := blk_frozen BK133.out 2
                                    have hcz313_0 : wc.cell? ⟨gb134, 0, none⟩ = some (.int .i64 a2_0) := (blk_cell BK134.out 0).trans rfl
                                    have hcz313_1 : wc.cell? ⟨gb134, 1, none⟩ = some (.int .i64 a2_1) := (blk_cell BK134.out 1).trans rfl
                                    have hcz313_2 : wc.cell? ⟨gb134, 2, none⟩ = some (.string a2_2) := (blk_cell BK134.out 2).trans rfl
                                    have hfz313_0 := blk_frozen BK134.out 0
                                    have hfz313_1 := blk_frozen BK134.out 1
                                    have hfz313_2 := blk_frozen BK134.out 2
                                    go_wp2
                                    go_ret2
                                    exact ⟨by first | rfl | (simp [errW_none, errW_some] <;> rfl) | (simp [*, errW_none, errW_some] <;> rfl), by repeat (first | (with_reducible first | exact HB.out | apply below_alloc | apply pw_below_drewN | apply below_drew1 | refine below_set ?_ GE133.out | refine below_set ?_ GE134.out) | exact HB.out)⟩
                              · rw [if_neg c298] at H
                                have c298b0 : (a0 == 17) = false := beq_eq_false_iff_ne.mpr c298
                                have c298b1 : (a0 != 17) = true := bne_iff_ne.mpr c298
                                by_cases c314 : a0 = 18
                                · rw [if_pos c314] at H
                                  have c314b0 : (a0 == 18) = true := beq_iff_eq.mpr c314
                                  have c314b1 : (a0 != 18) = false := bne_eq_false_iff_eq.mpr c314
                                  clear c314
                                  by_cases c315 : t135 ≥ 0
                                  · rw [if_pos c315] at H
                                    have c315b0 : decide (0 ≤ t135) = true := decide_eq_true c315
                                    clear c315
                                    simp only [Option.some.injEq, Prod.mk.injEq] at H
                                    obtain ⟨rfl, rfl⟩ := H
                                    have hnb316 := NB133_134.out
                                    have hnc316 := NB134_133.out
                                    have hcz317_0 : wc.cell? ⟨gb133, 0, none⟩ = some (.int .i64 a1_0) := (blk_cell BK133.out 0).trans rfl
                                    have hcz317_1 : wc.cell? ⟨gb133, 1, none⟩ = some (.int .i64 a1_1) := (blk_cell BK133.out 1).trans rfl
                                    have hcz317_2 : wc.cell? ⟨gb133, 2, none⟩ = some (.string a1_2) := (blk_cell BK133.out 2).trans rfl
                                    have hfz317_0 := blk_frozen BK133.out 0
                                    have hfz317_1 := blk_frozen BK133.out 1
                                    have hfz317_2 := blk_frozen BK133.out 2
                                    have hcz318_0 : wc.cell? ⟨gb134, 0, none⟩ = some (.int .i64 a2_0) := (blk_cell BK134.out 0).trans rfl
                                    have hcz318_1 : wc.cell? ⟨gb134, 1, none⟩ = some (.int .i64 a2_1) := (blk_cell BK134.out 1).trans rfl
                                    have hcz318_2 : wc.cell? ⟨gb134, 2, none⟩ = some (.string a2_2) := (blk_cell BK134.out 2).trans rfl
                                    have hfz318_0 := blk_frozen BK134.out 0
                                    have hfz318_1 := blk_frozen BK134.out 1
                                    have hfz318_2 := blk_frozen BK134.out 2
                                    go_wp2
                                    go_ret2
                                    exact ⟨by first | rfl | (simp [errW_none, errW_some] <;> rfl) | (simp [*, errW_none, errW_some] <;> rfl), by repeat (first | (with_reducible first | exact HB.out | apply below_alloc | apply pw_below_drewN | apply below_drew1 | refine below_set ?_ GE133.out | refine below_set ?_ GE134.out) | exact HB.out)⟩
                                  · rw [if_neg c315] at H
                                    have c315b0 : decide (0 ≤ t135) = false := decide_eq_false c315
                                    clear c315
                                    simp only [Option.some.injEq, Prod.mk.injEq] at H
                                    obtain ⟨rfl, rfl⟩ := H
                                    have hnb319 := NB133_134.out
                                    have hnc319 := NB134_133.out
                                    have hcz320_0 : wc.cell? ⟨gb133, 0, none⟩ = some (.int .i64 a1_0) := (blk_cell BK133.out 0).trans rfl
                                    have hcz320_1 : wc.cell? ⟨gb133, 1, none⟩ = some (.int .i64 a1_1) := (blk_cell BK133.out 1).trans rfl
                                    have hcz320_2 : wc.cell? ⟨gb133, 2, none⟩ = some (.string a1_2) := (blk_cell BK133.out 2).trans rfl
                                    have hfz320_0 := blk_frozen BK133.out 0
                                    have hfz320_1 := blk_frozen BK133.out 1
                                    have hfz320_2 := blk_frozen BK133.out 2
                                    have hcz321_0 : wc.cell? ⟨gb134, 0, none⟩ = some (.int .i64 a2_0) := (blk_cell BK134.out 0).trans rfl
                                    have hcz321_1 : wc.cell? ⟨gb134, 1, none⟩ = some (.int .i64 a2_1) := (blk_cell BK134.out 1).trans rfl
                                    have hcz321_2 : wc.cell? ⟨gb134, 2, none⟩ = some (.string a2_2) := (blk_cell BK134.out 2).trans rfl
                                    have hfz321_0 := blk_frozen BK134.out 0
                                    have hfz321_1 := blk_frozen BK134.out 1
                                    have hfz321_2 := blk_frozen BK134.out 2
                                    go_wp2
                                    go_ret2
                                    exact ⟨by first | rfl | (simp [errW_none, errW_some] <;> rfl) | (simp [*, errW_none, errW_some] <;> rfl), by repeat (first | (with_reducible first | exact HB.out | apply below_alloc | apply pw_below_drewN | apply below_drew1 | refine below_set ?_ GE133.out | refine below_set ?_ GE134.out) | exact HB.out)⟩
                                · rw [if_neg c314] at H
                                  have c314b0 : (a0 == 18) = false := beq_eq_false_iff_ne.mpr c314
                                  have c314b1 : (a0 != 18) = true := bne_iff_ne.mpr c314
                                  simp only [Option.some.injEq, Prod.mk.injEq] at H
                                  obtain ⟨rfl, rfl⟩ := H
                                  have hnb322 := NB133_134.out
                                  have hnc322 := NB134_133.out
                                  have hcz323_0 : wc.cell? ⟨gb133, 0, none⟩ = some (.int .i64 a1_0) := (blk_cell BK133.out 0).trans rfl
                                  have hcz323_1 : wc.cell? ⟨gb133, 1, none⟩ = some (.int .i64 a1_1) := (blk_cell BK133.out 1).trans rfl
                                  have hcz323_2 : wc.cell? ⟨gb133, 2, none⟩ = some (.string a1_2) := (blk_cell BK133.out 2).trans rfl
                                  have hfz323_0 := blk_frozen BK133.out 0
                                  have hfz323_1 := blk_frozen BK133.out 1
                                  have hfz323_2 := blk_frozen BK133.out 2
                                  have hcz324_0 : wc.cell? ⟨gb134, 0, none⟩ = some (.int .i64 a2_0) := (blk_cell BK134.out 0).trans rfl
                                  have hcz324_1 : wc.cell? ⟨gb134, 1, none⟩ = some (.int .i64 a2_1) := (blk_cell BK134.out 1).trans rfl
                                  have hcz324_2 : wc.cell? ⟨gb134, 2, none⟩ = some (.string a2_2) := (blk_cell BK134.out 2).trans rfl
                                  have hfz324_0 := blk_frozen BK134.out 0
                                  have hfz324_1 := blk_frozen BK134.out 1
                                  have hfz324_2 := blk_frozen BK134.out 2
                                  go_wp2
                                  go_ret2
                                  exact ⟨by first | rfl | (simp [errW_none, errW_some] <;> rfl) | (simp [*, errW_none, errW_some] <;> rfl), by repeat (first | (with_reducible first | exact HB.out | apply below_alloc | apply pw_below_drewN | apply below_drew1 | refine below_set ?_ GE133.out | refine below_set ?_ GE134.out) | exact HB.out)⟩
                          · rw [if_neg c293] at H
                            have c293b0 : (a0 == 16) = false := beq_eq_false_iff_ne.mpr c293
                            have c293b1 : (a0 != 16) = true := bne_iff_ne.mpr c293
                            by_cases c325 : a0 = 17
                            · rw [if_pos c325] at H
                              have c325b0 : (a0 == 17) = true := beq_iff_eq.mpr c325
                              have c325b1 : (a0 != 17) = false := bne_eq_false_iff_eq.mpr c325
                              clear c325
                              by_cases c326 : t135 > 0
                              · rw [if_pos c326] at H
                                have c326b0 : decide (0 < t135) = true := decide_eq_true c326
                                clear c326
                                simp only [Option.some.injEq, Prod.mk.injEq] at H
                                obtain ⟨rfl, rfl⟩ := H
                                have hnb327 := NB133_134.out
                                have hnc327 := NB134_133.out
                                have hcz328_0 : wc.cell? ⟨gb133, 0, none⟩ = some (.int .i64 a1_0) := (blk_cell BK133.out 0).trans rfl
                                have hcz328_1 : wc.cell? ⟨gb133, 1, none⟩ = some (.int .i64 a1_1) := (blk_cell BK133.out 1).trans rfl
                                have hcz328_2 : wc.cell? ⟨gb133, 2, none⟩ = some (.string a1_2) := (blk_cell BK133.out 2).trans rfl
                                have hfz328_0 := blk_frozen BK133.out 0
                                have hfz328_1 := blk_frozen BK133.out 1
                                have hfz328_2 := blk_frozen BK133.out 2
                                have hcz329_0 : wc.cell? ⟨gb134, 0, none⟩ = some (.int .i64 a2_0) := (blk_cell BK134.out 0).trans rfl
                                have hcz329_1 : wc.cell? ⟨gb134, 1, none⟩ = some (.int .i64 a2_1) := (blk_cell BK134.out 1).trans rfl
                                have hcz329_2 : wc.cell? ⟨gb134, 2, none⟩ = some (.string a2_2) := (blk_cell BK134.out 2).trans rfl
                                have hfz329_0 := blk_frozen BK134.out 0
                                have hfz329_1 := blk_frozen BK134.out 1
                                have hfz329_2 := blk_frozen BK134.out 2
                                go_wp2
                                go_ret2
                                exact ⟨by first | rfl | (simp [errW_none, errW_some] <;> rfl) | (simp [*, errW_none, errW_some] <;> rfl), by repeat (first | (with_reducible first | exact HB.out | apply below_alloc | apply pw_below_drewN | apply below_drew1 | refine below_set ?_ GE133.out | refine below_set ?_ GE134.out) | exact HB.out)⟩
                              · rw [if_neg c326] at H
                                have c326b0 : decide (0 < t135) = false := decide_eq_false c326
                                clear c326
                                by_cases c330 : a0 = 18
                                · rw [if_pos c330] at H
                                  have c330b0 : (a0 == 18) = true := beq_iff_eq.mpr c330
                                  have c330b1 : (a0 != 18) = false := bne_eq_false_iff_eq.mpr c330
                                  clear c330
                                  by_cases c331 : t135 ≥ 0
                                  · rw [if_pos c331] at H
                                    have c331b0 : decide (0 ≤ t135) = true := decide_eq_true c331
                                    clear c331
                                    simp only [Option.some.injEq, Prod.mk.injEq] at H
                                    obtain ⟨rfl, rfl⟩ := H
                                    have hnb332 := NB133_134.out
                                    have hnc332 := NB134_133.out
                                    have hcz333_0 : wc.cell? ⟨gb133, 0, none⟩ = some (.int .i64 a1_0) := (blk_cell BK133.out 0).trans rfl
                                    have hcz333_1 : wc.cell? ⟨gb133, 1, none⟩ = some (.int .i64 a1_1) := (blk_cell BK133.out 1).trans rfl
                                    have hcz333_2 : wc.cell? ⟨gb133, 2, none⟩ = some (.string a1_2) := (blk_cell BK133.out 2).trans rfl
                                    have hfz333_0 := blk_frozen BK133.out 0
                                    have hfz333_1 := blk_frozen BK133.out 1
                                    have hfz333_2 := blk_frozen BK133.out 2
                                    have hcz334_0 : wc.cell? ⟨gb134, 0, none⟩ = some (.int .i64 a2_0) := (blk_cell BK134.out 0).trans rfl
                                    have hcz334_1 : wc.cell? ⟨gb134, 1, none⟩ = some (.int .i64 a2_1) := (blk_cell BK134.out 1).trans rfl
                                    have hcz334_2 : wc.cell? ⟨gb134, 2, none⟩ = some (.string a2_2) := (blk_cell BK134.out 2).trans rfl
                                    have hfz334_0 := blk_frozen BK134.out 0
                                    have hfz334_1 := blk_frozen BK134.out 1
                                    have hfz334_2 := blk_frozen BK134.out 2
                                    go_wp2
                                    go_ret2
                                    exact ⟨by first | rfl | (simp [errW_none, errW_some] <;> rfl) | (simp [*, errW_none, errW_some] <;> rfl), by repeat (first | (with_reducible first | exact HB.out | apply below_alloc | apply pw_below_drewN | apply below_drew1 | refine below_set ?_ GE133.out | refine below_set ?_ GE134.out) | exact HB.out)⟩
                                  · rw [if_neg c331] at H
                                    have c331b0 : decide (0 ≤ t135) = false := decide_eq_false c331
                                    clear c331
                                    simp only [Option.some.injEq, Prod.mk.injEq] at H
                                    obtain ⟨rfl, rfl⟩ := H
                                    have hnb335 := NB133_134.out
                                    have hnc335 := NB134_133.out
                                    have hcz336_0 : wc.cell? ⟨gb133, 0, none⟩ = some (.int .i64 a1_0) := (blk_cell BK133.out 0).trans rfl
                                    have hcz336_1 : wc.cell? ⟨gb133, 1, none⟩ = some (.int .i64 a1_1) := (blk_cell BK133.out 1).trans rfl
                                    have hcz336_2 : wc.cell? ⟨gb133, 2, none⟩ = some (.string a1_2) := (blk_cell BK133.out 2).trans rfl
                                    have hfz336_0 := blk_frozen BK133.out 0
                                    have hfz336_1 := blk_frozen BK133.out 1
                                    have hfz336_2 := blk_frozen BK133.out 2
                                    have hcz337_0 : wc.cell? ⟨gb134, 0, none⟩ = some (.int .i64 a2_0) := (blk_cell BK134.out 0).trans rfl
                                    have hcz337_1 : wc.cell? ⟨gb134, 1, none⟩ = some (.int .i64 a2_1) := (blk_cell BK134.out 1).trans rfl
                                    have hcz337_2 : wc.cell? ⟨gb134, 2, none⟩ = some (.string a2_2) := (blk_cell BK134.out 2).trans rfl
                                    have hfz337_0 := blk_frozen BK134.out 0
                                    have hfz337_1 := blk_frozen BK134.out 1
                                    have hfz337_2 := blk_frozen BK134.out 2
                                    go_wp2
                                    go_ret2
                                    exact ⟨by first | rfl | (simp [errW_none, errW_some] <;> rfl) | (simp [*, errW_none, errW_some] <;> rfl), by repeat (first | (with_reducible first | exact HB.out | apply below_alloc | apply pw_below_drewN | apply below_drew1 | refine below_set ?_ GE133.out | refine below_set ?_ GE134.out) | exact HB.out)⟩
                                · rw [if_neg c330] at H
                                  have c330b0 : (a0 == 18) = false := beq_eq_false_iff_ne.mpr c330
                                  have c330b1 : (a0 != 18) = true := bne_iff_ne.mpr c330
                                  simp only [Option.some.injEq, Prod.mk.injEq] at H
                                  obtain ⟨rfl, rfl⟩ := H
                                  have hnb338 := NB133_134.out
                                  have hnc338 := NB134_133.out
                                  have hcz339_0 : wc.cell? ⟨gb133, 0, none⟩ = some (.int .i64 a1_0) := (blk_cell BK133.out 0).trans rfl
                                  have hcz339_1 : wc.cell? ⟨gb133, 1, none⟩ = some (.int .i64 a1_1) := (blk_cell BK133.out 1).trans rfl
                                  have hcz339_2 : wc.cell? ⟨gb133, 2, none⟩ = some (.string a1_2) := (blk_cell BK133.out 2).trans rfl
                                  have hfz339_0 := blk_frozen BK133.out 0
                                  have hfz339_1 := blk_frozen BK133.out 1
                                  have hfz339_2 := blk_frozen BK133.out 2
                                  have hcz340_0 : wc.cell? ⟨gb134, 0, none⟩ = some (.int .i64 a2_0) := (blk_cell BK134.out 0).trans rfl
                                  have hcz340_1 : wc.cell? ⟨gb134, 1, none⟩ = some (.int .i64 a2_1) := (blk_cell BK134.out 1).trans rfl
                                  have hcz340_2 : wc.cell? ⟨gb134, 2, none⟩ = some (.string a2_2) := (blk_cell BK134.out 2).trans rfl
                                  have hfz340_0 := blk_frozen BK134.out 0
                                  have hfz340_1 := blk_frozen BK134.out 1
                                  have hfz340_2 := blk_frozen BK134.out 2
                                  go_wp2
                                  go_ret2
                                  exact ⟨by first | rfl | (simp [errW_none, errW_some] <;> rfl) | (simp [*, errW_none, errW_some] <;> rfl), by repeat (first | (with_reducible first | exact HB.out | apply below_alloc | apply pw_below_drewN | apply below_drew1 | refine below_set ?_ GE133.out | refine below_set ?_ GE134.out) | exact HB.out)⟩
                            · rw [if_neg c325] at H
                              have c325b0 : (a0 == 17) = false := beq_eq_false_iff_ne.mpr c325
                              have c325b1 : (a0 != 17) = true := bne_iff_ne.mpr c325
                              by_cases c341 : a0 = 18
                              · rw [if_pos c341] at H
                                have c341b0 : (a0 == 18) = true := beq_iff_eq.mpr c341
                                have c341b1 : (a0 != 18) = false := bne_eq_false_iff_eq.mpr c341
                                clear c341
                                by_cases c342 : t135 ≥ 0
                                · rw [if_pos c342] at H
                                  have c342b0 : decide (0 ≤ t135) = true := decide_eq_true c342
                                  clear c342
                                  simp only [Option.some.injEq, Prod.mk.injEq] at H
                                  obtain ⟨rfl, rfl⟩ := H
                                  have hnb343 := NB133_134.out
                                  have hnc343 := NB134_133.out
                                  have hcz344_0 : wc.cell? ⟨gb133, 0, none⟩ = some (.int .i64 a1_0) := (blk_cell BK133.out 0).trans rfl
                                  have hcz344_1 : wc.cell? ⟨gb133, 1, none⟩ = some (.int .i64 a1_1) := (blk_cell BK133.out 1).trans rfl
                                  have hcz344_2 : wc.cell? ⟨gb133, 2, none⟩ = some (.string a1_2) := (blk_cell BK133.out 2).trans rfl
                                  have hfz344_0 := blk_frozen BK133.out 0
                                  have hfz344_1 := blk_frozen BK133.out 1
                                  have hfz344_2 := blk_frozen BK133.out 2
                                  have hcz345_0 : wc.cell? ⟨gb134, 0, none⟩ = some (.int .i64 a2_0) := (blk_cell BK134.out 0).trans rfl
                                  have hcz345_1 : wc.cell? ⟨gb134, 1, none⟩ = some (.int .i64 a2_1) := (blk_cell BK134.out 1).trans rfl
                                  have hcz345_2 : wc.cell? ⟨gb134, 2, none⟩ = some (.string a2_2) := (blk_cell BK134.out 2).trans rfl
                                  have hfz345_0 := blk_frozen BK134.out 0
                                  have hfz345_1 := blk_frozen BK134.out 1
                                  have hfz345_2 := blk_frozen BK134.out 2
                                  go_wp2
                                  go_ret2
                                  exact ⟨by first | rfl | (simp [errW_none, errW_some] <;> rfl) | (simp [*, errW_none, errW_some] <;> rfl), by repeat (first | (with_reducible first | exact HB.out | apply below_alloc | apply pw_below_drewN | apply below_drew1 | refine below_set ?_ GE133.out | refine below_set ?_ GE134.out) | exact HB.out)⟩
                                · rw [if_neg c342] at H
                                  have c342b0 : decide (0 ≤ t135) = false := decide_eq_false c342
                                  clear c342
                                  simp only [Option.some.injEq, Prod.mk.injEq] at H
                                  obtain ⟨rfl, rfl⟩ := H
                                  have hnb346 := NB133_134.out
                                  have hnc346 := NB134_133.out
                                  have hcz347_0 : wc.cell? ⟨gb133, 0, none⟩ = some (.int .i64 a1_0) := (blk_cell BK133.out 0).trans rfl
                                  have hcz347_1 : wc.cell? ⟨gb133, 1, none⟩ = some (.int .i64 a1_1) := (blk_cell BK133.out 1).trans rfl
                                  have hcz347_2 : wc.cell? ⟨gb133, 2, none⟩ = some (.string a1_2) := (blk_cell BK133.out 2).trans rfl
                                  have hfz347_0 := blk_frozen BK133.out 0
                                  have hfz347_1 := blk_frozen BK133.out 1
                                  have hfz347_2 := blk_frozen BK133.out 2
                                  have hcz348_0 : wc.cell? ⟨gb134, 0, none⟩ = some (.int .i64 a2_0) := (blk_cell BK134.out 0).trans rfl
                                  have hcz348_1 : wc.cell? ⟨gb134, 1, none⟩ = some (.int .i64 a2_1) := (blk_cell BK134.out 1).trans rfl
                                  have hcz348_2 : wc.cell? ⟨gb134, 2, none⟩ = some (.string a2_2) := (blk_cell BK134.out 2).trans rfl
                                  have hfz348_0 := blk_frozen BK134.out 0
                                  have hfz348_1 := blk_frozen BK134.out 1
                                  have hfz348_2 := blk_frozen BK134.out 2
                                  go_wp2
                                  go_ret2
                                  exact ⟨by first | rfl | (simp [errW_none, errW_some] <;> rfl) | (simp [*, errW_none, errW_some] <;> rfl), by repeat (first | (with_reducible first | exact HB.out | apply below_alloc | apply pw_below_drewN | apply below_drew1 | refine below_set ?_ GE133.out | refine below_set ?_ GE134.out) | exact HB.out)⟩
                              · rw [if_neg c341] at H
                                have c341b0 : (a0 == 18) = false := beq_eq_false_iff_ne.mpr c341
                                have c341b1 : (a0 != 18) = true := bne_iff_ne.mpr c341
                                simp only [Option.some.injEq, Prod.mk.injEq] at H
                                obtain ⟨rfl, rfl⟩ := H
                                have hnb349 := NB133_134.out
                                have hnc349 := NB134_133.out
                                have hcz350_0 : wc.cell? ⟨gb133, 0, none⟩ = some (.int .i64 a1_0) := (blk_cell BK133.out 0).trans rfl
                                have hcz350_1 : wc.cell? ⟨gb133, 1, none⟩ = some (.int .i64 a1_1) := (blk_cell BK133.out 1).trans rfl
                                have hcz350_2 : wc.cell? ⟨gb133, 2, none⟩ = some (.string a1_2) := (blk_cell BK133.out 2).trans rfl
                                have hfz350_0 := blk_frozen BK133.out 0
                                have hfz350_1 := blk_frozen BK133.out 1
                                have hfz350_2 := blk_frozen BK133.out 2
                                have hcz351_0 : wc.cell? ⟨gb134, 0, none⟩ = some (.int .i64 a2_0) := (blk_cell BK134.out 0).trans rfl
                                have hcz351_1 : wc.cell? ⟨gb134, 1, none⟩ = some (.int .i64 a2_1) := (blk_cell BK134.out 1).trans rfl
                                have hcz351_2 : wc.cell? ⟨gb134, 2, none⟩ = some (.string a2_2) := (blk_cell BK134.out 2).trans rfl
                                have hfz351_0 := blk_frozen BK134.out 0
                                have hfz351_1 := blk_frozen BK134.out 1
                                have hfz351_2 := blk_frozen BK134.out 2
                                go_wp2
                                go_ret2
                                exact ⟨by first | rfl | (simp [errW_none, errW_some] <;> rfl) | (simp [*, errW_none, errW_some] <;> rfl), by repeat (first | (with_reducible first | exact HB.out | apply below_alloc | apply pw_below_drewN | apply below_drew1 | refine below_set ?_ GE133.out | refine below_set ?_ GE134.out) | exact HB.out)⟩
                      · rw [if_neg c288] at H
                        have c288b0 : (a0 == 15) = false := beq_eq_false_iff_ne.mpr c288
                        have c288b1 : (a0 != 15) = true := bne_iff_ne.mpr c288
                        by_cases c352 : a0 = 16
                        · rw [if_pos c352] at H
                          have c352b0 : (a0 == 16) = true := beq_iff_eq.mpr c352
                          have c352b1 : (a0 != 16) = false := bne_eq_false_iff_eq.mpr c352
                          clear c352
                          by_cases c353 : t135 ≤ 0
                          · rw [if_pos c353] at H
                            have c353b0 : decide (t135 ≤ 0) = true := decide_eq_true c353
                            clear c353
                            simp only [Option.some.injEq, Prod.mk.injEq] at H
                            obtain ⟨rfl, rfl⟩ := H
                            have hnb354 := NB133_134.out
                            have hnc354 := NB134_133.out
                            have hcz355_0 : wc.cell? ⟨gb133, 0, none⟩ = some (.int .i64 a1_0) := (blk_cell BK133.out 0).trans rfl
                            have hcz355_1 : wc.cell? ⟨gb133, 1, none⟩ = some (.int .i64 a1_1) := (blk_cell BK133.out 1).trans rfl
                            have hcz355_2 : wc.cell? ⟨gb133, 2, none⟩ = some (.string a1_2) := (blk_cell BK133.out 2).trans rfl
                            have hfz355_0 := blk_frozen BK133.out 0
                            have hfz355_1 := blk_frozen BK133.out 1
                            have hfz355_2 := blk_frozen BK133.out 2
                            have hcz356_0 : wc.cell? ⟨gb134, 0, none⟩ = some (.int .i64 a2_0) := (blk_cell BK134.out 0).trans rfl
                            have hcz356_1 : wc.cell? ⟨gb134, 1, none⟩ = some (.int .i64 a2_1) := (blk_cell BK134.out 1).trans rfl
                            have hcz356_2 : wc.cell? ⟨gb134, 2, none⟩ = some (.string a2_2) := (blk_cell BK134.out 2).trans rfl
                            have hfz356_0 := blk_frozen BK134.out 0
                            have hfz356_1 := blk_frozen BK134.out 1
                            have hfz356_2 := blk_frozen BK134.out 2
                            go_wp2
                            go_ret2
                            exact ⟨by first | rfl | (simp [errW_none, errW_some] <;> rfl) | (simp [*, errW_none, errW_some] <;> rfl), by repeat (first | (with_reducible first | exact HB.out | apply below_alloc | apply pw_below_drewN | apply below_drew1 | refine below_set ?_ GE133.out | refine below_set ?_ GE134.out) | exact HB.out)⟩
                          · rw [if_neg c353] at H
                            have c353b0 : decide (t135 ≤ 0) = false := decide_eq_false c353
                            clear c353
                            by_cases c357 : a0 = 17
                            · rw [if_pos c357] at H
                              have c357b0 : (a0 == 17) = true := beq_iff_eq.mpr c357
                              have c357b1 : (a0 != 17) = false := bne_eq_false_iff_eq.mpr c357
                              clear c357
                              by_cases c358 : t135 > 0
                              · rw [if_pos c358] at H
                                have c358b0 : decide (0 < t135) = true := decide_eq_true c358
                                clear c358
                                simp only [Option.some.injEq, Prod.mk.injEq] at H
                                obtain ⟨rfl, rfl⟩ := H
                                have hnb359 := NB133_134.out
                                have hnc359 := NB134_133.out
                                have hcz360_0 : wc.cell? ⟨gb133, 0, none⟩ = some (.int .i64 a1_0) := (blk_cell BK133.out 0).trans rfl
                                have hcz360_1 : wc.cell? ⟨gb133, 1, none⟩ = some (.int .i64 a1_1) := (blk_cell BK133.out 1).trans rfl
                                have hcz360_2 : wc.cell? ⟨gb133, 2, none⟩ = some (.string a1_2) := (blk_cell BK133.out 2).trans rfl
                                have hfz360_0 := blk_frozen BK133.out 0
                                have hfz360_1 := blk_frozen BK133.out 1
                                have hfz360_2 := blk_frozen BK133.out 2
                                have hcz361_0 : wc.cell? ⟨gb134, 0, none⟩ = some (.int .i64 a2_0) := (blk_cell BK134.out 0).trans rfl
                                have hcz361_1 : wc.cell? ⟨gb134, 1, none⟩ = some (.int .i64 a2_1) := (blk_cell BK134.out 1).trans rfl
                                have hcz361_2 : wc.cell? ⟨gb134, 2, none⟩ = some (.string a2_2) := (blk_cell BK134.out 2).trans rfl
                                have hfz361_0 := blk_frozen BK134.out 0
                                have hfz361_1 := blk_frozen BK134.out 1
                                have hfz361_2 := blk_frozen BK134.out 2
                                go_wp2
                                go_ret2
                                exact ⟨by first | rfl | (simp [errW_none, errW_some] <;> rfl) | (simp [*, errW_none, errW_some] <;> rfl), by repeat (first | (with_reducible first | exact HB.out | apply below_alloc | apply pw_below_drewN | apply below_drew1 | refine below_set ?_ GE133.out | refine below_set ?_ GE134.out) | exact HB.out)⟩
                              · rw [if_neg c358] at H
                                have c358b0 : decide (0 < t135) = false := decide_eq_false c358
                                clear c358
                                by_cases c362 : a0 = 18
                                · rw [if_pos c362] at H
                                  have c362b0 : (a0 == 18) = true := beq_iff_eq.mpr c362
                                  have c362b1 : (a0 != 18) = false := bne_eq_false_iff_eq.mpr c362
                                  clear c362
                                  by_cases c363 : t135 ≥ 0
                                  · rw [if_pos c363] at H
                                    have c363b0 : decide (0 ≤ t135) = true := decide_eq_true c363
                                    clear c363
                                    simp only [Option.some.injEq, Prod.mk.injEq] at H
                                    obtain ⟨rfl, rfl⟩ := H
                                    have hnb364 := NB133_134.out
                                    have hnc364 := NB134_133.out
                                    have hcz365_0 : wc.cell? ⟨gb133, 0, none⟩ = some (.int .i64 a1_0) := (blk_cell BK133.out 0).trans rfl
                                    have hcz365_1 : wc.cell? ⟨gb133, 1, none⟩ = some (.int .i64 a1_1) := (blk_cell BK133.out 1).trans rfl
                                    have hcz365_2 : wc.cell? ⟨gb133, 2, none⟩ = some (.string a1_2) := (blk_cell BK133.out 2).trans rfl
                                    have hfz365_0 := blk_frozen BK133.out 0
                                    have hfz365_1 := blk_frozen BK133.out 1
                                    have hfz365_2 := blk_frozen BK133.out 2
                                    have hcz366_0 : wc.cell? ⟨gb134, 0, none⟩ = some (.int .i64 a2_0) := (blk_cell BK134.out 0).trans rfl
                                    have hcz366_1 : wc.cell? ⟨gb134, 1, none⟩ = some (.int .i64 a2_1) := (blk_cell BK134.out 1).trans rfl
                                    have hcz366_2 : wc.cell? ⟨gb134, 2, none⟩ = some (.string a2_2) := (blk_cell BK134.out 2).trans rfl
                                    have hfz366_0 := blk_frozen BK134.out 0
                                    have hfz366_1 := blk_frozen BK134.out 1
                                    have hfz366_2 := blk_frozen BK134.out 2
                                    go_wp2
                                    go_ret2
                                    exact ⟨by first | rfl | (simp [errW_none, errW_some] <;> rfl) | (simp [*, errW_none, errW_some] <;> rfl), by repeat (first | (with_reducible first | exact HB.out | apply below_alloc | apply pw_below_drewN | apply below_drew1 | refine below_set ?_ GE133.out | refine below_set ?_ GE134.out) | exact HB.out)⟩
                                  · rw [if_neg c363] at H
                                    have c363b0 : decide (0 ≤ t135) = false := decide_eq_false c363
                                    clear c363
                                    simp only [Option.some.injEq, Prod.mk.injEq] at H
                                    obtain ⟨rfl, rfl⟩ := H
                                    have hnb367 := NB133_134.out
                                    have hnc367 := NB134_133.out
                                    have hcz368_0 : wc.cell? ⟨gb133, 0, none⟩ = some (.int .i64 a1_0) := (blk_cell BK133.out 0).trans rfl
                                    have hcz368_1 : wc.cell? ⟨gb133, 1, none⟩ = some (.int .i64 a1_1) := (blk_cell BK133.out 1).trans rfl
                                    have hcz368_2 : wc.cell? ⟨gb133, 2, none⟩ = some (.string a1_2) := (blk_cell BK133.out 2).trans rfl
                                    have hfz368_0 := blk_frozen BK133.out 0
                                    have hfz368_1 := blk_frozen BK133.out 1
                                    have hfz368_2 := blk_frozen BK133.out 2
                                    have hcz369_0 : wc.cell? ⟨gb134, 0, none⟩ = some (.int .i64 a2_0) := (blk_cell BK134.out 0).trans rfl
                                    have hcz369_1 : wc.cell? ⟨gb134, 1, none⟩ = some (.int .i64 a2_1) := (blk_cell BK134.out 1).trans rfl
                                    have hcz369_2 : wc.cell? ⟨gb134, 2, none⟩ = some (.string a2_2) := (blk_cell BK134.out 2).trans rfl
                                    have hfz369_0 := blk_frozen BK134.out 0
                                    have hfz369_1 := blk_frozen BK134.out 1
                                    have hfz369_2 := blk_frozen BK134.out 2
                                    go_wp2
                                    go_ret2
                                    exact ⟨by first | rfl | (simp [errW_none, errW_some] <;> rfl) | (simp [*, errW_none, errW_some] <;> rfl), by repeat (first | (with_reducible first | exact HB.out | apply below_alloc | apply pw_below_drewN | apply below_drew1 | refine below_set ?_ GE133.out | refine below_set ?_ GE134.out) | exact HB.out)⟩
                                · rw [if_neg c362] at H
                                  have c362b0 : (a0 == 18) = false := beq_eq_false_iff_ne.mpr c362
                                  have c362b1 : (a0 != 18) = true := bne_iff_ne.mpr c362
                                  simp only [Option.some.injEq, Prod.mk.injEq] at H
                                  obtain ⟨rfl, rfl⟩ := H
                                  have hnb370 := NB133_134.out
                                  have hnc370 := NB134_133.out
                                  have hcz371_0 : wc.cell? ⟨gb133, 0, none⟩ = some (.int .i64 a1_0) := (blk_cell BK133.out 0).trans rfl
                                  have hcz371_1 : wc.cell? ⟨gb133, 1, none⟩ = some (.int .i64 a1_1) := (blk_cell BK133.out 1).trans rfl
                                  have hcz371_2 : wc.cell? ⟨gb133, 2, none⟩ = some (.string a1_2) := (blk_cell BK133.out 2).trans rfl
                                  have hfz371_0 := blk_frozen BK133.out 0
                                  have hfz371_1 := blk_frozen BK133.out 1
                                  have hfz371_2 := blk_frozen BK133.out 2
                                  have hcz372_0 : wc.cell? ⟨gb134, 0, none⟩ = some (.int .i64 a2_0) := (blk_cell BK134.out 0).trans rfl
                                  have hcz372_1 : wc.cell? ⟨gb134, 1, none⟩ = some (.int .i64 a2_1) := (blk_cell BK134.out 1).trans rfl
                                  have hcz372_2 : wc.cell? ⟨gb134, 2, none⟩ = some (.string a2_2) := (blk_cell BK134.out 2).trans rfl
                                  have hfz372_0 := blk_frozen BK134.out 0
                                  have hfz372_1 := blk_frozen BK134.out 1
                                  have hfz372_2 := blk_frozen BK134.out 2
                                  go_wp2
                                  go_ret2
                                  exact ⟨by first | rfl | (simp [errW_none, errW_some] <;> rfl) | (simp [*, errW_none, errW_some] <;> rfl), by repeat (first | (with_reducible first | exact HB.out | apply below_alloc | apply pw_below_drewN | apply below_drew1 | refine below_set ?_ GE133.out | refine below_set ?_ GE134.out) | exact HB.out)⟩
                            · rw [if_neg c357] at H
                              have c357b0 : (a0 == 17) = false := beq_eq_false_iff_ne.mpr c357
                              have c357b1 : (a0 != 17) = true := bne_iff_ne.mpr c357
                              by_cases c373 : a0 = 18
                              · rw [if_pos c373] at H
                                have c373b0 : (a0 == 18) = true := beq_iff_eq.mpr c373
                                have c373b1 : (a0 != 18) = false := bne_eq_false_iff_eq.mpr c373
                                clear c373
                                by_cases c374 : t135 ≥ 0
                                · rw [if_pos c374] at H
                                  have c374b0 : decide (0 ≤ t135) = true := decide_eq_true c374
                                  clear c374
                                  simp only [Option.some.injEq, Prod.mk.injEq] at H
                                  obtain ⟨rfl, rfl⟩ := H
                                  have hnb375 := NB133_134.out
                                  have hnc375 := NB134_133.out
                                  have hcz376_0 : wc.cell? ⟨gb133, 0, none⟩ = some (.int .i64 a1_0) := (blk_cell BK133.out 0).trans rfl
                                  have hcz376_1 : wc.cell? ⟨gb133, 1, none⟩ = some (.int .i64 a1_1) := (blk_cell BK133.out 1).trans rfl
                                  have hcz376_2 : wc.cell? ⟨gb133, 2, none⟩ = some (.string a1_2) := (blk_cell BK133.out 2).trans rfl
                                  have hfz376_0 := blk_frozen BK133.out 0
                                  have hfz376_1 := blk_frozen BK133.out 1
                                  have hfz376_2 := blk_frozen BK133.out 2
                                  have hcz377_0 : wc.cell? ⟨gb134, 0, none⟩ = some (.int .i64 a2_0) := (blk_cell BK134.out 0).trans rfl
                                  have hcz377_1 : wc.cell? ⟨gb134, 1, none⟩ = some (.int .i64 a2_1) := (blk_cell BK134.out 1).trans rfl
                                  have hcz377_2 : wc.cell? ⟨gb134, 2, none⟩ = some (.string a2_2) := (blk_cell BK134.out 2).trans rfl
                                  have hfz377_0 := blk_frozen BK134.out 0
                                  have hfz377_1 := blk_frozen BK134.out 1
                                  have hfz377_2 := blk_frozen BK134.out 2
                                  go_wp2
                                  go_ret2
                                  exact ⟨by first | rfl | (simp [errW_none, errW_some] <;> rfl) | (simp [*, errW_none, errW_some] <;> rfl), by repeat (first | (with_reducible first | exact HB.out | apply below_alloc | apply pw_below_drewN | apply below_drew1 | refine below_set ?_ GE133.out | refine below_set ?_ GE134.out) | exact HB.out)⟩
                                · rw [if_neg c374] at H
                                  have c374b0 : decide (0 ≤ t135) = false := decide_eq_false c374
                                  clear c374
                                  simp only [Option.some.injEq, Prod.mk.injEq] at H
                                  obtain ⟨rfl, rfl⟩ := H
                                  have hnb378 := NB133_134.out
                                  have hnc378 := NB134_133.out
                                  have hcz379_0 : wc.cell? ⟨gb133, 0, none⟩ = some (.int .i64 a1_0) := (blk_cell BK133.out 0).trans rfl
                                  have hcz379_1 : wc.cell? ⟨gb133, 1, none⟩ = some (.int .i64 a1_1) := (blk_cell BK133.out 1).trans rfl
                                  have hcz379_2 : wc.cell? ⟨gb133, 2, none⟩ = some (.string a1_2) := (blk_cell BK133.out 2).trans rfl
                                  have hfz379_0 := blk_frozen BK133.out 0
                                  have hfz379_1 := blk_frozen BK133.out 1
                                  have hfz379_2 := blk_frozen BK133.out 2
                                  have hcz380_0 : wc.cell? ⟨gb134, 0, none⟩ = some (.int .i64 a2_0) := (blk_cell BK134.out 0).trans rfl
                                  have hcz380_1 : wc.cell? ⟨gb134, 1, none⟩ = some (.int .i64 a2_1) := (blk_cell BK134.out 1).trans rfl
                                  have hcz380_2 : wc.cell? ⟨gb134, 2, none⟩ = some (.string a2_2) := (blk_cell BK134.out 2).trans rfl
                                  have hfz380_0 := blk_frozen BK134.out 0
                                  have hfz380_1 := blk_frozen BK134.out 1
                                  have hfz380_2 := blk_frozen BK134.out 2
                                  go_wp2
                                  go_ret2
                                  exact ⟨by first | rfl | (simp [errW_none, errW_some] <;> rfl) | (simp [*, errW_none, errW_some] <;> rfl), by repeat (first | (with_reducible first | exact HB.out | apply below_alloc | apply pw_below_drewN | apply below_drew1 | refine below_set ?_ GE133.out | refine below_set ?_ GE134.out) | exact HB.out)⟩
                              · rw [if_neg c373] at H
                                have c373b0 : (a0 == 18) = false := beq_eq_false_iff_ne.mpr c373
                                have c373b1 : (a0 != 18) = true := bne_iff_ne.mpr c373
                                simp only [Option.some.injEq, Prod.mk.injEq] at H
                                obtain ⟨rfl, rfl⟩ := H
                                have hnb381 := NB133_134.out
                                have hnc381 := NB134_133.out
                                have hcz382_0 : wc.cell? ⟨gb133, 0, none⟩ = some (.int .i64 a1_0) := (blk_cell BK133.out 0).trans rfl
                                have hcz382_1 : wc.cell? ⟨gb133, 1, none⟩ = some (.int .i64 a1_1) := (blk_cell BK133.out 1).trans rfl
                                have hcz382_2 : wc.cell? ⟨gb133, 2, none⟩ = some (.string a1_2) := (blk_cell BK133.out 2).trans rfl
                                have hfz382_0 := blk_frozen BK133.out 0
                                have hfz382_1 := blk_frozen BK133.out 1
                                have hfz382_2 := blk_frozen BK133.out 2
                                have hcz383_0 : wc.cell? ⟨gb134, 0, none⟩ = some (.int .i64 a2_0) := (blk_cell BK134.out 0).trans rfl
                                have hcz383_1 : wc.cell? ⟨gb134, 1, none⟩ = some (.int .i64 a2_1) := (blk_cell BK134.out 1).trans rfl
                                have hcz383_2 : wc.cell? ⟨gb134, 2, none⟩ = some (.string a2_2) := (blk_cell BK134.out 2).trans rfl
                                have hfz383_0 := blk_frozen BK134.out 0
                                have hfz383_1 := blk_frozen BK134.out 1
                                have hfz383_2 := blk_frozen BK134.out 2
                                go_wp2
                                go_ret2
                                exact ⟨by first | rfl | (simp [errW_none, errW_some] <;> rfl) | (simp [*, errW_none, errW_some] <;> rfl), by repeat (first | (with_reducible first | exact HB.out | apply below_alloc | apply pw_below_drewN | apply below_drew1 | refine below_set ?_ GE133.out | refine below_set ?_ GE134.out) | exact HB.out)⟩
                        · rw [if_neg c352] at H
                          have c352b0 : (a0 == 16) = false := beq_eq_false_iff_ne.mpr c352
                          have c352b1 : (a0 != 16) = true := bne_iff_ne.mpr c352
                          by_cases c384 : a0 = 17
                          · rw [if_pos c384] at H
                            have c384b0 : (a0 == 17) = true := beq_iff_eq.mpr c384
                            have c384b1 : (a0 != 17) = false := bne_eq_false_iff_eq.mpr c384
                            clear c384
                            by_cases c385 : t135 > 0
                            · rw [if_pos c385] at H
                              have c385b0 : decide (0 < t135) = true := decide_eq_true c385
                              clear c385
                              simp only [Option.some.injEq, Prod.mk.injEq] at H
                              obtain ⟨rfl, rfl⟩ := H
                              have hnb386 := NB133_134.out
                              have hnc386 := NB134_133.out
                              have hcz387_0 : wc.cell? ⟨gb133, 0, none⟩ = some (.int .i64 a1_0) := (blk_cell BK133.out 0).trans rfl
                              have hcz387_1 : wc.cell? ⟨gb133, 1, none⟩ = some (.int .i64 a1_1) := (blk_cell BK133.out 1).trans rfl
                              have hcz387_2 : wc.cell? ⟨gb133, 2, none⟩ = some (.string a1_2) := (blk_cell BK133.out 2).trans rfl
                              have hfz387_0 := blk_frozen BK133.out 0
                              have hfz387_1 := blk_frozen BK133.out 1
                              have hfz387_2 := blk_frozen BK133.out 2
                              have hcz388_0 : wc.cell? ⟨gb134, 0, none⟩ = some (.int .i64 a2_0) := (blk_cell BK134.out 0).trans rfl
                              have hcz388_1 : wc.cell? ⟨gb134, 1, none⟩ = some (.int .i64 a2_1) := (blk_cell BK134.out 1).trans rfl
                              have hcz388_2 : wc.cell? ⟨gb134, 2, none⟩ = some (.string a2_2) := (blk_cell BK134.out 2).trans rfl
                              have hfz388_0 := blk_frozen BK134.out 0
                              have hfz388_1 := blk_frozen BK134.out 1
                              have hfz388_2 := blk_frozen BK134.out 2
                              go_wp2
                              go_ret2
                              exact ⟨by first | rfl | (simp [errW_none, errW_some] <;> rfl) | (simp [*, errW_none, errW_some] <;> rfl), by repeat (first | (with_reducible first | exact HB.out | apply below_alloc | apply pw_below_drewN | apply below_drew1 | refine below_set ?_ GE133.out | refine below_set ?_ GE134.out) | exact HB.out)⟩
                            · rw [if_neg c385] at H
                              have c385b0 : decide (0 < t135) = false := decide_eq_false c385
                              clear c385
                              by_cases c389 : a0 = 18
                              · rw [if_pos c389] at H
                                have c389b0 : (a0 == 18) = true := beq_iff_eq.mpr c389
                                have c389b1 : (a0 != 18) = false := bne_eq_false_iff_eq.mpr c389
                                clear c389
                                by_cases c390 : t135 ≥ 0
                                · rw [if_pos c390] at H
                                  have c390b0 : decide (0 ≤ t135) = true := decide_eq_true c390
                                  clear c390
                                  simp only [Option.some.injEq, Prod.mk.injEq] at H
                                  obtain ⟨rfl, rfl⟩ := H
                                  have hnb391 := NB133_134.out
                                  have hnc391 := NB134_133.out
                                  have hcz392_0 : wc.cell? ⟨gb133, 0, none⟩ = some (.int .i64 a1_0) := (blk_cell BK133.out 0).trans rfl
                                  have hcz392_1 : wc.cell? ⟨gb133, 1, none⟩ = some (.int .i64 a1_1) := (blk_cell BK133.out 1).trans rfl
                                  have hcz392_2 : wc.cell? ⟨gb133, 2, none⟩ = some (.string a1_2) := (blk_cell BK133.out 2).trans rfl
                                  have hfz392_0 := blk_frozen BK133.out 0
                                  have hfz392_1 := blk_frozen BK133.out 1
                                  have hfz392_2 := blk_frozen BK133.out 2
                                  have hcz393_0 : wc.cell? ⟨gb134, 0, none⟩ = some (.int .i64 a2_0) := (blk_cell BK134.out 0).trans rfl
                                  have hcz393_1 : wc.cell? ⟨gb134, 1, none⟩ = some (.int .i64 a2_1) := (blk_cell BK134.out 1).trans rfl
                                  have hcz393_2 : wc.cell? ⟨gb134, 2, none⟩ = some (.string a2_2) := (blk_cell BK134.out 2).trans rfl
                                  have hfz393_0 := blk_frozen BK134.out 0
                                  have hfz393_1 := blk_frozen BK134.out 1
                                  have hfz393_2 := blk_frozen BK134.out 2
                                  go_wp2
                                  go_ret2
                                  exact ⟨by first | rfl | (simp [errW_none, errW_some] <;> rfl) | (simp [*, errW_none, errW_some] <;> rfl), by repeat (first | (with_reducible first | exact HB.out | apply below_alloc | apply pw_below_drewN | apply below_drew1 | refine below_set ?_ GE133.out | refine below_set ?_ GE134.out) | exact HB.out)⟩
                                · rw [if_neg c390] at H
                                  have c390b0 : decide (0 ≤ t135) = false := decide_eq_false c390
                                  clear c390
                                  simp only [Option.some.injEq, Prod.mk.injEq] at H
                                  obtain ⟨rfl, rfl⟩ := H
                                  have hnb394 := NB133_134.out
                                  have hnc394 := NB134_133.out
                                  have hcz395_0 : wc.cell? ⟨gb133, 0, none⟩ = some (.int .i64 a1_0) := (blk_cell BK133.out 0).trans rfl
                                  have hcz395_1 : wc.cell? ⟨gb133, 1, none⟩ = some (.int .i64 a1_1) := (blk_cell BK133.out 1).trans rfl
                                  have hcz395_2 : wc.cell? ⟨gb133, 2, none⟩ = some (.string a1_2) := (blk_cell BK133.out 2).trans rfl
                                  have hfz395_0 := blk_frozen BK133.out 0
                                  have hfz395_1 := blk_frozen BK133.out 1
                                  have hfz395_2 := blk_frozen BK133.out 2
                                  have hcz396_0 : wc.cell? ⟨gb134, 0, none⟩ = some (.int .i64 a2_0) := (blk_cell BK134.out 0).trans rfl
                                  have hcz396_1 : wc.cell? ⟨gb134, 1, none⟩ = some (.int .i64 a2_1) := (blk_cell BK134.out 1).trans rfl
                                  have hcz396_2 : wc.cell? ⟨gb134, 2, none⟩ = some (.string a2_2) := (blk_cell BK134.out 2).trans rfl
                                  have hfz396_0 := blk_frozen BK134.out 0
                                  have hfz396_1 := blk_frozen BK134.out 1
                                  have hfz396_2 := blk_frozen BK134.out 2
                                  go_wp2
                                  go_ret2
                                  exact ⟨by first | rfl | (simp [errW_none, errW_some] <;> rfl) | (simp [*, errW_none, errW_some] <;> rfl), by repeat (first | (with_reducible first | exact HB.out | apply below_alloc | apply pw_below_drewN | apply below_drew1 | refine below_set ?_ GE133.out | refine below_set ?_ GE134.out) | exact HB.out)⟩
                              · rw [if_neg c389] at H
                                have c389b0 : (a0 == 18) = false := beq_eq_false_iff_ne.mpr c389
                                have c389b1 : (a0 != 18) = true := bne_iff_ne.mpr c389
                                simp only [Option.some.injEq, Prod.mk.injEq] at H
                                obtain ⟨rfl, rfl⟩ := H
                                have hnb397 := NB133_134.out
                                have hnc397 := NB134_133.out
                                have hcz398_0 : wc.cell? ⟨gb133, 0, none⟩ = some (.int .i64 a1_0) := (blk_cell BK133.out 0).trans rfl
                                have hcz398_1 : wc.cell? ⟨gb133, 1, none⟩ = some (.int .i64 a1_1) := (blk_cell BK133.out 1).trans rfl
                                have hcz398_2 : wc.cell? ⟨gb133, 2, none⟩ = some (.string a1_2) := (blk_cell BK133.out 2).trans rfl
                                have hfz398_0 := blk_frozen BK133.out 0
                                have hfz398_1 := blk_frozen BK133.out 1
                                have hfz398_2 := blk_frozen BK133.out 2
                                have hcz399_0 : wc.cell? ⟨gb134, 0, none⟩ = some (.int .i64 a2_0) := (blk_cell BK134.out 0).trans rfl
                                have hcz399_1 : wc.cell? ⟨gb134, 1, none⟩ = some (.int .i64 a2_1) := (blk_cell BK134.out 1).trans rfl
                                have hcz399_2 : wc.cell? ⟨gb134, 2, none⟩ = some (.string a2_2) := (blk_cell BK134.out 2).trans rfl
                                have hfz399_0 := blk_frozen BK134.out 0
                                have hfz399_1 := blk_frozen BK134.out 1
                                have hfz399_2 := blk_frozen BK134.out 2
                                go_wp2
                                go_ret2
                                exact ⟨by first | rfl | (simp [errW_none, errW_some] <;> rfl) | (simp [*, errW_none, errW_some] <;> rfl), by repeat (first | (with_reducible first | exact HB.out | apply below_alloc | apply pw_below_drewN | apply below_drew1 | refine below_set ?_ GE133.out | refine below_set ?_ GE134.out) | exact HB.out)⟩
                          · rw [if_neg c384] at H
                            have c384b0 : (a0 == 17) = false := beq_eq_false_iff_ne.mpr c384
                            have c384b1 : (a0 != 17) = true := bne_iff_ne.mpr c384
                            by_cases c400 : a0 = 18
                            · rw [if_pos c400] at H
                              have c400b0 : (a0 == 18) = true := beq_iff_eq.mpr c400
                              have c400b1 : (a0 != 18) = false := bne_eq_false_iff_eq.mpr c400
                              clear c400
                              by_cases c401 : t135 ≥ 0
                              · rw [if_pos c401] at H
                                have c401b0 : decide (0 ≤ t135) = true := decide_eq_true c401
                                clear c401
                                simp only [Option.some.injEq, Prod.mk.injEq] at H
                                obtain ⟨rfl, rfl⟩ := H
                                have hnb402 := NB133_134.out
                                have hnc402 := NB134_133.out
                                have hcz403_0 : wc.cell? ⟨gb133, 0, none⟩ = some (.int .i64 a1_0) := (blk_cell BK133.out 0).trans rfl
                                have hcz403_1 : wc.cell? ⟨gb133, 1, none⟩ = some (.int .i64 a1_1) := (blk_cell BK133.out 1).trans rfl
                                have hcz403_2 : wc.cell? ⟨gb133, 2, none⟩ = some (.string a1_2) := (blk_cell BK133.out 2).trans rfl
                                have hfz403_0 := blk_frozen BK133.out 0
                                have hfz403_1 := blk_frozen BK133.out 1
                                have hfz403_2 := blk_frozen BK133.out 2
                                have hcz404_0 : wc.cell? ⟨gb134, 0, none⟩ = some (.int .i64 a2_0) := (blk_cell BK134.out 0).trans rfl
                                have hcz404_1 : wc.cell? ⟨gb134, 1, none⟩ = some (.int .i64 a2_1) := (blk_cell BK134.out 1).trans rfl
                                have hcz404_2 : wc.cell? ⟨gb134, 2, none⟩ = some (.string a2_2) := (blk_cell BK134.out 2).trans rfl
                                have hfz404_0 := blk_frozen BK134.out 0
                                have hfz404_1 := blk_frozen BK134.out 1
                                have hfz404_2 := blk_frozen BK134.out 2
                                go_wp2
                                go_ret2
                                exact ⟨by first | rfl | (simp [errW_none, errW_some] <;> rfl) | (simp [*, errW_none, errW_some] <;> rfl), by repeat (first | (with_reducible first | exact HB.out | apply below_alloc | apply pw_below_drewN | apply below_drew1 | refine below_set ?_ GE133.out | refine below_set ?_ GE134.out) | exact HB.out)⟩
                              · rw [if_neg c401] at H
                                have c401b0 : decide (0 ≤ t135) = false := decide_eq_false c401
                                clear c401
                                simp only [Option.some.injEq, Prod.mk.injEq] at H
                                obtain ⟨rfl, rfl⟩ := H
                                have hnb405 := NB133_134.out
                                have hnc405 := NB134_133.out
                                have hcz406_0 : wc.cell? ⟨gb133, 0, none⟩ = some (.int .i64 a1_0) := (blk_cell BK133.out 0).trans rfl
                                have hcz406_1 : wc.cell? ⟨gb133, 1, none⟩ = some (.int .i64 a1_1) := (blk_cell BK133.out 1).trans rfl
                                have hcz406_2 : wc.cell? ⟨gb133, 2, none⟩ = some (.string a1_2) := (blk_cell BK133.out 2).trans rfl
                                have hfz406_0 := blk_frozen BK133.out 0
                                have hfz406_1 := blk_frozen BK133.out 1
                                have hfz406_2 := blk_frozen BK133.out 2
                                have hcz407_0 : wc.cell? ⟨gb134, 0, none⟩ = some (.int .i64 a2_0) := (blk_cell BK134.out 0).trans rfl
                                have hcz407_1 : wc.cell? ⟨gb134, 1, none⟩ = some (.int .i64 a2_1) := (blk_cell BK134.out 1).trans rfl
                                have hcz407_2 : wc.cell? ⟨gb134, 2, none⟩ = some (.string a2_2) := (blk_cell BK134.out 2).trans rfl
                                have hfz407_0 := blk_frozen BK134.out 0
                                have hfz407_1 := blk_frozen BK134.out 1
                                have hfz407_2 := blk_frozen BK134.out 2
                                go_wp2
                                go_ret2
                                exact ⟨by first | rfl | (simp [errW_none, errW_some] <;> rfl) | (simp [*, errW_none, errW_some] <;> rfl), by repeat (first | (with_reducible first | exact HB.out | apply below_alloc | apply pw_below_drewN | apply below_drew1 | refine below_set ?_ GE133.out | refine below_set ?_ GE134.out) | exact HB.out)⟩
                            · rw [if_neg c400] at H
                              have c400b0 : (a0 == 18) = false := beq_eq_false_iff_ne.mpr c400
                              have c400b1 : (a0 != 18) = true := bne_iff_ne.mpr c400
                              simp only [Option.some.injEq, Prod.mk.injEq] at H
                              obtain ⟨rfl, rfl⟩ := H
                              have hnb408 := NB133_134.out
                              have hnc408 := NB134_133.out
                              have hcz409_0 : wc.cell? ⟨gb133, 0, none⟩ = some (.int .i64 a1_0) := (blk_cell BK133.out 0).trans rfl
                              have hcz409_1 : wc.cell? ⟨gb133, 1, none⟩ = some (.int .i64 a1_1) := (blk_cell BK133.out 1).trans rfl
                              have hcz409_2 : wc.cell? ⟨gb133, 2, none⟩ = some (.string a1_2) := (blk_cell BK133.out 2).trans rfl
                              have hfz409_0 := blk_frozen BK133.out 0
                              have hfz409_1 := blk_frozen BK133.out 1
                              have hfz409_2 := blk_frozen BK133.out 2
                              have hcz410_0 : wc.cell? ⟨gb134, 0, none⟩ = some (.int .i64 a2_0) := (blk_cell BK134.out 0).trans rfl
                              have hcz410_1 : wc.cell? ⟨gb134, 1, none⟩ = some (.int .i64 a2_1) := (blk_cell BK134.out 1).trans rfl
                              have hcz410_2 : wc.cell? ⟨gb134, 2, none⟩ = some (.string a2_2) := (blk_cell BK134.out 2).trans rfl
                              have hfz410_0 := blk_frozen BK134.out 0
                              have hfz410_1 := blk_frozen BK134.out 1
                              have hfz410_2 := blk_frozen BK134.out 2
                              go_wp2
                              go_ret2
                              exact ⟨by first | rfl | (simp [errW_none, errW_some] <;> rfl) | (simp [*, errW_none, errW_some] <;> rfl), by repeat (first | (with_reducible first | exact HB.out | apply below_alloc | apply pw_below_drewN | apply below_drew1 | refine below_set ?_ GE133.out | refine below_set ?_ GE134.out) | exact HB.out)⟩
                · rw [if_neg c27] at H
                  have c27b0 : (a1_0 == a2_0) = false := beq_eq_false_iff_ne.mpr c27
                  have c27b1 : (a1_0 != a2_0) = true := bne_iff_ne.mpr c27
                  simp only [Option.some.injEq, Prod.mk.injEq] at H
                  obtain ⟨rfl, rfl⟩ := H
                  have hnb411 := NB133_134.out
                  have hnc411 := NB134_133.out
                  have hcz412_0 : wc.cell? ⟨gb133, 0, none⟩ = some (.int .i64 a1_0) := (blk_cell BK133.out 0).trans rfl
                  have hcz412_1 : wc.cell? ⟨gb133, 1, none⟩ = some (.int .i64 a1_1) := (blk_cell BK133.out 1).trans rfl
                  have hcz412_2 : wc.cell? ⟨gb133, 2, none⟩ = some (.string a1_2) := (blk_cell BK133.out 2).trans rfl
                  have hfz412_0 := blk_frozen BK133.out 0
                  have hfz412_1 := blk_frozen BK133.out 1
                  have hfz412_2 := blk_frozen BK133.out 2
                  have hcz413_0 : wc.cell? ⟨gb134, 0, none⟩ = some (.int .i64 a2_0) := (blk_cell BK134.out 0).trans rfl
                  have hcz413_1 : wc.cell? ⟨gb134, 1, none⟩ = some (.int .i64 a2_1) := (blk_cell BK134.out 1).trans rfl
                  have hcz413_2 : wc.cell? ⟨gb134, 2, none⟩ = some (.string a2_2) := (blk_cell BK134.out 2).trans rfl
                  have hfz413_0 := blk_frozen BK134.out 0
                  have hfz413_1 := blk_frozen BK134.out 1
                  have hfz413_2 := blk_frozen BK134.out 2
                  go_wp2
                  go_ret2
                  exact ⟨by first | rfl | (simp [errW_none, errW_some] <;> rfl) | (simp [*, errW_none, errW_some] <;> rfl), by repeat (first | (with_reducible first | exact HB.out | apply below_alloc | apply pw_below_drewN | apply below_drew1 | refine below_set ?_ GE133.out | refine below_set ?_ GE134.out) | exact HB.out)⟩
        · rw [if_neg c14] at H
          have c14b0 : (t136 == 0) = false := beq_eq_false_iff_ne.mpr c14
          have c14b1 : (t136 != 0) = true := bne_iff_ne.mpr c14
          simp only [Option.some.injEq, Prod.mk.injEq] at H
          obtain ⟨rfl, rfl⟩ := H
          have hnb414 := NB133_134.out
          have hnc414 := NB134_133.out
          have hcz415_0 : wc.cell? ⟨gb133, 0, none⟩ = some (.int .i64 a1_0) := (blk_cell BK133.out 0).trans rfl
          have hcz415_1 : wc.cell? ⟨gb133, 1, none⟩ = some (.int .i64 a1_1) := (blk_cell BK133.out 1).trans rfl
          have hcz415_2 : wc.cell? ⟨gb133, 2, none⟩ = some (.string a1_2) := (blk_cell BK133.out 2).trans rfl
          have hfz415_0 := blk_frozen BK133.out 0
          have hfz415_1 := blk_frozen BK133.out 1
          have hfz415_2 := blk_frozen BK133.out 2
          have hcz416_0 : wc.cell? ⟨gb134, 0, none⟩ = some (.int .i64 a2_0) := (blk_cell BK134.out 0).trans rfl
          have hcz416_1 : wc.cell? ⟨gb134, 1, none⟩ = some (.int .i64 a2_1) := (blk_cell BK134.out 1).trans rfl
          have hcz416_2 : wc.cell? ⟨gb134, 2, none⟩ = some (.string a2_2) := (blk_cell BK134.out 2).trans rfl
          have hfz416_0 := blk_frozen BK134.out 0
          have hfz416_1 := blk_frozen BK134.out 1
          have hfz416_2 := blk_frozen BK134.out 2
          go_wp2_with (first | ((with_reducible refine gate_callee (f := 20) rfl ?_); refine goesL_ (some 35) rfl rfl Tryd.func20 (by kernel_rfl) rfl #[.agg #[.int .i64 a1_0, .int .i64 a1_1, .string a1_2], .agg #[.int .i64 a2_0, .int .i64 a2_1, .string a2_2]] rfl (by (try simp only [List.map_toArray, List.map_cons, List.map_nil]); first | done | rfl | (simp only [List.length_drop, List.length_take]; rfl)) ?_; (with_reducible refine (commonholdref_ValueOrder.calls kj3 a1_0 a1_1 a1_2 a2_0 a2_1 a2_2 t135 t136 _ A13.out).mono ?_); rintro e w417 ⟨rfl, hb⟩; refine ⟨_, rfl, ?_⟩; have n0_ := Aside0.mk (blk_below (g := gb133) (o := .cells #[.int .i64 a1_0, .int .i64 a1_1, .string a1_2] 23 (0, 0)) (by (with_reducible repeat (first | refine blk_drewN ?_ _ | refine blk_drew ?_ | refine blk_alloc ?_ _)); exact BK133.out) hb); have n1_ := Aside0.mk (blk_below (g := gb134) (o := .cells #[.int .i64 a2_0, .int .i64 a2_1, .string a2_2] 23 (0, 0)) (by (with_reducible repeat (first | refine blk_drewN ?_ _ | refine blk_drew ?_ | refine blk_alloc ?_ _)); exact BK134.out) hb); have n2_ := Aside0.mk (below_step (by repeat (first | (with_reducible first | exact HB.out | apply below_alloc | apply pw_below_drewN | apply below_drew1 | refine below_set ?_ GE133.out | refine below_set ?_ GE134.out) | exact HB.out)) hb); clear BK133; clear BK134; clear HB; have BK133 := n0_; have BK134 := n1_; have HB := n2_; clear n0_ n1_ n2_; (try clear hb); (try clear hb2); (try clear hk); (try clear hi)))
          go_ret2
          exact ⟨by first | rfl | (simp [errW_none, errW_some] <;> rfl) | (simp [*, errW_none, errW_some] <;> rfl), by repeat (first | (with_reducible first | exact HB.out | apply below_alloc | apply pw_below_drewN | apply below_drew1 | refine below_set ?_ GE133.out | refine below_set ?_ GE134.out) | exact HB.out)⟩

end Go.Proofs.YtdepkigheacdnaaDoor.PValueCompares
