-- Written by wip/pp of this repo (over the kit's print, with additions of this session); Lean checks every line.
import Derived.Test.YtdepkigheacdnaaDoorPRowSpansx0
import Derived.Test.YtdepkigheacdnaaDoorPRowSpansx1
namespace Go.Proofs.YtdepkigheacdnaaDoor.PRowSpans
open Go.RowKit Go.Proofs.YtdepkigheacdnaaDoorW.PrintWords Go.Proofs.YtdepkigheacdnaaDoorW.PrintLast Go.Proofs.YtdepkigheacdnaaDoorW.PrintMore
attribute [local go_sem] max2_int min2_int max_two min_two max_three min_three max_four min_four   -- for this text's walks alone
set_option linter.unusedVariables false
set_option linter.unusedSimpArgs false

attribute [local go_sem high] eqA23
/-! ### utf8_word_string: function 68 -/
def utf8_word_string.f (a0 : ByteArray) : Option (Int) := if 0 < (a0.size : Int) then (if 1 < (a0.size : Int) then (if 2 < (a0.size : Int) then (if 3 < (a0.size : Int) then (if 4 < (a0.size : Int) then (if 5 < (a0.size : Int) then (if 6 < (a0.size : Int) then (if 7 < (a0.size : Int) then (some (Go.bits .or .u64 (Go.bits .or .u64 (Go.bits .or .u64 (Go.bits .or .u64 (Go.bits .or .u64 (Go.bits .or .u64 (Go.bits .or .u64 (IntKind.u64.wrap (bt a0 0)) (IntKind.u64.wrap ((IntKind.u64.wrap (bt a0 1)) * 256))) (IntKind.u64.wrap ((IntKind.u64.wrap (bt a0 2)) * 65536))) (IntKind.u64.wrap ((IntKind.u64.wrap (bt a0 3)) * 16777216))) (IntKind.u64.wrap ((IntKind.u64.wrap (bt a0 4)) * 4294967296))) (IntKind.u64.wrap ((IntKind.u64.wrap (bt a0 5)) * 1099511627776))) (IntKind.u64.wrap ((IntKind.u64.wrap (bt a0 6)) * 281474976710656))) (IntKind.u64.wrap ((IntKind.u64.wrap (bt a0 7)) * 72057594037927936)))) else (none)) else (none)) else (none)) else (none)) else (none)) else (none)) else (none)) else (none)
set_option maxHeartbeats 8000000 in
set_option maxRecDepth 100000 in
theorem utf8_word_string.calls (a0 : ByteArray) (r : Int) (w : World) (h : utf8_word_string.f a0 = some r) :
    Calls Tryd.prog 68 #[.string a0] w fun e w' => e = .returned (.int .u64 r) ∧ Drawn0 w w' := by
  have H : (if 0 < (a0.size : Int) then (if 1 < (a0.size : Int) then (if 2 < (a0.size : Int) then (if 3 < (a0.size : Int) then (if 4 < (a0.size : Int) then (if 5 < (a0.size : Int) then (if 6 < (a0.size : Int) then (if 7 < (a0.size : Int) then (some (Go.bits .or .u64 (Go.bits .or .u64 (Go.bits .or .u64 (Go.bits .or .u64 (Go.bits .or .u64 (Go.bits .or .u64 (Go.bits .or .u64 (IntKind.u64.wrap (bt a0 0)) (IntKind.u64.wrap ((IntKind.u64.wrap (bt a0 1)) * 256))) (IntKind.u64.wrap ((IntKind.u64.wrap (bt a0 2)) * 65536))) (IntKind.u64.wrap ((IntKind.u64.wrap (bt a0 3)) * 16777216))) (IntKind.u64.wrap ((IntKind.u64.wrap (bt a0 4)) * 4294967296))) (IntKind.u64.wrap ((IntKind.u64.wrap (bt a0 5)) * 1099511627776))) (IntKind.u64.wrap ((IntKind.u64.wrap (bt a0 6)) * 281474976710656))) (IntKind.u64.wrap ((IntKind.u64.wrap (bt a0 7)) * 72057594037927936)))) else (none)) else (none)) else (none)) else (none)) else (none)) else (none)) else (none)) else (none)) = some r := h
  clear h
  by_cases c2 : 0 < (a0.size : Int)
  · rw [if_pos c2] at H
    have c2b0 : decide (0 < (a0.size : Int)) = true := decide_eq_true c2
    have c2b1 : decide (0 < a0.size) = true := decide_eq_true (by omega)
    clear c2
    by_cases c4 : 1 < (a0.size : Int)
    · rw [if_pos c4] at H
      have c4b0 : decide (1 < (a0.size : Int)) = true := decide_eq_true c4
      have c4b1 : decide (1 < a0.size) = true := decide_eq_true (by omega)
      clear c4
      by_cases c6 : 2 < (a0.size : Int)
      · rw [if_pos c6] at H
        have c6b0 : decide (2 < (a0.size : Int)) = true := decide_eq_true c6
        have c6b1 : decide (2 < a0.size) = true := decide_eq_true (by omega)
        clear c6
        by_cases c8 : 3 < (a0.size : Int)
        · rw [if_pos c8] at H
          have c8b0 : decide (3 < (a0.size : Int)) = true := decide_eq_true c8
          have c8b1 : decide (3 < a0.size) = true := decide_eq_true (by omega)
          clear c8
          by_cases c10 : 4 < (a0.size : Int)
          · rw [if_pos c10] at H
            have c10b0 : decide (4 < (a0.size : Int)) = true := decide_eq_true c10
            have c10b1 : decide (4 < a0.size) = true := decide_eq_true (by omega)
            clear c10
            by_cases c12 : 5 < (a0.size : Int)
            · rw [if_pos c12] at H
              have c12b0 : decide (5 < (a0.size : Int)) = true := decide_eq_true c12
              have c12b1 : decide (5 < a0.size) = true := decide_eq_true (by omega)
              clear c12
              by_cases c14 : 6 < (a0.size : Int)
              · rw [if_pos c14] at H
                have c14b0 : decide (6 < (a0.size : Int)) = true := decide_eq_true c14
                have c14b1 : decide (6 < a0.size) = true := decide_eq_true (by omega)
                clear c14
                by_cases c16 : 7 < (a0.size : Int)
                · rw [if_pos c16] at H
                  have c16b0 : decide (7 < (a0.size : Int)) = true := decide_eq_true c16
                  have c16b1 : decide (7 < a0.size) = true := decide_eq_true (by omega)
                  clear c16
                  obtain rfl := Option.some.inj H
                  have p3 : 0 ≤ (0 : Int) := (by omega)
                  have q3 : 0 < a0.size := (by have : (0 : Int) < (a0.size : Int) := of_decide_eq_true (by first | (with_reducible assumption) | assumption); omega)
                  have hx3 : ∀ h : 0 < a0.size, ((a0[0]'h).toNat : Int) = bt a0 0 := bt_at a0 0
                  clear p3
                  have qi3 : (0 < (a0.size : Int)) = True := eq_true (of_decide_eq_true (by first | (with_reducible assumption) | assumption))
                  replace q3 := eq_true q3
                  have p5 : 0 ≤ (1 : Int) := (by omega)
                  have q5 : 1 < a0.size := (by have : (1 : Int) < (a0.size : Int) := of_decide_eq_true (by first | (with_reducible assumption) | assumption); omega)
                  have hx5 : ∀ h : 1 < a0.size, ((a0[1]'h).toNat : Int) = bt a0 1 := bt_at a0 1
                  clear p5
                  have qi5 : (1 < (a0.size : Int)) = True := eq_true (of_decide_eq_true (by first | (with_reducible assumption) | assumption))
                  replace q5 := eq_true q5
                  have p7 : 0 ≤ (2 : Int) := (by omega)
                  have q7 : 2 < a0.size := (by have : (2 : Int) < (a0.size : Int) := of_decide_eq_true (by first | (with_reducible assumption) | assumption); omega)
                  have hx7 : ∀ h : 2 < a0.size, ((a0[2]'h).toNat : Int) = bt a0 2 := bt_at a0 2
                  clear p7
                  have qi7 : (2 < (a0.size : Int)) = True := eq_true (of_decide_eq_true (by first | (with_reducible assumption) | assumption))
                  replace q7 := eq_true q7
                  have p9 : 0 ≤ (3 : Int) := (by omega)
                  have q9 : 3 < a0.size := (by have : (3 : Int) < (a0.size : Int) := of_decide_eq_true (by first | (with_reducible assumption) | assumption); omega)
                  have hx9 : ∀ h : 3 < a0.size, ((a0[3]'h).toNat : Int) = bt a0 3 := bt_at a0 3
                  clear p9
                  have qi9 : (3 < (a0.size : Int)) = True := eq_true (of_decide_eq_true (by first | (with_reducible assumption) | assumption))
                  replace q9 := eq_true q9
                  have p11 : 0 ≤ (4 : Int) := (by omega)
                  have q11 : 4 < a0.size := (by have : (4 : Int) < (a0.size : Int) := of_decide_eq_true (by first | (with_reducible assumption) | assumption); omega)
                  have hx11 : ∀ h : 4 < a0.size, ((a0[4]'h).toNat : Int) = bt a0 4 := bt_at a0 4
                  clear p11
                  have qi11 : (4 < (a0.size : Int)) = True := eq_true (of_decide_eq_true (by first | (with_reducible assumption) | assumption))
                  replace q11 := eq_true q11
                  have p13 : 0 ≤ (5 : Int) := (by omega)
                  have q13 : 5 < a0.size := (by have : (5 : Int) < (a0.size : Int) := of_decide_eq_true (by first | (with_reducible assumption) | assumption); omega)
                  have hx13 : ∀ h : 5 < a0.size, ((a0[5]'h).toNat : Int) = bt a0 5 := bt_at a0 5
                  clear p13
                  have qi13 : (5 < (a0.size : Int)) = True := eq_true (of_decide_eq_true (by first | (with_reducible assumption) | assumption))
                  replace q13 := eq_true q13
                  have p15 : 0 ≤ (6 : Int) := (by omega)
                  have q15 : 6 < a0.size := (by have : (6 : Int) < (a0.size : Int) := of_decide_eq_true (by first | (with_reducible assumption) | assumption); omega)
                  have hx15 : ∀ h : 6 < a0.size, ((a0[6]'h).toNat : Int) = bt a0 6 := bt_at a0 6
                  clear p15
                  have qi15 : (6 < (a0.size : Int)) = True := eq_true (of_decide_eq_true (by first | (with_reducible assumption) | assumption))
                  replace q15 := eq_true q15
                  have p17 : 0 ≤ (7 : Int) := (by omega)
                  have q17 : 7 < a0.size := (by have : (7 : Int) < (a0.size : Int) := of_decide_eq_true (by first | (with_reducible assumption) | assumption); omega)
                  have hx17 : ∀ h : 7 < a0.size, ((a0[7]'h).toNat : Int) = bt a0 7 := bt_at a0 7
                  clear p17
                  have qi17 : (7 < (a0.size : Int)) = True := eq_true (of_decide_eq_true (by first | (with_reducible assumption) | assumption))
                  replace q17 := eq_true q17
                  go_enter Tryd.func68, Tryd.ntmps68
                  go_wp2
                  repeat (go_quiet (fail); try go_wp2)
                  go_ret
                  exact ⟨by first | rfl | (simp; done) | (simp [*]; done), by repeat (first | exact Drawn0.refl _ | apply Drawn0.step)⟩
                · rw [if_neg c16] at H
                  exact absurd H (by simp)
              · rw [if_neg c14] at H
                exact absurd H (by simp)
            · rw [if_neg c12] at H
              exact absurd H (by simp)
          · rw [if_neg c10] at H
            exact absurd H (by simp)
        · rw [if_neg c8] at H
          exact absurd H (by simp)
      · rw [if_neg c6] at H
        exact absurd H (by simp)
    · rw [if_neg c4] at H
      exact absurd H (by simp)
  · rw [if_neg c2] at H
    exact absurd H (by simp)

/-! ### utf8_ValidString: function 43, by hand -/
-- HAND rounds=0 making=1 laid=1 imports=Derived.Shelf.Unicode.ValidAny,Derived.Lib.LaidU8T,Derived.Test.YtdepkigheacdnaaDoorShelfV
/-- Is a text valid UTF-8? -/
def utf8_ValidString.f (a0 : ByteArray) : Option (Bool) := if a0.size ≤ 9223372036854775807 then some (Lib.validD a0.data.toList) else none
section
open Go.Shelf
set_option maxRecDepth 100000 in
theorem LD.first_tab : (Rows.laid_unicode_utf8_first : DataW Unit) = Lib.firstData := by kernel_rfl
theorem LD.accept_tab : (Rows.laid_unicode_utf8_acceptRanges : DataW Unit) = Lib.acceptData := by kernel_rfl
theorem LD.tabs {w : World} (h : LD w) : Lib.Utf8Tabs (Tryd.laysValid_ren.g 3) (Tryd.laysValid_ren.g 4) w := by
  obtain ⟨L0, h1, h2⟩ := h
  exact Utf8Tabs_below (utf8Tabs_of_readsT (U8Types.of196 Tryd.laysValid) ⟨by kernel_rfl, by kernel_rfl, by kernel_rfl, by kernel_rfl, by kernel_rfl, by kernel_rfl, by kernel_rfl⟩
    (Lib.laidMet.reads h1 (by rw [← LD.first_tab]; exact LD.in_unicode_utf8_first)) (Lib.laidMet.reads h1 (by rw [← LD.accept_tab]; exact LD.in_unicode_utf8_acceptRanges))) h2
theorem utf8_ValidString.calls (a0 : ByteArray) (r : Bool) (w : World) (hL : LD w) (h : utf8_ValidString.f a0 = some r) :
    Calls Tryd.prog 43 #[.string a0] w fun e w' => e = .returned (.bool r) ∧ Below w.heap.size w w' := by
  unfold utf8_ValidString.f at h
  by_cases hs : a0.size ≤ 9223372036854775807
  · rw [if_pos hs] at h
    cases h
    exact Any.utf8_ValidString Tryd.laysValid a0 w hs hL.tabs
  · rw [if_neg hs] at h
    cases h
end

/-! ### value_Check: function 15 -/
def value_Check.j0 : Nat → Bool → Int → Int → ByteArray → Option (Int)
  | 0, _, _, _, _ => none
  | k + 1, x11, x102000, x102001, x102002 => if x11 = true then (some 3) else (if (x102002.size : Int) > 40 then (some 1) else (if x102000 = 0 then (if ((x102000 == 0 && (x102001 == 0 && (x102002.toList == ([] : List UInt8)))) = true) then (some 0) else (some 4)) else (if x102000 = 1 then (if (Go.bits .or .i64 x102001 1) = 1 then (if (x102002.toList = ([] : List UInt8)) then (some 0) else (some 4)) else (some 4)) else (if x102000 = 2 then (if (x102002.toList = ([] : List UInt8)) then (some 0) else (some 4)) else (if x102000 = 3 then (if x102001 = 0 then ((utf8_ValidString.f x102002).bind fun t102 => (if t102 = true then (some 0) else (some 4))) else (some 4)) else (some 0))))))
def value_Check.f (k : Nat) (a0_0 : Int) (a0_1 : Int) (a0_2 : ByteArray) : Option (Int) := if a0_0 < 0 then (value_Check.j0 k true a0_0 a0_1 a0_2) else (value_Check.j0 k (decide (a0_0 > 3)) a0_0 a0_1 a0_2)
theorem value_Check.mono_l : ∀ k, (∀ y0 y1 y2 y3, LeO (value_Check.j0 k y0 y1 y2 y3) (value_Check.j0 (k + 1) y0 y1 y2 y3))
  | 0 => fun _ _ _ _ r h => by simp [value_Check.j0] at h
  | k + 1 => by
    have ih0 := value_Check.mono_l k
    · intro y0 y1 y2 y3
      unfold value_Check.j0
      repeat' first
      | (with_reducible exact ih0 _ _ _ _)
      | (with_reducible exact LeO.refl _)
      | (with_reducible exact LeO.none _)
      | (with_reducible refine LeO.ite ?_ ?_)
      | (with_reducible refine LeO.bind ?_ (fun _ => ?_))
      | exact ih0 _ _ _ _
      | exact LeO.none _
      | refine LeO.ite ?_ ?_
      | refine LeO.bind ?_ (fun _ => ?_)
theorem value_Check.mono : ∀ a0 a1 a2 k, LeO (value_Check.f k a0 a1 a2) (value_Check.f (k + 1) a0 a1 a2) := by
  intro a0 a1 a2 k
  have ih0 := value_Check.mono_l k
  unfold value_Check.f
  repeat' first
      | (with_reducible exact ih0 _ _ _ _)
      | (with_reducible exact LeO.refl _)
      | (with_reducible exact LeO.none _)
      | (with_reducible refine LeO.ite ?_ ?_)
      | (with_reducible refine LeO.bind ?_ (fun _ => ?_))
      | exact ih0 _ _ _ _
      | exact LeO.none _
      | refine LeO.ite ?_ ?_
      | refine LeO.bind ?_ (fun _ => ?_)
set_option maxHeartbeats 8000000 in
set_option maxRecDepth 100000 in
theorem value_Check.calls (k : Nat) (a0_0 : Int) (a0_1 : Int) (a0_2 : ByteArray) (r : Int) (w : World) (hL : LD w) (h : value_Check.f k a0_0 a0_1 a0_2 = some r) :
    Calls Tryd.prog 15 #[.agg #[.int .i64 a0_0, .int .i64 a0_1, .string a0_2]] w fun e w' => e = .returned (.int .i64 r) ∧ Below w.heap.size w w' := by
  have hu23 := Tryd.underlying23
  have HLD := Aside0.mk hL
  clear hL
  have HB := Aside0.mk (Below.refl w.heap.size w)
  have H : (if a0_0 < 0 then (value_Check.j0 k true a0_0 a0_1 a0_2) else (value_Check.j0 k (decide (a0_0 > 3)) a0_0 a0_1 a0_2)) = some r := h
  clear h
  have HC2 := Aside0.mk H
  clear H
  go_enter Tryd.func15, Tryd.ntmps15
  go_upto_region 1 with (first | ((with_reducible refine gate_dst (N := 1) rfl ?_); refine box_event ?hg (N := 1) ?hd (cs := #[.int .i64 a0_0, .int .i64 a0_1, .string a0_2]) (t := 23) ?hr ?_; (case hd => rfl); (case hg => rfl); (case hr => first | (go_simp; done) | (go_simp; rfl)); intro gb101 hg w3 hbox hb; have n0_ := Aside0.mk (below_step (by repeat (first | (with_reducible first | exact HB.out | apply below_alloc | apply pw_below_drewN | apply below_drew1) | exact HB.out)) hb); have n1_ := Aside0.mk (hbox); have n2_ := Aside0.mk ((by rw [hg]; exact (below_size (by repeat (first | (with_reducible first | exact HB.out | apply below_alloc | apply pw_below_drewN | apply below_drew1) | exact HB.out))) : w.heap.size ≤ gb101)); have n3_ := Aside0.mk ((by rw [hg]; exact (below_size (by repeat (first | (with_reducible first | exact HB.out | apply below_alloc | apply pw_below_drewN | apply below_drew1) | exact HB.out))) : w.heap.size ≤ gb101)); clear HB; have HB := n0_; have BK101 := n1_; have GW101 := n2_; have GE101 := n3_; clear n0_ n1_ n2_ n3_; clear hb hbox hg))
  (try simp only [Act.put, List.setIfInBounds_toArray, List.set_cons_zero, List.set_cons_succ])
  go_cut [11] (fun v11 wc => ∃ (kq : Nat) (x11_1 : Bool), v11 = .bool x11_1 ∧ Aside0 (value_Check.j0 kq x11_1 a0_0 a0_1 a0_2 = some r) ∧ Aside0 (kq ≤ k) ∧ Aside0 (wc.heap[gb101]? = some (.cells #[.int .i64 a0_0, .int .i64 a0_1, .string a0_2] 23 (0, 0))) ∧ Aside0 (Below w.heap.size w wc))
  case first =>
    have H := HC2.out
    clear HC2
    by_cases c4 : a0_0 < 0
    · rw [if_pos c4] at H
      have c4b0 : decide (a0_0 < 0) = true := decide_eq_true c4
      clear c4
      (first | rw [c4b0] | (simp only [i64_w, i32_w]; rw [c4b0]) | skip)
      have H' := Aside0.mk H
      clear H
      have hcz5_0 : w3.cell? ⟨gb101, 0, none⟩ = some (.int .i64 a0_0) := (blk_cell BK101.out 0).trans rfl
      have hcz5_1 : w3.cell? ⟨gb101, 1, none⟩ = some (.int .i64 a0_1) := (blk_cell BK101.out 1).trans rfl
      have hcz5_2 : w3.cell? ⟨gb101, 2, none⟩ = some (.string a0_2) := (blk_cell BK101.out 2).trans rfl
      have hfz5_0 := blk_frozen BK101.out 0
      have hfz5_1 := blk_frozen BK101.out 1
      have hfz5_2 := blk_frozen BK101.out 2
      go_wp2
      go_meet
      case rel => exact ⟨_, (true), (by first | rfl | (simp; done) | (simp [*]; done)), H', ⟨by first | omega | exact Nat.le_refl _⟩, ⟨by (with_reducible repeat (first | refine blk_drewN ?_ _ | refine blk_drew ?_ | refine blk_alloc ?_ _)); exact BK101.out⟩, ⟨by repeat (first | (with_reducible first | exact HB.out | apply below_alloc | apply pw_below_drewN | apply below_drew1 | refine below_set ?_ GE101.out) | exact HB.out)⟩⟩
    · rw [if_neg c4] at H
      have c4b0 : decide (a0_0 < 0) = false := decide_eq_false c4
      clear c4
      (first | rw [c4b0] | (simp only [i64_w, i32_w]; rw [c4b0]) | skip)
      have H' := Aside0.mk H
      clear H
      have hcz6_0 : w3.cell? ⟨gb101, 0, none⟩ = some (.int .i64 a0_0) := (blk_cell BK101.out 0).trans rfl
      have hcz6_1 : w3.cell? ⟨gb101, 1, none⟩ = some (.int .i64 a0_1) := (blk_cell BK101.out 1).trans rfl
      have hcz6_2 : w3.cell? ⟨gb101, 2, none⟩ = some (.string a0_2) := (blk_cell BK101.out 2).trans rfl
      have hfz6_0 := blk_frozen BK101.out 0
      have hfz6_1 := blk_frozen BK101.out 1
      have hfz6_2 := blk_frozen BK101.out 2
      go_wp2
      go_meet
      case rel => exact ⟨_, (decide (a0_0 > 3)), (by first | rfl | (simp; done) | (simp [*]; done)), H', ⟨by first | omega | exact Nat.le_refl _⟩, ⟨by (with_reducible repeat (first | refine blk_drewN ?_ _ | refine blk_drew ?_ | refine blk_alloc ?_ _)); exact BK101.out⟩, ⟨by repeat (first | (with_reducible first | exact HB.out | apply below_alloc | apply pw_below_drewN | apply below_drew1 | refine below_set ?_ GE101.out) | exact HB.out)⟩⟩
  case rest =>
    clear HC2
    try clear c1
    try clear p2
    try clear c4
    try clear c4b0
    try clear hcz5_0
    try clear hcz5_1
    try clear hcz5_2
    try clear hcz6_0
    try clear hcz6_1
    try clear hcz6_2
    try clear hfz5_0
    try clear hfz5_1
    try clear hfz5_2
    try clear hfz6_0
    try clear hfz6_1
    try clear hfz6_2
    obtain ⟨kq, x11_1, rfl, HA, HJ1, BK101, HB⟩ := hcut
    cases kq with
    | zero => exact absurd HA.out (by simp [value_Check.j0])
    | succ kj1 =>
      have H := HA.out
      clear HA
      simp only [value_Check.j0] at H
      by_cases c7 : x11_1 = true
      · subst c7
        have H1 : (some 3) = some r := by rw [if_pos rfl] at H; exact H
        clear H
        have H := H1
        clear H1
        obtain rfl := Option.some.inj H
        go_wp2
        go_ret
        exact ⟨by first | rfl | (simp [errW_none, errW_some] <;> rfl) | (simp [*, errW_none, errW_some] <;> rfl), by repeat (first | (with_reducible first | exact HB.out | apply below_alloc | apply pw_below_drewN | apply below_drew1 | refine below_set ?_ GE101.out) | exact HB.out)⟩
      · replace c7 := Bool.eq_false_iff.mpr c7
        subst c7
        have H1 : (if (a0_2.size : Int) > 40 then (some 1) else (if a0_0 = 0 then (if ((a0_0 == 0 && (a0_1 == 0 && (a0_2.toList == ([] : List UInt8)))) = true) then (some 0) else (some 4)) else (if a0_0 = 1 then (if (Go.bits .or .i64 a0_1 1) = 1 then (if (a0_2.toList = ([] : List UInt8)) then (some 0) else (some 4)) else (some 4)) else (if a0_0 = 2 then (if (a0_2.toList = ([] : List UInt8)) then (some 0) else (some 4)) else (if a0_0 = 3 then (if a0_1 = 0 then ((utf8_ValidString.f a0_2).bind fun t102 => (if t102 = true then (some 0) else (some 4))) else (some 4)) else (some 0)))))) = some r := by rw [if_neg (show ¬ (false = true) by decide)] at H; exact H
        clear H
        have H := H1
        clear H1
        by_cases c8 : (a0_2.size : Int) > 40
        · rw [if_pos c8] at H
          have c8b0 : decide (40 < (a0_2.size : Int)) = true := decide_eq_true c8
          have c8b1 : decide (40 < a0_2.size) = true := decide_eq_true (by omega)
          clear c8
          obtain rfl := Option.some.inj H
          have hcz9_0 : wc.cell? ⟨gb101, 0, none⟩ = some (.int .i64 a0_0) := (blk_cell BK101.out 0).trans rfl
          have hcz9_1 : wc.cell? ⟨gb101, 1, none⟩ = some (.int .i64 a0_1) := (blk_cell BK101.out 1).trans rfl
          have hcz9_2 : wc.cell? ⟨gb101, 2, none⟩ = some (.string a0_2) := (blk_cell BK101.out 2).trans rfl
          have hfz9_0 := blk_frozen BK101.out 0
          have hfz9_1 := blk_frozen BK101.out 1
          have hfz9_2 := blk_frozen BK101.out 2
          go_wp2
          go_ret
          exact ⟨by first | rfl | (simp [errW_none, errW_some] <;> rfl) | (simp [*, errW_none, errW_some] <;> rfl), by repeat (first | (with_reducible first | exact HB.out | apply below_alloc | apply pw_below_drewN | apply below_drew1 | refine below_set ?_ GE101.out) | exact HB.out)⟩
        · rw [if_neg c8] at H
          have c8b0 : decide (40 < (a0_2.size : Int)) = false := decide_eq_false c8
          have c8b1 : decide (40 < a0_2.size) = false := decide_eq_false (by omega)
          clear c8
          by_cases c10 : a0_0 = 0
          · rw [if_pos c10] at H
            have c10b0 : (a0_0 == 0) = true := beq_iff_eq.mpr c10
            have c10b1 : (a0_0 != 0) = false := bne_eq_false_iff_eq.mpr c10
            clear c10
            by_cases c11 : ((a0_0 == 0 && (a0_1 == 0 && (a0_2.toList == ([] : List UInt8)))) = true)
            · rw [if_pos c11] at H
              have c11b0 : (a0_0 == 0 && (a0_1 == 0 && (a0_2.toList == ([] : List UInt8)))) = true := c11
              (try (have c11b1 : (a0_0 == 0 && (a0_1 == 0 && a0_2.toList.isEmpty)) = true := by first | simpa using c11 | simpa [*] using c11))
              (try (have c11b2 : (a0_1 == 0 && a0_2.toList.isEmpty) = true := by first | simpa using c11 | simpa [*] using c11))
              (try (have c11b3 : decide (a0_0 = 0 && (a0_1 == 0 && (a0_2.toList == ([] : List UInt8)))) = true := by simpa using c11))
              (try (have c11b4 : (a0_0 == 0 && (a0_1 == 0 && (a0_2.toList == ([] : List UInt8)))) = true := by simpa using c11))
              clear c11
              obtain rfl := Option.some.inj H
              have hcz12_0 : wc.cell? ⟨gb101, 0, none⟩ = some (.int .i64 a0_0) := (blk_cell BK101.out 0).trans rfl
              have hcz12_1 : wc.cell? ⟨gb101, 1, none⟩ = some (.int .i64 a0_1) := (blk_cell BK101.out 1).trans rfl
              have hcz12_2 : wc.cell? ⟨gb101, 2, none⟩ = some (.string a0_2) := (blk_cell BK101.out 2).trans rfl
              have hfz12_0 := blk_frozen BK101.out 0
              have hfz12_1 := blk_frozen BK101.out 1
              have hfz12_2 := blk_frozen BK101.out 2
              go_wp2
              go_ret
              exact ⟨by first | rfl | (simp [errW_none, errW_some] <;> rfl) | (simp [*, errW_none, errW_some] <;> rfl), by repeat (first | (with_reducible first | exact HB.out | apply below_alloc | apply pw_below_drewN | apply below_drew1 | refine below_set ?_ GE101.out) | exact HB.out)⟩
            · rw [if_neg c11] at H
              have c11b0 : (a0_0 == 0 && (a0_1 == 0 && (a0_2.toList == ([] : List UInt8)))) = false := by simpa using c11
              (try (have c11b1 : (a0_0 == 0 && (a0_1 == 0 && a0_2.toList.isEmpty)) = false := by first | simpa using c11 | simpa [*] using c11))
              (try (have c11b2 : (a0_1 == 0 && a0_2.toList.isEmpty) = false := by first | simpa using c11 | simpa [*] using c11))
              (try (have c11b3 : decide (a0_0 = 0 && (a0_1 == 0 && (a0_2.toList == ([] : List UInt8)))) = false := by simpa using c11))
              (try (have c11b4 : (a0_0 == 0 && (a0_1 == 0 && (a0_2.toList == ([] : List UInt8)))) = false := by simpa using c11))
              (try (have c11b5 : ¬ (a0_0 = 0 && (a0_1 == 0 && (a0_2.toList == ([] : List UInt8)))) := by simpa using c11))
              clear c11
              obtain rfl := Option.some.inj H
              have hcz13_0 : wc.cell? ⟨gb101, 0, none⟩ = some (.int .i64 a0_0) := (blk_cell BK101.out 0).trans rfl
              have hcz13_1 : wc.cell? ⟨gb101, 1, none⟩ = some (.int .i64 a0_1) := (blk_cell BK101.out 1).trans rfl
              have hcz13_2 : wc.cell? ⟨gb101, 2, none⟩ = some (.string a0_2) := (blk_cell BK101.out 2).trans rfl
              have hfz13_0 := blk_frozen BK101.out 0
              have hfz13_1 := blk_frozen BK101.out 1
              have hfz13_2 := blk_frozen BK101.out 2
              go_wp2
              go_ret
              exact ⟨by first | rfl | (simp [errW_none, errW_some] <;> rfl) | (simp [*, errW_none, errW_some] <;> rfl), by repeat (first | (with_reducible first | exact HB.out | apply below_alloc | apply pw_below_drewN | apply below_drew1 | refine below_set ?_ GE101.out) | exact HB.out)⟩
          · rw [if_neg c10] at H
            have c10b0 : (a0_0 == 0) = false := beq_eq_false_iff_ne.mpr c10
            have c10b1 : (a0_0 != 0) = true := bne_iff_ne.mpr c10
            by_cases c14 : a0_0 = 1
            · rw [if_pos c14] at H
              have c14b0 : (a0_0 == 1) = true := beq_iff_eq.mpr c14
              have c14b1 : (a0_0 != 1) = false := bne_eq_false_iff_eq.mpr c14
              clear c14
              by_cases c15 : (Go.bits .or .i64 a0_1 1) = 1
              · rw [if_pos c15] at H
                have c15b0 : ((Go.bits .or .i64 a0_1 1) == 1) = true := beq_iff_eq.mpr c15
                have c15b1 : ((Go.bits .or .i64 a0_1 1) != 1) = false := bne_eq_false_iff_eq.mpr c15
                clear c15
                by_cases c16 : (a0_2.toList = ([] : List UInt8))
                · rw [if_pos c16] at H
                  have c16b0 : (a0_2.toList == ([] : List UInt8)) = true := beq_iff_eq.mpr c16
                  have c16b1 : (a0_2.toList != ([] : List UInt8)) = false := bne_eq_false_iff_eq.mpr c16
                  clear c16
                  obtain rfl := Option.some.inj H
                  have hcz17_0 : wc.cell? ⟨gb101, 0, none⟩ = some (.int .i64 a0_0) := (blk_cell BK101.out 0).trans rfl
                  have hcz17_1 : wc.cell? ⟨gb101, 1, none⟩ = some (.int .i64 a0_1) := (blk_cell BK101.out 1).trans rfl
                  have hcz17_2 : wc.cell? ⟨gb101, 2, none⟩ = some (.string a0_2) := (blk_cell BK101.out 2).trans rfl
                  have hfz17_0 := blk_frozen BK101.out 0
                  have hfz17_1 := blk_frozen BK101.out 1
                  have hfz17_2 := blk_frozen BK101.out 2
                  go_wp2
                  go_ret
                  exact ⟨by first | rfl | (simp [errW_none, errW_some] <;> rfl) | (simp [*, errW_none, errW_some] <;> rfl), by repeat (first | (with_reducible first | exact HB.out | apply below_alloc | apply pw_below_drewN | apply below_drew1 | refine below_set ?_ GE101.out) | exact HB.out)⟩
                · rw [if_neg c16] at H
                  have c16b0 : (a0_2.toList == ([] : List UInt8)) = false := beq_eq_false_iff_ne.mpr c16
                  have c16b1 : (a0_2.toList != ([] : List UInt8)) = true := bne_iff_ne.mpr c16
                  obtain rfl := Option.some.inj H
                  have hcz18_0 : wc.cell? ⟨gb101, 0, none⟩ = some (.int .i64 a0_0) := (blk_cell BK101.out 0).trans rfl
                  have hcz18_1 : wc.cell? ⟨gb101, 1, none⟩ = some (.int .i64 a0_1) := (blk_cell BK101.out 1).trans rfl
                  have hcz18_2 : wc.cell? ⟨gb101, 2, none⟩ = some (.string a0_2) := (blk_cell BK101.out 2).trans rfl
                  have hfz18_0 := blk_frozen BK101.out 0
                  have hfz18_1 := blk_frozen BK101.out 1
                  have hfz18_2 := blk_frozen BK101.out 2
                  go_wp2
                  go_ret
                  exact ⟨by first | rfl | (simp [errW_none, errW_some] <;> rfl) | (simp [*, errW_none, errW_some] <;> rfl), by repeat (first | (with_reducible first | exact HB.out | apply below_alloc | apply pw_below_drewN | apply below_drew1 | refine below_set ?_ GE101.out) | exact HB.out)⟩
              · rw [if_neg c15] at H
                have c15b0 : ((Go.bits .or .i64 a0_1 1) == 1) = false := beq_eq_false_iff_ne.mpr c15
                have c15b1 : ((Go.bits .or .i64 a0_1 1) != 1) = true := bne_iff_ne.mpr c15
                obtain rfl := Option.some.inj H
                have hcz19_0 : wc.cell? ⟨gb101, 0, none⟩ = some (.int .i64 a0_0) := (blk_cell BK101.out 0).trans rfl
                have hcz19_1 : wc.cell? ⟨gb101, 1, none⟩ = some (.int .i64 a0_1) := (blk_cell BK101.out 1).trans rfl
                have hcz19_2 : wc.cell? ⟨gb101, 2, none⟩ = some (.string a0_2) := (blk_cell BK101.out 2).trans rfl
                have hfz19_0 := blk_frozen BK101.out 0
                have hfz19_1 := blk_frozen BK101.out 1
                have hfz19_2 := blk_frozen BK101.out 2
                go_wp2
                go_ret
                exact ⟨by first | rfl | (simp [errW_none, errW_some] <;> rfl) | (simp [*, errW_none, errW_some] <;> rfl), by repeat (first | (with_reducible first | exact HB.out | apply below_alloc | apply pw_below_drewN | apply below_drew1 | refine below_set ?_ GE101.out) | exact HB.out)⟩
            · rw [if_neg c14] at H
              have c14b0 : (a0_0 == 1) = false := beq_eq_false_iff_ne.mpr c14
              have c14b1 : (a0_0 != 1) = true := bne_iff_ne.mpr c14
              by_cases c20 : a0_0 = 2
              · rw [if_pos c20] at H
                have c20b0 : (a0_0 == 2) = true := beq_iff_eq.mpr c20
                have c20b1 : (a0_0 != 2) = false := bne_eq_false_iff_eq.mpr c20
                clear c20
                by_cases c21 : (a0_2.toList = ([] : List UInt8))
                · rw [if_pos c21] at H
                  have c21b0 : (a0_2.toList == ([] : List UInt8)) = true := beq_iff_eq.mpr c21
                  have c21b1 : (a0_2.toList != ([] : List UInt8)) = false := bne_eq_false_iff_eq.mpr c21
                  clear c21
                  obtain rfl := Option.some.inj H
                  have hcz22_0 : wc.cell? ⟨gb101, 0, none⟩ = some (.int .i64 a0_0) := (blk_cell BK101.out 0).trans rfl
                  have hcz22_1 : wc.cell? ⟨gb101, 1, none⟩ = some (.int .i64 a0_1) := (blk_cell BK101.out 1).trans rfl
                  have hcz22_2 : wc.cell? ⟨gb101, 2, none⟩ = some (.string a0_2) := (blk_cell BK101.out 2).trans rfl
                  have hfz22_0 := blk_frozen BK101.out 0
                  have hfz22_1 := blk_frozen BK101.out 1
                  have hfz22_2 := blk_frozen BK101.out 2
                  go_wp2
                  go_ret
                  exact ⟨by first | rfl | (simp [errW_none, errW_some] <;> rfl) | (simp [*, errW_none, errW_some] <;> rfl), by repeat (first | (with_reducible first | exact HB.out | apply below_alloc | apply pw_below_drewN | apply below_drew1 | refine below_set ?_ GE101.out) | exact HB.out)⟩
                · rw [if_neg c21] at H
                  have c21b0 : (a0_2.toList == ([] : List UInt8)) = false := beq_eq_false_iff_ne.mpr c21
                  have c21b1 : (a0_2.toList != ([] : List UInt8)) = true := bne_iff_ne.mpr c21
                  obtain rfl := Option.some.inj H
                  have hcz23_0 : wc.cell? ⟨gb101, 0, none⟩ = some (.int .i64 a0_0) := (blk_cell BK101.out 0).trans rfl
                  have hcz23_1 : wc.cell? ⟨gb101, 1, none⟩ = some (.int .i64 a0_1) := (blk_cell BK101.out 1).trans rfl
                  have hcz23_2 : wc.cell? ⟨gb101, 2, none⟩ = some (.string a0_2) := (blk_cell BK101.out 2).trans rfl
                  have hfz23_0 := blk_frozen BK101.out 0
                  have hfz23_1 := blk_frozen BK101.out 1
                  have hfz23_2 := blk_frozen BK101.out 2
                  go_wp2
                  go_ret
                  exact ⟨by first | rfl | (simp [errW_none, errW_some] <;> rfl) | (simp [*, errW_none, errW_some] <;> rfl), by repeat (first | (with_reducible first | exact HB.out | apply below_alloc | apply pw_below_drewN | apply below_drew1 | refine below_set ?_ GE101.out) | exact HB.out)⟩
              · rw [if_neg c20] at H
                have c20b0 : (a0_0 == 2) = false := beq_eq_false_iff_ne.mpr c20
                have c20b1 : (a0_0 != 2) = true := bne_iff_ne.mpr c20
                by_cases c24 : a0_0 = 3
                · rw [if_pos c24] at H
                  have c24b0 : (a0_0 == 3) = true := beq_iff_eq.mpr c24
                  have c24b1 : (a0_0 != 3) = false := bne_eq_false_iff_eq.mpr c24
                  clear c24
                  by_cases c25 : a0_1 = 0
                  · rw [if_pos c25] at H
                    have c25b0 : (a0_1 == 0) = true := beq_iff_eq.mpr c25
                    have c25b1 : (a0_1 != 0) = false := bne_eq_false_iff_eq.mpr c25
                    clear c25
                    replace H := Option.bind_eq_some_iff.mp H
                    obtain ⟨t102, A260, H⟩ := H
                    replace H : (if t102 = true then (some 0) else (some 4)) = some r := H
                    have A26 := Aside0.mk A260
                    clear A260
                    by_cases c27 : t102 = true
                    · subst c27
                      have H1 : (some 0) = some r := by rw [if_pos rfl] at H; exact H
                      clear H
                      have H := H1
                      clear H1
                      obtain rfl := Option.some.inj H
                      have hcz28_0 : wc.cell? ⟨gb101, 0, none⟩ = some (.int .i64 a0_0) := (blk_cell BK101.out 0).trans rfl
                      have hcz28_1 : wc.cell? ⟨gb101, 1, none⟩ = some (.int .i64 a0_1) := (blk_cell BK101.out 1).trans rfl
                      have hcz28_2 : wc.cell? ⟨gb101, 2, none⟩ = some (.string a0_2) := (blk_cell BK101.out 2).trans rfl
                      have hfz28_0 := blk_frozen BK101.out 0
                      have hfz28_1 := blk_frozen BK101.out 1
                      have hfz28_2 := blk_frozen BK101.out 2
                      go_wp2_with (first | (go_at_call 43; (with_reducible refine (utf8_ValidString.calls a0_2 true _ ?side1 A26.out).mono ?_); (case side1 => exact LD.below HLD.out (by first | (with_reducible exact Below.refl _ _) | ((repeat (first | (with_reducible exact Below.refl _ _) | (with_reducible apply below_alloc) | (with_reducible apply pw_below_drewN) | (with_reducible apply below_drew1))); done) | exact (by repeat (first | (with_reducible first | exact HB.out | apply below_alloc | apply pw_below_drewN | apply below_drew1 | refine below_set ?_ GE101.out) | exact HB.out)))); rintro e w29 ⟨rfl, hb⟩; have n0_ := Aside0.mk (blk_below (g := gb101) (o := .cells #[.int .i64 a0_0, .int .i64 a0_1, .string a0_2] 23 (0, 0)) (by (with_reducible repeat (first | refine blk_drewN ?_ _ | refine blk_drew ?_ | refine blk_alloc ?_ _)); exact BK101.out) hb); have n1_ := Aside0.mk (below_step (by repeat (first | (with_reducible first | exact HB.out | apply below_alloc | apply pw_below_drewN | apply below_drew1 | refine below_set ?_ GE101.out) | exact HB.out)) hb); clear BK101; clear HB; have BK101 := n0_; have HB := n1_; clear n0_ n1_; (try clear hb); (try clear hb2); (try clear hk); (try clear hi)))
                      go_ret
                      exact ⟨by first | rfl | (simp [errW_none, errW_some] <;> rfl) | (simp [*, errW_none, errW_some] <;> rfl), by repeat (first | (with_reducible first | exact HB.out | apply below_alloc | apply pw_below_drewN | apply below_drew1 | refine below_set ?_ GE101.out) | exact HB.out)⟩
                    · replace c27 := Bool.eq_false_iff.mpr c27
                      subst c27
                      have H1 : (some 4) = some r := by rw [if_neg (show ¬ (false = true) by decide)] at H; exact H
                      clear H
                      have H := H1
                      clear H1
                      obtain rfl := Option.some.inj H
                      have hcz30_0 : wc.cell? ⟨gb101, 0, none⟩ = some (.int .i64 a0_0) := (blk_cell BK101.out 0).trans rfl
                      have hcz30_1 : wc.cell? ⟨gb101, 1, none⟩ = some (.int .i64 a0_1) := (blk_cell BK101.out 1).trans rfl
                      have hcz30_2 : wc.cell? ⟨gb101, 2, none⟩ = some (.string a0_2) := (blk_cell BK101.out 2).trans rfl
                      have hfz30_0 := blk_frozen BK101.out 0
                      have hfz30_1 := blk_frozen BK101.out 1
                      have hfz30_2 := blk_frozen BK101.out 2
                      go_wp2_with (first | (go_at_call 43; (with_reducible refine (utf8_ValidString.calls a0_2 false _ ?side1 A26.out).mono ?_); (case side1 => exact LD.below HLD.out (by first | (with_reducible exact Below.refl _ _) | ((repeat (first | (with_reducible exact Below.refl _ _) | (with_reducible apply below_alloc) | (with_reducible apply pw_below_drewN) | (with_reducible apply below_drew1))); done) | exact (by repeat (first | (with_reducible first | exact HB.out | apply below_alloc | apply pw_below_drewN | apply below_drew1 | refine below_set ?_ GE101.out) | exact HB.out)))); rintro e w31 ⟨rfl, hb⟩; have n0_ := Aside0.mk (blk_below (g := gb101) (o := .cells #[.int .i64 a0_0, .int .i64 a0_1, .string a0_2] 23 (0, 0)) (by (with_reducible repeat (first | refine blk_drewN ?_ _ | refine blk_drew ?_ | refine blk_alloc ?_ _)); exact BK101.out) hb); have n1_ := Aside0.mk (below_step (by repeat (first | (with_reducible first | exact HB.out | apply below_alloc | apply pw_below_drewN | apply below_drew1 | refine below_set ?_ GE101.out) | exact HB.out)) hb); clear BK101; clear HB; have BK101 := n0_; have HB := n1_; clear n0_ n1_; (try clear hb); (try clear hb2); (try clear hk); (try clear hi)))
                      go_ret
                      exact ⟨by first | rfl | (simp [errW_none, errW_some] <;> rfl) | (simp [*, errW_none, errW_some] <;> rfl), by repeat (first | (with_reducible first | exact HB.out | apply below_alloc | apply pw_below_drewN | apply below_drew1 | refine below_set ?_ GE101.out) | exact HB.out)⟩
                  · rw [if_neg c25] at H
                    have c25b0 : (a0_1 == 0) = false := beq_eq_false_iff_ne.mpr c25
                    have c25b1 : (a0_1 != 0) = true := bne_iff_ne.mpr c25
                    obtain rfl := Option.some.inj H
                    have hcz32_0 : wc.cell? ⟨gb101, 0, none⟩ = some (.int .i64 a0_0) := (blk_cell BK101.out 0).trans rfl
                    have hcz32_1 : wc.cell? ⟨gb101, 1, none⟩ = some (.int .i64 a0_1) := (blk_cell BK101.out 1).trans rfl
                    have hcz32_2 : wc.cell? ⟨gb101, 2, none⟩ = some (.string a0_2) := (blk_cell BK101.out 2).trans rfl
                    have hfz32_0 := blk_frozen BK101.out 0
                    have hfz32_1 := blk_frozen BK101.out 1
                    have hfz32_2 := blk_frozen BK101.out 2
                    go_wp2
                    go_ret
                    exact ⟨by first | rfl | (simp [errW_none, errW_some] <;> rfl) | (simp [*, errW_none, errW_some] <;> rfl), by repeat (first | (with_reducible first | exact HB.out | apply below_alloc | apply pw_below_drewN | apply below_drew1 | refine below_set ?_ GE101.out) | exact HB.out)⟩
                · rw [if_neg c24] at H
                  have c24b0 : (a0_0 == 3) = false := beq_eq_false_iff_ne.mpr c24
                  have c24b1 : (a0_0 != 3) = true := bne_iff_ne.mpr c24
                  obtain rfl := Option.some.inj H
                  have hcz33_0 : wc.cell? ⟨gb101, 0, none⟩ = some (.int .i64 a0_0) := (blk_cell BK101.out 0).trans rfl
                  have hcz33_1 : wc.cell? ⟨gb101, 1, none⟩ = some (.int .i64 a0_1) := (blk_cell BK101.out 1).trans rfl
                  have hcz33_2 : wc.cell? ⟨gb101, 2, none⟩ = some (.string a0_2) := (blk_cell BK101.out 2).trans rfl
                  have hfz33_0 := blk_frozen BK101.out 0
                  have hfz33_1 := blk_frozen BK101.out 1
                  have hfz33_2 := blk_frozen BK101.out 2
                  go_wp2
                  go_ret
                  exact ⟨by first | rfl | (simp [errW_none, errW_some] <;> rfl) | (simp [*, errW_none, errW_some] <;> rfl), by repeat (first | (with_reducible first | exact HB.out | apply below_alloc | apply pw_below_drewN | apply below_drew1 | refine below_set ?_ GE101.out) | exact HB.out)⟩

/-! ### key_grow: function 49, by hand -/
-- HAND rounds=0 making=1 imports=Derived.Lib.ConvBytes
-- INFO 5
def key_grow.f (_a0 : Int) : Option Int := none
/-- The bytes of a text, as they stand in a key. -/
def key_grow.esc (l : List Int) : List Int := l.flatMap fun x => if x = 0 then [0, 255] else [x]
/-- The byte at place i of eight, the highest first. -/
def key_grow.byte (n : Int) (i : Nat) : Int := n / 2 ^ (56 - 8 * i) % 256
def key_grow.bytes (n : Int) (j : Nat) : List Int := (List.range j).map (key_grow.byte n)
/-- A value in a key. -/
def key_grow.enc (a b : Int) (s : ByteArray) : List Int :=
  if a = 0 then [1] else if a = 1 then [(2 + b) % 256]
  else if a = 2 then 4 :: key_grow.bytes (Go.bits .xor .u64 (IntKind.u64.wrap b) 9223372036854775808) 8
  else 5 :: (key_grow.esc (bytesOf s) ++ [0, 1])
theorem key_grow.bytes_length (n : Int) (j : Nat) : (key_grow.bytes n j).length = j := by simp [key_grow.bytes]
theorem key_grow.bytes_succ (n : Int) (j : Nat) : key_grow.bytes n (j + 1) = key_grow.bytes n j ++ [key_grow.byte n j] := by simp [key_grow.bytes, List.range_succ]
theorem key_grow.b0 (n : Int) : key_grow.byte n 0 = n / 72057594037927936 % 256 := by simp [key_grow.byte]
theorem key_grow.b1 (n : Int) : key_grow.byte n 1 = n / 281474976710656 % 256 := by simp [key_grow.byte]
theorem key_grow.b2 (n : Int) : key_grow.byte n 2 = n / 1099511627776 % 256 := by simp [key_grow.byte]
theorem key_grow.b3 (n : Int) : key_grow.byte n 3 = n / 4294967296 % 256 := by simp [key_grow.byte]
theorem key_grow.b4 (n : Int) : key_grow.byte n 4 = n / 16777216 % 256 := by simp [key_grow.byte]
theorem key_grow.b5 (n : Int) : key_grow.byte n 5 = n / 65536 % 256 := by simp [key_grow.byte]
theorem key_grow.b6 (n : Int) : key_grow.byte n 6 = n / 256 % 256 := by simp [key_grow.byte]
theorem key_grow.b7 (n : Int) : key_grow.byte n 7 = n % 256 := by simp [key_grow.byte]
theorem key_grow.esc_take (l : List Int) (j : Nat) (h : j < l.length) : key_grow.esc (l.take (j + 1)) = key_grow.esc (l.take j) ++ (if l[j] = 0 then [0, 255] else [l[j]]) := by
  rw [List.take_succ_eq_append_getElem h, key_grow.esc, List.flatMap_append]
  simp [key_grow.esc]
theorem key_grow.esc_le (l : List Int) (j : Nat) : (key_grow.esc (l.take j)).length ≤ (key_grow.esc l).length := by
  have h : (key_grow.esc (l.take j) ++ key_grow.esc (l.drop j)).length = (key_grow.esc l).length := by
    unfold key_grow.esc
    rw [← List.flatMap_append, List.take_append_drop]
  rw [List.length_append] at h
  omega
theorem key_grow.esc_ge (l : List Int) : l.length ≤ (key_grow.esc l).length := by
  induction l with
  | nil => exact Nat.le_refl _
  | cons x r ih =>
    have e : key_grow.esc (x :: r) = (if x = 0 then [0, 255] else [x]) ++ key_grow.esc r := by simp [key_grow.esc]
    rw [e, List.length_append, List.length_cons]
    split <;> simp <;> omega
theorem key_grow.lit2 {w : World} {b : Nat} {x y : Int} (h0 : w.cell? ⟨b, 0, none⟩ = some (.int .u8 x)) (h1 : w.cell? ⟨b, 1, none⟩ = some (.int .u8 y)) :
    Kd.C (Kd.int .u8) w (some ⟨b, 0, none⟩) [x, y].length [x, y] := by
  refine ⟨rfl, by simp, fun _ => ⟨_, rfl, fun j q hq => ⟨[.int .u8 q], rfl, rfl, fun i u hu => ?_⟩⟩⟩
  obtain rfl : i = 0 := by
    rcases i with _ | i
    · rfl
    · simp at hu
  obtain rfl : Value.int .u8 q = u := by simpa using hu
  rw [show (⟨b, 0, none⟩ : Addr).add (j * (Kd.int .u8).sz + 0) = ⟨b, j, none⟩ from by rw [add_plain]; show (⟨_, j * 1 + 0, none⟩ : Addr) = _; simp]
  have hj : j < 2 := (List.getElem?_eq_some_iff.1 hq).1
  have hj' : j = 0 ∨ j = 1 := by omega
  rcases hj' with rfl | rfl <;> (simp at hq; subst hq; assumption)
set_option maxRecDepth 100000 in
set_option maxHeartbeats 4000000 in
theorem key_grow.null (w0 w : World) (A0 : Option Addr) (c0 : Nat) (xs : List Int) (a b : Int) (s : ByteArray) (ho : Kd.R (Kd.int .u8) 5 w w0.heap.size (fun _ => True) (.slice A0 xs.length c0) xs) (hb : Below w0.heap.size w0 w)
    (hl : xs.length + (key_grow.enc a b s).length < 140737488355328) (ha : a = 0) :
    Calls Tryd.prog 49 #[.slice A0 xs.length c0, .agg #[.int .i64 a, .int .i64 b, .string s]] w fun e w' => ∃ v : Value, e = .returned v ∧ Kd.R (Kd.int .u8) 5 w' w0.heap.size (fun _ => True) v (xs ++ key_grow.enc a b s) ∧ Below w0.heap.size w0 w' := by
  subst ha
  have HO := Aside0.mk ho
  have HB := Aside0.mk hb
  have LM := Aside0.mk (show xs.length + 1 < 140737488355328 from hl)
  have he : key_grow.enc 0 b s = [1] := rfl
  rw [he]
  clear ho hb hl he
  go_enter Tryd.func49, Tryd.ntmps49
  go_wp2_with (at_builtin; refine Kd.R_append (Kd.int .u8) (w0 := w0) w0.heap.size rfl _ _ 34 5 (.int .u8 0) 1 rfl Tryd.underlying34 info5 rfl (by decide) (by omega) (.slice A0 xs.length c0) (xs) ?np1 _ (fun _ => True) (fun _ => False) rfl ?hx ?aP (fun _ hk => hk.elim) ?aF ?aO ?aB ?aS ?aL ?_; (case aP => exact rfl); (case hx => first | exact rfl | (simp [go_sem]; done)); (case aO => (with_reducible repeat (first | apply Kd.R_alloc | apply Kd.R_drewN | apply Kd.R_drew)); exact HO.out); (case aB => exact (by repeat (first | (with_reducible first | exact HB.out | apply below_alloc | apply pw_below_drewN | apply below_drew1) | exact HB.out))); (case aF => exact (fun _ _ => trivial)); (case aS => exact (below_size (by repeat (first | (with_reducible first | exact HB.out | apply below_alloc | apply pw_below_drewN | apply below_drew1) | exact HB.out)))); (case aL => have := LM.out; omega); intro v1 w1 ho hb hg hat; have n0_ := Aside0.mk hb; have n1_ := Aside0.mk ho; clear HB; clear HO; have HB := n0_; have HO := n1_; clear n0_ n1_; clear ho hb hg hat)
  go_ret
  exact ⟨_, rfl, HO.out, HB.out⟩
set_option maxRecDepth 100000 in
set_option maxHeartbeats 4000000 in
theorem key_grow.truth (w0 w : World) (A0 : Option Addr) (c0 : Nat) (xs : List Int) (a b : Int) (s : ByteArray) (ho : Kd.R (Kd.int .u8) 5 w w0.heap.size (fun _ => True) (.slice A0 xs.length c0) xs) (hb : Below w0.heap.size w0 w)
    (hl : xs.length + (key_grow.enc a b s).length < 140737488355328) (ha : a = 1) :
    Calls Tryd.prog 49 #[.slice A0 xs.length c0, .agg #[.int .i64 a, .int .i64 b, .string s]] w fun e w' => ∃ v : Value, e = .returned v ∧ Kd.R (Kd.int .u8) 5 w' w0.heap.size (fun _ => True) v (xs ++ key_grow.enc a b s) ∧ Below w0.heap.size w0 w' := by
  subst ha
  have HO := Aside0.mk ho
  have HB := Aside0.mk hb
  have LM := Aside0.mk (show xs.length + 1 < 140737488355328 from hl)
  have he : key_grow.enc 1 b s = [(2 + b) % 256] := rfl
  rw [he]
  clear ho hb hl he
  go_enter Tryd.func49, Tryd.ntmps49
  go_wp2_with (at_builtin; refine Kd.R_append (Kd.int .u8) (w0 := w0) w0.heap.size rfl _ _ 34 5 (.int .u8 0) 1 rfl Tryd.underlying34 info5 rfl (by decide) (by omega) (.slice A0 xs.length c0) (xs) ?np1 _ (fun _ => True) (fun _ => False) rfl ?hx ?aP (fun _ hk => hk.elim) ?aF ?aO ?aB ?aS ?aL ?_; (case aP => exact rfl); (case hx => first | exact rfl | (simp [go_sem]; done)); (case aO => (with_reducible repeat (first | apply Kd.R_alloc | apply Kd.R_drewN | apply Kd.R_drew)); exact HO.out); (case aB => exact (by repeat (first | (with_reducible first | exact HB.out | apply below_alloc | apply pw_below_drewN | apply below_drew1) | exact HB.out))); (case aF => exact (fun _ _ => trivial)); (case aS => exact (below_size (by repeat (first | (with_reducible first | exact HB.out | apply below_alloc | apply pw_below_drewN | apply below_drew1) | exact HB.out)))); (case aL => have := LM.out; omega); intro v1 w1 ho hb hg hat; have n0_ := Aside0.mk hb; have n1_ := Aside0.mk ho; clear HB; clear HO; have HB := n0_; have HO := n1_; clear n0_ n1_; clear ho hb hg hat)
  go_ret
  exact ⟨_, rfl, HO.out, HB.out⟩
set_option maxRecDepth 100000 in
set_option maxHeartbeats 4000000 in
theorem key_grow.int_ (w0 w : World) (A0 : Option Addr) (c0 : Nat) (xs : List Int) (a b : Int) (s : ByteArray) (ho : Kd.R (Kd.int .u8) 5 w w0.heap.size (fun _ => True) (.slice A0 xs.length c0) xs) (hb : Below w0.heap.size w0 w)
    (hl : xs.length + (key_grow.enc a b s).length < 140737488355328) (ha : a = 2) :
    Calls Tryd.prog 49 #[.slice A0 xs.length c0, .agg #[.int .i64 a, .int .i64 b, .string s]] w fun e w' => ∃ v : Value, e = .returned v ∧ Kd.R (Kd.int .u8) 5 w' w0.heap.size (fun _ => True) v (xs ++ key_grow.enc a b s) ∧ Below w0.heap.size w0 w' := by
  subst ha
  have HO := Aside0.mk (Kd.R_mono (Kd.R_bound ho) (fun k hk => Nat.ne_of_lt hk.2.2.1) : Kd.R (Kd.int .u8) 5 w w0.heap.size (fun k_ => k_ ≠ w.heap.size) (.slice A0 xs.length c0) xs)
  have HB := Aside0.mk hb
  have he : key_grow.enc 2 b s = 4 :: key_grow.bytes (Go.bits .xor .u64 (IntKind.u64.wrap b) 9223372036854775808) 8 := rfl
  rw [he] at hl ⊢
  have LM := Aside0.mk (show xs.length + 9 < 140737488355328 by rw [List.length_cons, key_grow.bytes_length] at hl; exact hl)
  clear ho hb hl he
  go_enter Tryd.func49, Tryd.ntmps49
  go_wp2_with (at_builtin; refine Kd.R_append (Kd.int .u8) (w0 := w0) w0.heap.size rfl _ _ 34 5 (.int .u8 0) 1 rfl Tryd.underlying34 info5 rfl (by decide) (by omega) (.slice A0 xs.length c0) (xs) ?np1 _ (fun k_ => k_ ≠ w.heap.size) (fun _ => False) rfl ?hx ?aP (fun _ hk => hk.elim) ?aF ?aO ?aB ?aS ?aL ?_; (case aP => exact rfl); (case hx => first | exact rfl | (simp [go_sem]; done)); (case aO => (with_reducible repeat (first | apply Kd.R_alloc | apply Kd.R_drewN | apply Kd.R_drew)); exact HO.out); (case aB => exact (by repeat (first | (with_reducible first | exact HB.out | apply below_alloc | apply pw_below_drewN | apply below_drew1) | exact HB.out))); (case aF => exact (fun k_ h_ => by simp at h_; omega)); (case aS => exact (below_size (by repeat (first | (with_reducible first | exact HB.out | apply below_alloc | apply pw_below_drewN | apply below_drew1) | exact HB.out)))); (case aL => have := LM.out; omega); intro v1 w1 ho hb hg hat; have hx1 : w1.cell? ⟨w.heap.size, 1, none⟩ = some (.int .i64 b) := (hg.cell_far ⟨w.heap.size, 1, none⟩ (by simp [go_sem]) (fun e_ => HO.out.1 _ e_.symm rfl)).trans (by simp [go_sem]); have GS := Aside0.mk (show w.heap.size < w1.heap.size by have h_ := hg.size; simp at h_; omega); have n0_ := Aside0.mk hb; have n1_ := Aside0.mk ho; clear HB; clear HO; have HB := n0_; have HO := n1_; clear n0_ n1_; clear ho hb hg hat)
  generalize hN : Go.bits .xor .u64 (IntKind.u64.wrap b) 9223372036854775808 = n at *
  go_loopw [0, 6] (fun o i wr => ∃ j : Nat, j ≤ 8 ∧ i = .int .i64 (56 - 8 * (j : Int)) ∧ Aside0 (Kd.R (Kd.int .u8) 5 wr w0.heap.size (fun _ => True) o (xs ++ [4] ++ key_grow.bytes n j)) ∧ Aside0 (Below w0.heap.size w0 wr)) (fun _ i _ => (intOf i + 8).toNat)
  case atStart => exact ⟨0, by omega, rfl, ⟨by rw [show key_grow.bytes n 0 = [] from rfl, List.append_nil]; exact Kd.R_mono HO.out (fun _ _ => trivial)⟩, HB⟩
  case round =>
    obtain ⟨j, hj, rfl, HO, HB⟩ := hrel
    have hj' : j = 0 ∨ j = 1 ∨ j = 2 ∨ j = 3 ∨ j = 4 ∨ j = 5 ∨ j = 6 ∨ j = 7 ∨ j = 8 := by omega
    rcases hj' with rfl | rfl | rfl | rfl | rfl | rfl | rfl | rfl | rfl
    · go_wp2_with (at_builtin; refine Kd.R_append (Kd.int .u8) (w0 := w0) w0.heap.size rfl _ _ 34 5 (.int .u8 0) 1 rfl Tryd.underlying34 info5 rfl (by decide) (by omega) u0 (xs ++ [4] ++ key_grow.bytes n 0) ?np2 _ (fun _ => True) (fun _ => False) rfl ?hx ?aP (fun _ hk => hk.elim) ?aF ?aO ?aB ?aS ?aL ?_; (case aP => exact rfl); (case hx => first | exact rfl | (simp [go_sem]; done)); (case aO => (with_reducible repeat (first | apply Kd.R_alloc | apply Kd.R_drewN | apply Kd.R_drew)); exact HO.out); (case aB => exact (by repeat (first | (with_reducible first | exact HB.out | apply below_alloc | apply pw_below_drewN | apply below_drew1) | exact HB.out))); (case aF => exact (fun _ _ => trivial)); (case aS => exact (below_size (by repeat (first | (with_reducible first | exact HB.out | apply below_alloc | apply pw_below_drewN | apply below_drew1) | exact HB.out)))); (case aL => rw [List.length_append, List.length_append, key_grow.bytes_length]; have := LM.out; simp; omega); intro v2 w2 ho hb hg hat; have n0_ := Aside0.mk hb; have n1_ := Aside0.mk ho; clear HB; clear HO; have HB := n0_; have HO := n1_; clear n0_ n1_; clear ho hb hg hat)
      go_roundw
      case rel => exact ⟨1, by omega, by go_num, ⟨by have h_ := HO.out; rw [← key_grow.b0, List.append_assoc, ← key_grow.bytes_succ] at h_; exact h_⟩, HB⟩
      case measure => simp [intOf]
    · go_wp2_with (at_builtin; refine Kd.R_append (Kd.int .u8) (w0 := w0) w0.heap.size rfl _ _ 34 5 (.int .u8 0) 1 rfl Tryd.underlying34 info5 rfl (by decide) (by omega) u0 (xs ++ [4] ++ key_grow.bytes n 1) ?np3 _ (fun _ => True) (fun _ => False) rfl ?hx ?aP (fun _ hk => hk.elim) ?aF ?aO ?aB ?aS ?aL ?_; (case aP => exact rfl); (case hx => first | exact rfl | (simp [go_sem]; done)); (case aO => (with_reducible repeat (first | apply Kd.R_alloc | apply Kd.R_drewN | apply Kd.R_drew)); exact HO.out); (case aB => exact (by repeat (first | (with_reducible first | exact HB.out | apply below_alloc | apply pw_below_drewN | apply below_drew1) | exact HB.out))); (case aF => exact (fun _ _ => trivial)); (case aS => exact (below_size (by repeat (first | (with_reducible first | exact HB.out | apply below_alloc | apply pw_below_drewN | apply below_drew1) | exact HB.out)))); (case aL => rw [List.length_append, List.length_append, key_grow.bytes_length]; have := LM.out; simp; omega); intro v3 w3 ho hb hg hat; have n0_ := Aside0.mk hb; have n1_ := Aside0.mk ho; clear HB; clear HO; have HB := n0_; have HO := n1_; clear n0_ n1_; clear ho hb hg hat)
      go_roundw
      case rel => exact ⟨2, by omega, by go_num, ⟨by have h_ := HO.out; rw [← key_grow.b1, List.append_assoc, ← key_grow.bytes_succ] at h_; exact h_⟩, HB⟩
      case measure => simp [intOf]
    · go_wp2_with (at_builtin; refine Kd.R_append (Kd.int .u8) (w0 := w0) w0.heap.size rfl _ _ 34 5 (.int .u8 0) 1 rfl Tryd.underlying34 info5 rfl (by decide) (by omega) u0 (xs ++ [4] ++ key_grow.bytes n 2) ?np4 _ (fun _ => True) (fun _ => False) rfl ?hx ?aP (fun _ hk => hk.elim) ?aF ?aO ?aB ?aS ?aL ?_; (case aP => exact rfl); (case hx => first | exact rfl | (simp [go_sem]; done)); (case aO => (with_reducible repeat (first | apply Kd.R_alloc | apply Kd.R_drewN | apply Kd.R_drew)); exact HO.out); (case aB => exact (by repeat (first | (with_reducible first | exact HB.out | apply below_alloc | apply pw_below_drewN | apply below_drew1) | exact HB.out))); (case aF => exact (fun _ _ => trivial)); (case aS => exact (below_size (by repeat (first | (with_reducible first | exact HB.out | apply below_alloc | apply pw_below_drewN | apply below_drew1) | exact HB.out)))); (case aL => rw [List.length_append, List.length_append, key_grow.bytes_length]; have := LM.out; simp; omega); intro v4 w4 ho hb hg hat; have n0_ := Aside0.mk hb; have n1_ := Aside0.mk ho; clear HB; clear HO; have HB := n0_; have HO := n1_; clear n0_ n1_; clear ho hb hg hat)
      go_roundw
      case rel => exact ⟨3, by omega, by go_num, ⟨by have h_ := HO.out; rw [← key_grow.b2, List.append_assoc, ← key_grow.bytes_succ] at h_; exact h_⟩, HB⟩
      case measure => simp [intOf]
    · go_wp2_with (at_builtin; refine Kd.R_append (Kd.int .u8) (w0 := w0) w0.heap.size rfl _ _ 34 5 (.int .u8 0) 1 rfl Tryd.underlying34 info5 rfl (by decide) (by omega) u0 (xs ++ [4] ++ key_grow.bytes n 3) ?np5 _ (fun _ => True) (fun _ => False) rfl ?hx ?aP (fun _ hk => hk.elim) ?aF ?aO ?aB ?aS ?aL ?_; (case aP => exact rfl); (case hx => first | exact rfl | (simp [go_sem]; done)); (case aO => (with_reducible repeat (first | apply Kd.R_alloc | apply Kd.R_drewN | apply Kd.R_drew)); exact HO.out); (case aB => exact (by repeat (first | (with_reducible first | exact HB.out | apply below_alloc | apply pw_below_drewN | apply below_drew1) | exact HB.out))); (case aF => exact (fun _ _ => trivial)); (case aS => exact (below_size (by repeat (first | (with_reducible first | exact HB.out | apply below_alloc | apply pw_below_drewN | apply below_drew1) | exact HB.out)))); (case aL => rw [List.length_append, List.length_append, key_grow.bytes_length]; have := LM.out; simp; omega); intro v5 w5 ho hb hg hat; have n0_ := Aside0.mk hb; have n1_ := Aside0.mk ho; clear HB; clear HO; have HB := n0_; have HO := n1_; clear n0_ n1_; clear ho hb hg hat)
      go_roundw
      case rel => exact ⟨4, by omega, by go_num, ⟨by have h_ := HO.out; rw [← key_grow.b3, List.append_assoc, ← key_grow.bytes_succ] at h_; exact h_⟩, HB⟩
      case measure => simp [intOf]
    · go_wp2_with (at_builtin; refine Kd.R_append (Kd.int .u8) (w0 := w0) w0.heap.size rfl _ _ 34 5 (.int .u8 0) 1 rfl Tryd.underlying34 info5 rfl (by decide) (by omega) u0 (xs ++ [4] ++ key_grow.bytes n 4) ?np6 _ (fun _ => True) (fun _ => False) rfl ?hx ?aP (fun _ hk => hk.elim) ?aF ?aO ?aB ?aS ?aL ?_; (case aP => exact rfl); (case hx => first | exact rfl | (simp [go_sem]; done)); (case aO => (with_reducible repeat (first | apply Kd.R_alloc | apply Kd.R_drewN | apply Kd.R_drew)); exact HO.out); (case aB => exact (by repeat (first | (with_reducible first | exact HB.out | apply below_alloc | apply pw_below_drewN | apply below_drew1) | exact HB.out))); (case aF => exact (fun _ _ => trivial)); (case aS => exact (below_size (by repeat (first | (with_reducible first | exact HB.out | apply below_alloc | apply pw_below_drewN | apply below_drew1) | exact HB.out)))); (case aL => rw [List.length_append, List.length_append, key_grow.bytes_length]; have := LM.out; simp; omega); intro v6 w6 ho hb hg hat; have n0_ := Aside0.mk hb; have n1_ := Aside0.mk ho; clear HB; clear HO; have HB := n0_; have HO := n1_; clear n0_ n1_; clear ho hb hg hat)
      go_roundw
      case rel => exact ⟨5, by omega, by go_num, ⟨by have h_ := HO.out; rw [← key_grow.b4, List.append_assoc, ← key_grow.bytes_succ] at h_; exact h_⟩, HB⟩
      case measure => simp [intOf]
    · go_wp2_with (at_builtin; refine Kd.R_append (Kd.int .u8) (w0 := w0) w0.heap.size rfl _ _ 34 5 (.int .u8 0) 1 rfl Tryd.underlying34 info5 rfl (by decide) (by omega) u0 (xs ++ [4] ++ key_grow.bytes n 5) ?np7 _ (fun _ => True) (fun _ => False) rfl ?hx ?aP (fun _ hk => hk.elim) ?aF ?aO ?aB ?aS ?aL ?_; (case aP => exact rfl); (case hx => first | exact rfl | (simp [go_sem]; done)); (case aO => (with_reducible repeat (first | apply Kd.R_alloc | apply Kd.R_drewN | apply Kd.R_drew)); exact HO.out); (case aB => exact (by repeat (first | (with_reducible first | exact HB.out | apply below_alloc | apply pw_below_drewN | apply below_drew1) | exact HB.out))); (case aF => exact (fun _ _ => trivial)); (case aS => exact (below_size (by repeat (first | (with_reducible first | exact HB.out | apply below_alloc | apply pw_below_drewN | apply below_drew1) | exact HB.out)))); (case aL => rw [List.length_append, List.length_append, key_grow.bytes_length]; have := LM.out; simp; omega); intro v7 w7 ho hb hg hat; have n0_ := Aside0.mk hb; have n1_ := Aside0.mk ho; clear HB; clear HO; have HB := n0_; have HO := n1_; clear n0_ n1_; clear ho hb hg hat)
      go_roundw
      case rel => exact ⟨6, by omega, by go_num, ⟨by have h_ := HO.out; rw [← key_grow.b5, List.append_assoc, ← key_grow.bytes_succ] at h_; exact h_⟩, HB⟩
      case measure => simp [intOf]
    · go_wp2_with (at_builtin; refine Kd.R_append (Kd.int .u8) (w0 := w0) w0.heap.size rfl _ _ 34 5 (.int .u8 0) 1 rfl Tryd.underlying34 info5 rfl (by decide) (by omega) u0 (xs ++ [4] ++ key_grow.bytes n 6) ?np8 _ (fun _ => True) (fun _ => False) rfl ?hx ?aP (fun _ hk => hk.elim) ?aF ?aO ?aB ?aS ?aL ?_; (case aP => exact rfl); (case hx => first | exact rfl | (simp [go_sem]; done)); (case aO => (with_reducible repeat (first | apply Kd.R_alloc | apply Kd.R_drewN | apply Kd.R_drew)); exact HO.out); (case aB => exact (by repeat (first | (with_reducible first | exact HB.out | apply below_alloc | apply pw_below_drewN | apply below_drew1) | exact HB.out))); (case aF => exact (fun _ _ => trivial)); (case aS => exact (below_size (by repeat (first | (with_reducible first | exact HB.out | apply below_alloc | apply pw_below_drewN | apply below_drew1) | exact HB.out)))); (case aL => rw [List.length_append, List.length_append, key_grow.bytes_length]; have := LM.out; simp; omega); intro v8 w8 ho hb hg hat; have n0_ := Aside0.mk hb; have n1_ := Aside0.mk ho; clear HB; clear HO; have HB := n0_; have HO := n1_; clear n0_ n1_; clear ho hb hg hat)
      go_roundw
      case rel => exact ⟨7, by omega, by go_num, ⟨by have h_ := HO.out; rw [← key_grow.b6, List.append_assoc, ← key_grow.bytes_succ] at h_; exact h_⟩, HB⟩
      case measure => simp [intOf]
    · go_wp2_with (at_builtin; refine Kd.R_append (Kd.int .u8) (w0 := w0) w0.heap.size rfl _ _ 34 5 (.int .u8 0) 1 rfl Tryd.underlying34 info5 rfl (by decide) (by omega) u0 (xs ++ [4] ++ key_grow.bytes n 7) ?np9 _ (fun _ => True) (fun _ => False) rfl ?hx ?aP (fun _ hk => hk.elim) ?aF ?aO ?aB ?aS ?aL ?_; (case aP => exact rfl); (case hx => first | exact rfl | (simp [go_sem]; done)); (case aO => (with_reducible repeat (first | apply Kd.R_alloc | apply Kd.R_drewN | apply Kd.R_drew)); exact HO.out); (case aB => exact (by repeat (first | (with_reducible first | exact HB.out | apply below_alloc | apply pw_below_drewN | apply below_drew1) | exact HB.out))); (case aF => exact (fun _ _ => trivial)); (case aS => exact (below_size (by repeat (first | (with_reducible first | exact HB.out | apply below_alloc | apply pw_below_drewN | apply below_drew1) | exact HB.out)))); (case aL => rw [List.length_append, List.length_append, key_grow.bytes_length]; have := LM.out; simp; omega); intro v9 w9 ho hb hg hat; have n0_ := Aside0.mk hb; have n1_ := Aside0.mk ho; clear HB; clear HO; have HB := n0_; have HO := n1_; clear n0_ n1_; clear ho hb hg hat)
      go_roundw
      case rel => exact ⟨8, by omega, by go_num, ⟨by have h_ := HO.out; rw [← key_grow.b7, List.append_assoc, ← key_grow.bytes_succ] at h_; exact h_⟩, HB⟩
      case measure => simp [intOf]
    · go_wp2
      go_ret
      subst hN
      exact ⟨_, rfl, by have h_ := HO.out; rw [List.append_assoc] at h_; exact h_, HB.out⟩
set_option maxRecDepth 100000 in
set_option maxHeartbeats 4000000 in
theorem key_grow.text (w0 w : World) (A0 : Option Addr) (c0 : Nat) (xs : List Int) (a b : Int) (s : ByteArray) (ho : Kd.R (Kd.int .u8) 5 w w0.heap.size (fun _ => True) (.slice A0 xs.length c0) xs) (hb : Below w0.heap.size w0 w)
    (hl : xs.length + (key_grow.enc a b s).length < 140737488355328) (h0 : a ≠ 0) (h1 : a ≠ 1) (h2 : a ≠ 2) :
    Calls Tryd.prog 49 #[.slice A0 xs.length c0, .agg #[.int .i64 a, .int .i64 b, .string s]] w fun e w' => ∃ v : Value, e = .returned v ∧ Kd.R (Kd.int .u8) 5 w' w0.heap.size (fun _ => True) v (xs ++ key_grow.enc a b s) ∧ Below w0.heap.size w0 w' := by
  have HO := Aside0.mk (Kd.R_mono (Kd.R_bound ho) (fun k hk => Nat.ne_of_lt hk.2.2.1) : Kd.R (Kd.int .u8) 5 w w0.heap.size (fun k_ => k_ ≠ w.heap.size) (.slice A0 xs.length c0) xs)
  have HB := Aside0.mk hb
  have he : key_grow.enc a b s = 5 :: (key_grow.esc (bytesOf s) ++ [0, 1]) := by unfold key_grow.enc; rw [if_neg h0, if_neg h1, if_neg h2]
  rw [he] at hl ⊢
  have LM := Aside0.mk (show xs.length + (key_grow.esc (bytesOf s)).length + 3 < 140737488355328 by rw [List.length_cons, List.length_append] at hl; simp at hl; omega)
  have hcv := fun W : World => print_bytes (P := Tryd.prog) 9 34 5 Tryd.underlying9 Tryd.underlying34 Tryd.underlying5 s W
  have hs : s.size ≤ 140737488355328 := by
    have h_ := key_grow.esc_ge (bytesOf s)
    rw [bytesOf_length] at h_
    have := LM.out
    omega
  have q0 : (a == 0) = false := by simpa using h0
  have q1 : (a == 1) = false := by simpa using h1
  have q2 : (a == 2) = false := by simpa using h2
  clear ho hb hl he
  go_enter Tryd.func49, Tryd.ntmps49
  go_wp2_with (at_builtin; refine Kd.R_append (Kd.int .u8) (w0 := w0) w0.heap.size rfl _ _ 34 5 (.int .u8 0) 1 rfl Tryd.underlying34 info5 rfl (by decide) (by omega) (.slice A0 xs.length c0) (xs) ?np1 _ (fun k_ => k_ ≠ w.heap.size) (fun _ => False) rfl ?hx ?aP (fun _ hk => hk.elim) ?aF ?aO ?aB ?aS ?aL ?_; (case aP => exact rfl); (case hx => first | exact rfl | (simp [go_sem]; done)); (case aO => (with_reducible repeat (first | apply Kd.R_alloc | apply Kd.R_drewN | apply Kd.R_drew)); exact HO.out); (case aB => exact (by repeat (first | (with_reducible first | exact HB.out | apply below_alloc | apply pw_below_drewN | apply below_drew1) | exact HB.out))); (case aF => exact (fun k_ h_ => by simp at h_; omega)); (case aS => exact (below_size (by repeat (first | (with_reducible first | exact HB.out | apply below_alloc | apply pw_below_drewN | apply below_drew1) | exact HB.out)))); (case aL => have := LM.out; omega); intro v1 w1 ho hb hg hat; have hx1 : w1.cell? ⟨w.heap.size, 2, none⟩ = some (.string s) := (hg.cell_far ⟨w.heap.size, 2, none⟩ (by simp [go_sem]) (fun e_ => HO.out.1 _ e_.symm rfl)).trans (by simp [go_sem]); have GS := Aside0.mk (show w.heap.size < w1.heap.size by have h_ := hg.size; simp at h_; omega); have n0_ := Aside0.mk hb; have n1_ := Aside0.mk ho; clear HB; clear HO; have HB := n0_; have HO := n1_; clear n0_ n1_; clear ho hb hg hat)
  have HX := Aside0.mk (fun j hj => Lib.bytesWorld_cell w1 5 s j hj)
  have HG := Aside0.mk (Lib.bytesWorld_at_new w1 5 s)
  have HB2 := Aside0.mk (bytes_below HB.out (below_size HB.out) 5 s)
  have HO2 := Aside0.mk (Kd.R_mono (Kd.R_bound (Kd.R_below (w1 := Lib.bytesWorld w1 5 s) (Kd.R_mono (Kd.R_bound HO.out) (fun k hk => Nat.ne_of_lt hk.2.2.1) : Kd.R (Kd.int .u8) 5 w1 w0.heap.size (fun k_ => k_ ≠ w1.heap.size) v1 (xs ++ [5])) (bytes_below (Below.refl _ _) (Nat.le_refl _) 5 s))) (fun k hk => hk.1) : Kd.R (Kd.int .u8) 5 (Lib.bytesWorld w1 5 s) w0.heap.size (fun k_ => k_ ≠ w1.heap.size) v1 (xs ++ [5]))
  have GT := Aside0.mk (show w1.heap.size < (Lib.bytesWorld w1 5 s).heap.size by rw [Lib.bytesWorld_size]; omega)
  clear HO HB hx1 GS hcv
  generalize hcap : grownCap w1 s.size 0 5 = cap_
  clear hcap
  go_loopw [0, 8, 53] (fun o x i wr => ∃ j : Nat, j ≤ s.size ∧ i = .int .i64 j ∧ Aside0 (Kd.R (Kd.int .u8) 5 wr w0.heap.size (fun k_ => k_ ≠ w1.heap.size) o (xs ++ [5] ++ key_grow.esc ((bytesOf s).take j))) ∧ Aside0 (Below w0.heap.size w0 wr) ∧ Aside0 (wr.heap[w1.heap.size]? = some (.cells (Lib.bytesCells w1 5 s) 5 ((Lib.bytesCells w1 5 s).size, (Lib.bytesCells w1 5 s).size + 1))) ∧ Aside0 (w1.heap.size < wr.heap.size)) (fun _ _ i _ => s.size - (intOf i).toNat)
  case atStart => exact ⟨0, by omega, rfl, ⟨by rw [List.take_zero, show key_grow.esc [] = [] from rfl, List.append_nil]; exact HO2.out⟩, HB2, HG, GT⟩
  case round =>
    clear HO2 HB2 HG GT
    obtain ⟨j, hj, rfl, HO, HB, HG, GT⟩ := hrel
    by_cases hlt : j < s.size
    · have hbl : j < (bytesOf s).length := by rw [bytesOf_length]; exact hlt
      have hce : wr.cell? ⟨w1.heap.size, j, none⟩ = some (.int .u8 (bytesOf s)[j]) := by
        have h_ := HX.out j hlt
        have e_ : wr.cell? ⟨w1.heap.size, j, none⟩ = (Lib.bytesWorld w1 5 s).cell? ⟨w1.heap.size, j, none⟩ := by simp only [World.cell?, HG.out, Lib.bytesWorld_at_new]
        rw [e_, h_]
        simp [bytesOf, List.getD_eq_getElem?_getD]
        rw [Array.getElem?_eq_getElem (show j < s.data.size from hlt)]
        rfl
      have hes := key_grow.esc_take (bytesOf s) j hbl
      have hle := key_grow.esc_le (bytesOf s) (j + 1)
      generalize (bytesOf s)[j] = x at *
      by_cases hx0 : x = 0
      · subst hx0
        rw [if_pos rfl] at hes
        rw [hes, List.length_append] at hle
        have HES := Aside0.mk hes
        have LY := Aside0.mk (show xs.length + (key_grow.esc ((bytesOf s).take j)).length + 5 < 140737488355328 by have h_ := LM.out; simp at hle; omega)
        clear hes hle
        generalize key_grow.esc ((bytesOf s).take j) = y at *
        go_wp2_with (first | (at_builtin; refine Kd.R_append (Kd.int .u8) (w0 := w0) w0.heap.size rfl _ _ 34 5 (.int .u8 0) 1 rfl Tryd.underlying34 info5 rfl (by decide) (by omega) u0 (xs ++ [5] ++ y) ?np20 _ (fun k_ => k_ ≠ w1.heap.size) (fun _ => False) rfl ?hx ?aP (fun _ hk => hk.elim) ?aF ?aO ?aB ?aS ?aL ?_; (case aP => exact rfl); (case hx => first | exact rfl | (simp [go_sem]; done)); (case aO => (with_reducible repeat (first | apply Kd.R_alloc | apply Kd.R_drewN | apply Kd.R_drew)); exact HO.out); (case aB => exact (by repeat (first | (with_reducible first | exact HB.out | apply below_alloc | apply pw_below_drewN | apply below_drew1) | exact HB.out))); (case aF => exact (fun k_ h_ => Nat.ne_of_gt (Nat.lt_of_lt_of_le GT.out h_))); (case aS => exact (below_size (by repeat (first | (with_reducible first | exact HB.out | apply below_alloc | apply pw_below_drewN | apply below_drew1) | exact HB.out)))); (case aL => simp only [List.length_append, List.length_cons, List.length_nil]; have := LY.out; omega); intro v20 w20 ho hb hg hat; have HG_ := Aside0.mk ((hg.block w1.heap.size (by have h_ := GT.out; simpa using h_) (fun e_ => HO.out.1 _ e_.symm rfl)).trans (by first | exact HG.out | simpa using HG.out)); have GT_ := Aside0.mk (Nat.lt_of_lt_of_le GT.out (by have h_ := hg.size; simpa using h_)); clear HG GT; have HG := HG_; have GT := GT_; clear HG_ GT_; have n0_ := Aside0.mk hb; have n1_ := Aside0.mk ho; clear HB; clear HO; have HB := n0_; have HO := n1_; clear n0_ n1_; clear ho hb hg hat) | (at_builtin; refine Kd.R_append (Kd.int .u8) (w0 := w0) w0.heap.size rfl _ _ 34 5 (.int .u8 0) 1 rfl Tryd.underlying34 info5 rfl (by decide) (by omega) v20 (xs ++ [5] ++ y ++ [0]) ?np21 _ (fun k_ => k_ ≠ w1.heap.size) (fun _ => False) rfl ?hx ?aP (fun _ hk => hk.elim) ?aF ?aO ?aB ?aS ?aL ?_; (case aP => exact rfl); (case hx => first | exact rfl | (simp [go_sem]; done)); (case aO => (with_reducible repeat (first | apply Kd.R_alloc | apply Kd.R_drewN | apply Kd.R_drew)); exact HO.out); (case aB => exact (by repeat (first | (with_reducible first | exact HB.out | apply below_alloc | apply pw_below_drewN | apply below_drew1) | exact HB.out))); (case aF => exact (fun k_ h_ => Nat.ne_of_gt (Nat.lt_of_lt_of_le GT.out h_))); (case aS => exact (below_size (by repeat (first | (with_reducible first | exact HB.out | apply below_alloc | apply pw_below_drewN | apply below_drew1) | exact HB.out)))); (case aL => simp only [List.length_append, List.length_cons, List.length_nil]; have := LY.out; omega); intro v21 w21 ho hb hg hat; have HG_ := Aside0.mk ((hg.block w1.heap.size (by have h_ := GT.out; simpa using h_) (fun e_ => HO.out.1 _ e_.symm rfl)).trans (by first | exact HG.out | simpa using HG.out)); have GT_ := Aside0.mk (Nat.lt_of_lt_of_le GT.out (by have h_ := hg.size; simpa using h_)); clear HG GT; have HG := HG_; have GT := GT_; clear HG_ GT_; have n0_ := Aside0.mk hb; have n1_ := Aside0.mk ho; clear HB; clear HO; have HB := n0_; have HO := n1_; clear n0_ n1_; clear ho hb hg hat))
        go_roundw
        case rel => exact ⟨j + 1, by omega, by go_num, ⟨by rw [HES.out]; have h_ := HO.out; rw [List.append_assoc (xs ++ [5] ++ y), List.append_assoc (xs ++ [5])] at h_; exact h_⟩, HB, HG, GT⟩
        case measure => simp [intOf]; omega
      · rw [if_neg hx0] at hes
        rw [hes, List.length_append] at hle
        have HES := Aside0.mk hes
        have LY := Aside0.mk (show xs.length + (key_grow.esc ((bytesOf s).take j)).length + 4 < 140737488355328 by have h_ := LM.out; simp at hle; omega)
        clear hes hle
        generalize key_grow.esc ((bytesOf s).take j) = y at *
        have hq : (x == 0) = false := by simpa using hx0
        go_wp2_with (at_builtin; refine Kd.R_append (Kd.int .u8) (w0 := w0) w0.heap.size rfl _ _ 34 5 (.int .u8 0) 1 rfl Tryd.underlying34 info5 rfl (by decide) (by omega) u0 (xs ++ [5] ++ y) ?np22 _ (fun k_ => k_ ≠ w1.heap.size) (fun _ => False) rfl ?hx ?aP (fun _ hk => hk.elim) ?aF ?aO ?aB ?aS ?aL ?_; (case aP => exact rfl); (case hx => first | exact rfl | (simp [go_sem]; done)); (case aO => (with_reducible repeat (first | apply Kd.R_alloc | apply Kd.R_drewN | apply Kd.R_drew)); exact HO.out); (case aB => exact (by repeat (first | (with_reducible first | exact HB.out | apply below_alloc | apply pw_below_drewN | apply below_drew1) | exact HB.out))); (case aF => exact (fun k_ h_ => Nat.ne_of_gt (Nat.lt_of_lt_of_le GT.out h_))); (case aS => exact (below_size (by repeat (first | (with_reducible first | exact HB.out | apply below_alloc | apply pw_below_drewN | apply below_drew1) | exact HB.out)))); (case aL => simp only [List.length_append, List.length_cons, List.length_nil]; have := LY.out; omega); intro v22 w22 ho hb hg hat; have HG_ := Aside0.mk ((hg.block w1.heap.size (by have h_ := GT.out; simpa using h_) (fun e_ => HO.out.1 _ e_.symm rfl)).trans (by first | exact HG.out | simpa using HG.out)); have GT_ := Aside0.mk (Nat.lt_of_lt_of_le GT.out (by have h_ := hg.size; simpa using h_)); clear HG GT; have HG := HG_; have GT := GT_; clear HG_ GT_; have n0_ := Aside0.mk hb; have n1_ := Aside0.mk ho; clear HB; clear HO; have HB := n0_; have HO := n1_; clear n0_ n1_; clear ho hb hg hat)
        go_roundw
        case rel => exact ⟨j + 1, by omega, by go_num, ⟨by rw [HES.out]; have h_ := HO.out; rw [List.append_assoc (xs ++ [5])] at h_; exact h_⟩, HB, HG, GT⟩
        case measure => simp [intOf]; omega
    · obtain rfl : j = s.size := by omega
      rw [show (bytesOf s).take s.size = bytesOf s from by rw [← bytesOf_length, List.take_length]] at HO
      go_wp2_with (at_builtin; refine Kd.R_append_rows (Kd.int .u8) (w0 := w0) w0.heap.size rfl _ _ 34 5 (.int .u8 0) 1 rfl Tryd.underlying34 info5 rfl (by decide) (by omega) u0 (xs ++ [5] ++ key_grow.esc (bytesOf s)) [0, 1] _ _ _ (fun k_ => k_ ≠ w1.heap.size) (fun _ => False) rfl rfl ?aO ?aR (fun _ _ h => h) (fun _ h => h.elim) ?aF ?aB ?aS ?aL ?_; (case aO => (with_reducible repeat (first | apply Kd.R_alloc | apply Kd.R_drewN | apply Kd.R_drew)); exact HO.out); (case aR => exact key_grow.lit2 (by simp [go_sem]) (by simp [go_sem])); (case aB => exact (by repeat (first | (with_reducible first | exact HB.out | apply below_alloc | apply pw_below_drewN | apply below_drew1) | exact HB.out))); (case aF => exact (fun k_ h_ => by simp at h_; have := GT.out; omega)); (case aS => exact (below_size (by repeat (first | (with_reducible first | exact HB.out | apply below_alloc | apply pw_below_drewN | apply below_drew1) | exact HB.out)))); (case aL => have := LM.out; simp; omega); intro v30 w30 ho hb hg hat; have n0_ := Aside0.mk hb; have n1_ := Aside0.mk ho; clear HB; clear HO; have HB := n0_; have HO := n1_; clear n0_ n1_; clear ho hb hg hat)
      go_ret
      exact ⟨_, rfl, by have h_ := Kd.R_mono HO.out (fun _ _ => trivial); rw [List.append_assoc, List.append_assoc] at h_; exact h_, HB.out⟩
set_option maxRecDepth 100000 in
set_option maxHeartbeats 4000000 in
theorem key_grow.own (w0 w : World) (A0 : Option Addr) (c0 : Nat) (xs : List Int) (a b : Int) (s : ByteArray) (ho : Kd.R (Kd.int .u8) 5 w w0.heap.size (fun _ => True) (.slice A0 xs.length c0) xs) (hb : Below w0.heap.size w0 w)
    (hl : xs.length + (key_grow.enc a b s).length < 140737488355328) :
    Calls Tryd.prog 49 #[.slice A0 xs.length c0, .agg #[.int .i64 a, .int .i64 b, .string s]] w fun e w' => ∃ v : Value, e = .returned v ∧ Kd.R (Kd.int .u8) 5 w' w0.heap.size (fun _ => True) v (xs ++ key_grow.enc a b s) ∧ Below w0.heap.size w0 w' := by
  by_cases h0 : a = 0
  · exact key_grow.null w0 w A0 c0 xs a b s ho hb hl h0
  by_cases h1 : a = 1
  · exact key_grow.truth w0 w A0 c0 xs a b s ho hb hl h1
  by_cases h2 : a = 2
  · exact key_grow.int_ w0 w A0 c0 xs a b s ho hb hl h2
  exact key_grow.text w0 w A0 c0 xs a b s ho hb hl h0 h1 h2

/-! ### key_Encode: function 23, by hand -/
-- HAND rounds=1 making=1 laid=1 imports=Derived.Laws.Cover3
/-- The values one by one: each is looked at, and laid behind the bytes. -/
def key_Encode.run (k : Nat) : List S23 → List Int → Option (List Int × Int)
  | [], ys => some (ys, 0)
  | x :: r, ys => (value_Check.f k x.f0 x.f1 x.f2).bind fun e => if e = 0 then (if ys.length + (key_grow.enc x.f0 x.f1 x.f2).length < 140737488355328 then key_Encode.run k r (ys ++ key_grow.enc x.f0 x.f1 x.f2) else none) else some ([], e)
def key_Encode.f (k : Nat) (l : List S23) : Option (List Int × Int) := if (l.length : Int) > 14 then some ([], 1) else key_Encode.run k l []
theorem key_Encode.mono_run : ∀ (l : List S23) (ys : List Int) (k : Nat), LeO (key_Encode.run k l ys) (key_Encode.run (k + 1) l ys)
  | [], _, _ => LeO.refl _
  | x :: r, ys, k => by
    intro q h
    unfold key_Encode.run at h ⊢
    obtain ⟨e, he, h⟩ := Option.bind_eq_some_iff.1 h
    rw [value_Check.mono _ _ _ _ _ he, Option.bind_some]
    split at h
    · rename_i h0
      rw [if_pos h0]
      split at h
      · rename_i h1
        rw [if_pos h1]
        exact key_Encode.mono_run r _ k _ h
      · cases h
    · rename_i h0
      rw [if_neg h0]
      exact h
theorem key_Encode.mono : ∀ a0 k, LeO (key_Encode.f k a0) (key_Encode.f (k + 1) a0) := by
  intro l k
  unfold key_Encode.f
  split
  · exact LeO.refl _
  · exact key_Encode.mono_run l [] k
theorem key_Encode.at_ {w : World} {A : Option Addr} {l : List S23} (h : Kd.C k23 w A l.length l) (h0 : 0 < l.length) : ∃ b o, A = some ⟨b, o, none⟩ ∧ ∀ (i : Nat) (hi : i < l.length),
    w.cell? ⟨b, o + i * 3, none⟩ = some (.int .i64 l[i].f0) ∧ w.cell? ⟨b, o + i * 3 + 1, none⟩ = some (.int .i64 l[i].f1) ∧ w.cell? ⟨b, o + i * 3 + 2, none⟩ = some (.string l[i].f2) := by
  obtain ⟨ad, rfl, g0, _⟩ := at_T23 h 0 (by omega) (by omega)
  have hs : ad.spot = none := by
    cases hsp : ad.spot with
    | none => rfl
    | some s =>
      exfalso
      rw [show ad.add ((0 : Int).toNat * 3) = ad from by simp [Addr.add]] at g0
      unfold World.cell? at g0
      split at g0
      · rw [hsp] at g0
        simp at g0
      · cases g0
  obtain ⟨b, o, sp⟩ := ad
  dsimp only at hs
  subst hs
  refine ⟨b, o, rfl, fun i hi => ?_⟩
  obtain ⟨ad, e, g0, g1, g2⟩ := at_T23 h (i : Int) (by omega) (by omega)
  cases e
  have ee : rd_T23 l (i : Int) = l[i] := by simp [rd_T23, List.getD_eq_getElem?_getD, hi]
  have ha : (⟨b, o, none⟩ : Addr).add ((i : Int).toNat * 3) = ⟨b, o + i * 3, none⟩ := by rw [Int.toNat_natCast]; unfold Addr.add; split <;> simp_all
  rw [ee] at g0 g1 g2
  rw [ha] at g0 g1 g2
  exact ⟨g0, g1, g2⟩
set_option maxRecDepth 100000 in
set_option maxHeartbeats 4000000 in
theorem key_Encode.calls (k : Nat) (A0 : Option Addr) (c0 : Nat) (l0 : List S23) (r1 : List Int) (r2 : Int) (w : World) (hr0 : Kd.C k23 w A0 l0.length l0) (hc0 : l0.length ≤ c0) (hL : LD w) (h : key_Encode.f k l0 = some (r1, r2)) :
    Calls Tryd.prog 23 #[.slice A0 l0.length c0] w fun e w' => ∃ v0_ : Value, e = .returned (.tuple #[v0_, .int .i64 r2]) ∧ Kd.R (Kd.int .u8) 5 w' w.heap.size (fun _ => True) v0_ r1 ∧ Below w.heap.size w w' := by
  have hm := hr0.2.1
  have HR := Aside0.mk hr0
  have HL := Aside0.mk hL
  clear hr0 hL
  unfold key_Encode.f at h
  by_cases hbig : (l0.length : Int) > 14
  · rw [if_pos hbig] at h
    obtain ⟨rfl, rfl⟩ : r1 = [] ∧ r2 = 1 := by simpa [eq_comm] using h
    clear h
    go_enter Tryd.func23, Tryd.ntmps23
    go_wp2
    go_ret2
    exact ⟨_, rfl, Kd.R_nil _ _ _ _ _, Below.refl _ _⟩
  rw [if_neg hbig] at h
  have HS := Aside0.mk h
  clear h
  go_enter Tryd.func23, Tryd.ntmps23
  go_wp2
  go_loopw [4, 6, 7, 13] (fun o _ _ i wr => ∃ (j : Nat) (ys : List Int), j ≤ l0.length ∧ i = .int .i64 j ∧ Aside0 (key_Encode.run k (l0.drop j) ys = some (r1, r2)) ∧ Aside0 (Kd.R (Kd.int .u8) 5 wr w.heap.size (fun _ => True) o ys) ∧ Aside0 (Below w.heap.size w wr)) (fun _ _ _ i _ => l0.length - (intOf i).toNat)
  case atStart => exact ⟨0, [], by omega, rfl, HS, ⟨Kd.R_nil _ _ _ _ _⟩, ⟨Below.refl _ _⟩⟩
  case round =>
    clear HS
    obtain ⟨j, ys, hj, rfl, HS, HO, HB⟩ := hrel
    by_cases hlt : j < l0.length
    · obtain ⟨b, o, rfl, hcs⟩ := key_Encode.at_ HR.out (by omega)
      obtain ⟨p0, p1, p2⟩ := hcs j hlt
      have hg := HS.out
      rw [List.drop_eq_getElem_cons hlt, key_Encode.run] at hg
      obtain ⟨c, hck, hg2⟩ := Option.bind_eq_some_iff.1 hg
      clear hg HS hcs
      generalize l0[j] = x at *
      replace p0 := pw_cell_below HB.out p0
      replace p1 := pw_cell_below HB.out p1
      replace p2 := pw_cell_below HB.out p2
      have HCK := Aside0.mk hck
      have hL2 := Aside0.mk (LD.below HL.out HB.out)
      obtain ⟨A1, c1, rfl⟩ := Kd.R_slice HO.out
      clear hck
      by_cases hc : c = 0
      · subst hc
        rw [if_pos rfl] at hg2
        split at hg2
        · rename_i hlm
          have LM := Aside0.mk hlm
          have HS := Aside0.mk hg2
          clear hlm hg2
          go_wp2_with (first
            | (go_at_call 15; refine (value_Check.calls k x.f0 x.f1 x.f2 0 _ (LD.below hL2.out (below_alloc (Below.refl _ _) _)) HCK.out).mono ?_; rintro e w1 ⟨rfl, hb⟩; have q0 : w1.cell? ⟨wr.heap.size, 0, none⟩ = some (.int .i64 x.f0) := pw_cell_below hb (show (wr.alloc _).cell? ⟨wr.heap.size, 0, none⟩ = some (.int .i64 x.f0) by simp [go_sem]); have q1 : w1.cell? ⟨wr.heap.size, 1, none⟩ = some (.int .i64 x.f1) := pw_cell_below hb (show (wr.alloc _).cell? ⟨wr.heap.size, 1, none⟩ = some (.int .i64 x.f1) by simp [go_sem]); have q2 : w1.cell? ⟨wr.heap.size, 2, none⟩ = some (.string x.f2) := pw_cell_below hb (show (wr.alloc _).cell? ⟨wr.heap.size, 2, none⟩ = some (.string x.f2) by simp [go_sem]); have HB1 := Aside0.mk ((below_alloc HB.out _).trans (hb.mono (below_alloc HB.out _).size)); have HO1 := Aside0.mk (Kd.R_below (Kd.R_alloc HO.out _) hb); clear hb)
            | (go_at_call 49; refine (key_grow.own w _ A1 c1 ys x.f0 x.f1 x.f2 HO1.out HB1.out LM.out).mono ?_; rintro e w2 ⟨v2, rfl, ho2, hb2⟩; have HO2 := Aside0.mk ho2; have HB2 := Aside0.mk hb2; clear ho2 hb2))
          go_roundw
          case rel => exact ⟨j + 1, _, by omega, by go_num, HS, HO2, HB2⟩
          case measure => simp [intOf]; omega
        · cases hg2
      · rw [if_neg hc] at hg2
        obtain ⟨rfl, rfl⟩ : r1 = [] ∧ r2 = c := by simpa [eq_comm] using hg2
        have hq : (r2 != 0) = true := by simpa using hc
        clear hg2
        go_wp2_with (go_at_call 15; refine (value_Check.calls k x.f0 x.f1 x.f2 r2 _ (LD.below hL2.out (below_alloc (Below.refl _ _) _)) HCK.out).mono ?_; rintro e w1 ⟨rfl, hb⟩; have q0 : w1.cell? ⟨wr.heap.size, 0, none⟩ = some (.int .i64 x.f0) := pw_cell_below hb (show (wr.alloc _).cell? ⟨wr.heap.size, 0, none⟩ = some (.int .i64 x.f0) by simp [go_sem]); have q1 : w1.cell? ⟨wr.heap.size, 1, none⟩ = some (.int .i64 x.f1) := pw_cell_below hb (show (wr.alloc _).cell? ⟨wr.heap.size, 1, none⟩ = some (.int .i64 x.f1) by simp [go_sem]); have q2 : w1.cell? ⟨wr.heap.size, 2, none⟩ = some (.string x.f2) := pw_cell_below hb (show (wr.alloc _).cell? ⟨wr.heap.size, 2, none⟩ = some (.string x.f2) by simp [go_sem]); have HB1 := Aside0.mk ((below_alloc HB.out _).trans (hb.mono (below_alloc HB.out _).size)); have HO1 := Aside0.mk (Kd.R_below (Kd.R_alloc HO.out _) hb); clear hb)
        go_ret2
        exact ⟨_, rfl, Kd.R_nil _ _ _ _ _, HB1.out⟩
    · obtain rfl : j = l0.length := by omega
      have hg := HS.out
      rw [List.drop_length, key_Encode.run] at hg
      obtain ⟨rfl, rfl⟩ : r1 = ys ∧ r2 = 0 := by simpa [eq_comm] using hg
      clear hg HS
      go_wp2
      go_ret2
      exact ⟨_, rfl, HO.out, HB.out⟩

/-! ### row_number: function 64 -/
def row_number.f (a0 : Int) : Option (Int × Int × ByteArray) := some (2, a0, (⟨#[]⟩ : ByteArray))
set_option maxHeartbeats 8000000 in
set_option maxRecDepth 100000 in
theorem row_number.calls (a0 : Int) (r1 : Int) (r2 : Int) (r3 : ByteArray) (w : World) (h : row_number.f a0 = some (r1, r2, r3)) :
    Calls Tryd.prog 64 #[.int .i64 a0] w fun e w' => e = .returned (.agg #[.int .i64 r1, .int .i64 r2, .string r3]) ∧ Below w.heap.size w w' := by
  have hu23 := Tryd.underlying23
  have HB := Aside0.mk (Below.refl w.heap.size w)
  have H : (some (2, a0, (⟨#[]⟩ : ByteArray))) = some (r1, r2, r3) := h
  clear h
  simp only [Option.some.injEq, Prod.mk.injEq] at H
  obtain ⟨rfl, rfl, rfl⟩ := H
  go_enter Tryd.func64, Tryd.ntmps64
  go_wp2_with (first | ((with_reducible refine gate_dst (N := 2) rfl ?_); refine box_event ?hg (N := 2) ?hd (cs := #[.int .i64 0, .int .i64 0, .string (⟨#[]⟩ : ByteArray)]) (t := 23) ?hr ?_; (case hd => rfl); (case hg => rfl); (case hr => first | (go_simp; done) | (go_simp; rfl)); intro gb103 hg w2 hbox hb; have n0_ := Aside0.mk (below_step (by repeat (first | (with_reducible first | exact HB.out | apply below_alloc | apply pw_below_drewN | apply below_drew1) | exact HB.out)) hb); have n1_ := Aside0.mk (hbox); have n2_ := Aside0.mk ((by rw [hg]; exact (below_size (by repeat (first | (with_reducible first | exact HB.out | apply below_alloc | apply pw_below_drewN | apply below_drew1) | exact HB.out))) : w.heap.size ≤ gb103)); have n3_ := Aside0.mk ((by rw [hg]; exact (below_size (by repeat (first | (with_reducible first | exact HB.out | apply below_alloc | apply pw_below_drewN | apply below_drew1) | exact HB.out))) : w.heap.size ≤ gb103)); clear HB; have HB := n0_; have BK103 := n1_; have GW103 := n2_; have GE103 := n3_; clear n0_ n1_ n2_ n3_; clear hb hbox hg; have hcz3_0 : w2.cell? ⟨gb103, 0, none⟩ = some (.int .i64 0) := (blk_cell BK103.out 0).trans rfl; have hcz3_1 : w2.cell? ⟨gb103, 1, none⟩ = some (.int .i64 0) := (blk_cell BK103.out 1).trans rfl; have hcz3_2 : w2.cell? ⟨gb103, 2, none⟩ = some (.string (⟨#[]⟩ : ByteArray)) := (blk_cell BK103.out 2).trans rfl; have hfz3_0 := blk_frozen BK103.out 0; have hfz3_1 := blk_frozen BK103.out 1; have hfz3_2 := blk_frozen BK103.out 2))
  refine bodyPost_ret (results_cell_row rfl _ _ gb103 23 #[.int .i64 2, .int .i64 a0, .string (⟨#[]⟩ : ByteArray)] (0, 0) _ rfl (by (with_reducible repeat (first | refine blk_drewN ?_ _ | refine blk_drew ?_ | refine blk_alloc ?_ _)); refine blk_put (cs := #[.int .i64 2, .int .i64 a0, .string (⟨#[]⟩ : ByteArray)]) ?_ 2 _ rfl; (with_reducible repeat (first | refine blk_drewN ?_ _ | refine blk_drew ?_ | refine blk_alloc ?_ _)); refine blk_put (cs := #[.int .i64 2, .int .i64 0, .string (⟨#[]⟩ : ByteArray)]) ?_ 1 _ rfl; (with_reducible repeat (first | refine blk_drewN ?_ _ | refine blk_drew ?_ | refine blk_alloc ?_ _)); refine blk_put (cs := #[.int .i64 0, .int .i64 0, .string (⟨#[]⟩ : ByteArray)]) ?_ 0 _ rfl; (with_reducible repeat (first | refine blk_drewN ?_ _ | refine blk_drew ?_ | refine blk_alloc ?_ _)); exact BK103.out) Tryd.underlying23 rfl (by kernel_rfl)) rfl ?_
  exact ⟨by first | rfl | (simp [errW_none, errW_some] <;> rfl) | (simp [*, errW_none, errW_some] <;> rfl), by repeat (first | (with_reducible first | exact HB.out | apply below_alloc | apply pw_below_drewN | apply below_drew1 | refine below_set ?_ GE103.out) | exact HB.out)⟩

end Go.Proofs.YtdepkigheacdnaaDoor.PRowSpans
