-- Written by wip/pp of this repo (over the kit's print, with additions of this session); Lean checks every line.
import Derived.Test.YtaadljjfckhinabDoorPFrameSealsx0
namespace Go.Proofs.YtaadljjfckhinabDoor.PFrameSeals
open Go.RowKit Go.Proofs.YtaadljjfckhinabDoorW.PrintWords Go.Proofs.YtaadljjfckhinabDoorW.PrintLast Go.Proofs.YtaadljjfckhinabDoorW.PrintMore
attribute [local go_sem] max2_int min2_int max_two min_two max_three min_three max_four min_four   -- for this text's walks alone
set_option linter.unusedVariables false
set_option linter.unusedSimpArgs false

/-! ### commonholdlaw_octets: function 9 -/
def commonholdlaw_octets.f (l0 : List Int) : Option (List Int) := if ([] : List Int).length + l0.length < 140737488355328 then (some (([] : List Int) ++ l0)) else (none)
set_option maxHeartbeats 8000000 in
set_option maxRecDepth 100000 in
theorem commonholdlaw_octets.calls (A0 : Option Addr) (c0 : Nat) (l0 : List Int) (r : List Int) (w : World) (hr0 : Kd.C (Kd.int .u8) w A0 l0.length l0) (hc0 : l0.length ≤ c0) (h : commonholdlaw_octets.f l0 = some r) :
    Calls Tryd.prog 9 #[.slice A0 l0.length c0] w fun e w' => ∃ v0_ : Value, e = .returned (v0_) ∧ Kd.R (Kd.int .u8) 5 w' w.heap.size (fun _ => True) v0_ r ∧ Below w.heap.size w w' := by
  have HR0 := Aside0.mk hr0
  have HC0 := Aside0.mk hc0
  clear hr0 hc0
  have HB := Aside0.mk (Below.refl w.heap.size w)
  have H : (if ([] : List Int).length + l0.length < 140737488355328 then (some (([] : List Int) ++ l0)) else (none)) = some r := h
  clear h
  by_cases c2 : ([] : List Int).length + l0.length < 140737488355328
  · rw [if_pos c2] at H
    have LMc2 := Aside0.mk c2
    clear c2
    obtain ⟨y101, hy101⟩ : ∃ y_ : List Int, y_ = (([] : List Int) ++ l0) := ⟨_, rfl⟩
    replace H : (some y101) = some r := by first | (rw [hy101]; with_reducible exact H) | (have H2_ := (Option.bind_some _ _).symm.trans H; rw [hy101]; with_reducible exact H2_) | (have H2_ := (Option.bind_some _ _).symm.trans H; with_reducible exact H2_) | with_reducible exact H | (rw [hy101]; exact H) | exact H
    have Ny101 := Aside0.mk hy101
    clear hy101
    obtain rfl := Option.some.inj H
    go_enter Tryd.func9, Tryd.ntmps9
    go_wp2_with (first | ((with_reducible refine gate_builtin (b := .append) (xs := #[.const (.slice none 0 0), .tmp 3]) rfl ?_); at_builtin; refine Kd.R_append_rows (Kd.int .u8) (w0 := w) w.heap.size rfl (.const (.slice none 0 0)) (.tmp 3) 22 5 (.int .u8 0) 1 rfl Tryd.underlying22 info5 rfl (by decide) (by omega) (.slice none 0 0) ([] : List Int) l0 _ _ _ (fun _ => True) (fun _ => False) rfl rfl ?aO ?aR (fun _ _ h => h) (fun _ h => h.elim) ?aF ?aB ?aS ?aL ?_; (case aR => repeat (first | exact HR0.out | (with_reducible refine Kd.C_alloc ?_ _) | (with_reducible refine Kd.C_drewN ?_ _) | (with_reducible refine Kd.C_drew ?_))); (case aB => exact (by repeat (first | (with_reducible first | exact HB.out | apply below_alloc | apply pw_below_drewN | apply below_drew1) | exact HB.out))); (case aF => exact (fun _ _ => trivial)); (case aO => exact ((Kd.R_nil _ _ _ _ (fun _ => True)))); (case aS => exact (below_size (by repeat (first | (with_reducible first | exact HB.out | apply below_alloc | apply pw_below_drewN | apply below_drew1) | exact HB.out)))); (case aL => have := LMc2.out; omega); intro v102 w3 ho hb hg hat; rw [← Ny101.out] at ho; have n0_ := Aside0.mk (hb); have n1_ := Aside0.mk (ho); clear HB; have HB := n0_; have HO103 := n1_; clear n0_ n1_; clear ho hb hg hat))
    go_ret
    exact ⟨_, by first | rfl | (simp [errW_none, errW_some] <;> rfl) | (simp [*, errW_none, errW_some] <;> rfl), by (with_reducible repeat (first | apply Kd.R_alloc | apply Kd.R_drewN | apply Kd.R_drew)); exact HO103.out, by repeat (first | (with_reducible first | exact HB.out | apply below_alloc | apply pw_below_drewN | apply below_drew1) | exact HB.out)⟩
  · rw [if_neg c2] at H
    exact absurd H (by simp)

/-! ### commonholdlaw_sameBytes: function 15 -/
def commonholdlaw_sameBytes.l0 : Nat → List Int → List Int → Int → Option (Bool)
  | 0, _, _, _ => none
  | k + 1, x0, x1, x5 => if x5 < (x0.length : Int) then (if 0 ≤ x5 then (if x5 < (x1.length : Int) then (if (rd x0 x5) = (rd x1 x5) then (commonholdlaw_sameBytes.l0 k x0 x1 (wrap64 (x5 + 1))) else (some false)) else (none)) else (none)) else (some true)
def commonholdlaw_sameBytes.f (k : Nat) (l0 : List Int) (l1 : List Int) : Option (Bool) := if (l0.length : Int) = (l1.length : Int) then (commonholdlaw_sameBytes.l0 k l0 l1 0) else (some false)
theorem commonholdlaw_sameBytes.mono_l : ∀ k, (∀ y0 y1 y2, LeO (commonholdlaw_sameBytes.l0 k y0 y1 y2) (commonholdlaw_sameBytes.l0 (k + 1) y0 y1 y2))
  | 0 => fun _ _ _ r h => by simp [commonholdlaw_sameBytes.l0] at h
  | k + 1 => by
    have ih0 := commonholdlaw_sameBytes.mono_l k
    · intro y0 y1 y2
      unfold commonholdlaw_sameBytes.l0
      repeat' first
      | (with_reducible exact ih0 _ _ _)
      | (with_reducible exact LeO.refl _)
      | (with_reducible exact LeO.none _)
      | (with_reducible refine LeO.ite ?_ ?_)
      | (with_reducible refine LeO.bind ?_ (fun _ => ?_))
      | exact ih0 _ _ _
      | exact LeO.none _
      | refine LeO.ite ?_ ?_
      | refine LeO.bind ?_ (fun _ => ?_)
theorem commonholdlaw_sameBytes.mono : ∀ a0 a1 k, LeO (commonholdlaw_sameBytes.f k a0 a1) (commonholdlaw_sameBytes.f (k + 1) a0 a1) := by
  intro a0 a1 k
  have ih0 := commonholdlaw_sameBytes.mono_l k
  unfold commonholdlaw_sameBytes.f
  repeat' first
      | (with_reducible exact ih0 _ _ _)
      | (with_reducible exact LeO.refl _)
      | (with_reducible exact LeO.none _)
      | (with_reducible refine LeO.ite ?_ ?_)
      | (with_reducible refine LeO.bind ?_ (fun _ => ?_))
      | exact ih0 _ _ _
      | exact LeO.none _
      | refine LeO.ite ?_ ?_
      | refine LeO.bind ?_ (fun _ => ?_)
set_option maxHeartbeats 8000000 in
set_option maxRecDepth 100000 in
theorem commonholdlaw_sameBytes.calls (k : Nat) (A0 : Option Addr) (c0 : Nat) (l0 : List Int) (A1 : Option Addr) (c1 : Nat) (l1 : List Int) (r : Bool) (w : World) (hr0 : Kd.C (Kd.int .u8) w A0 l0.length l0) (hc0 : l0.length ≤ c0) (hr1 : Kd.C (Kd.int .u8) w A1 l1.length l1) (hc1 : l1.length ≤ c1) (h : commonholdlaw_sameBytes.f k l0 l1 = some r) :
    Calls Tryd.prog 15 #[.slice A0 l0.length c0, .slice A1 l1.length c1] w fun e w' => e = .returned (.bool r) ∧ Drawn0 w w' := by
  have HR0 := Aside0.mk hr0
  have HC0 := Aside0.mk hc0
  clear hr0 hc0
  have HR1 := Aside0.mk hr1
  have HC1 := Aside0.mk hc1
  clear hr1 hc1
  have H : (if (l0.length : Int) = (l1.length : Int) then (commonholdlaw_sameBytes.l0 k l0 l1 0) else (some false)) = some r := h
  clear h
  by_cases c3 : (l0.length : Int) = (l1.length : Int)
  · rw [if_pos c3] at H
    have c3b0 : ((l0.length : Int) == (l1.length : Int)) = true := beq_iff_eq.mpr c3
    have c3b1 : ((l0.length : Int) != (l1.length : Int)) = false := bne_eq_false_iff_eq.mpr c3
    have c3b2 : (l0.length == l1.length) = true := by first | simpa using c3 | (simp at c3 ⊢; omega)
    clear c3
    have H' := Aside0.mk H
    clear H
    go_enter Tryd.func15, Tryd.ntmps15
    go_wp2
    repeat (go_quiet (fail); try go_wp2)
    go_loopg [5] k (fun kq v5 w' => ∃ (x5_1 : Int), v5 = .int .i64 x5_1 ∧ Aside0 (commonholdlaw_sameBytes.l0 kq l0 l1 x5_1 = some r) ∧ Aside0 (kq ≤ k) ∧ Drawn0 w w')
    case atStart => exact ⟨(0), (by first | rfl | (simp; done) | (simp [*]; done)), H', ⟨Nat.le_refl _⟩, by repeat (first | exact Drawn0.refl _ | apply Drawn0.step)⟩
    case round =>
      clear H'
      try clear c1
      try clear p2
      try clear c3
      try clear c3b0
      try clear c3b1
      try clear c3b2
      obtain ⟨x5_1, rfl, HA, HK1, ⟨m1, rfl⟩⟩ := hrel
      cases gk with
      | zero => exact absurd HA.out (by simp [commonholdlaw_sameBytes.l0])
      | succ k1 =>
        have H := HA.out
        clear HA
        simp only [commonholdlaw_sameBytes.l0] at H
        by_cases c4 : x5_1 < (l0.length : Int)
        · rw [if_pos c4] at H
          have c4b0 : decide (x5_1 < (l0.length : Int)) = true := decide_eq_true c4
          clear c4
          by_cases c5 : 0 ≤ x5_1
          · rw [if_pos c5] at H
            have c5b0 : decide (0 ≤ x5_1) = true := decide_eq_true c5
            clear c5
            by_cases c6 : x5_1 < (l1.length : Int)
            · rw [if_pos c6] at H
              have c6b0 : decide (x5_1 < (l1.length : Int)) = true := decide_eq_true c6
              clear c6
              by_cases c7 : (rd l0 x5_1) = (rd l1 x5_1)
              · rw [if_pos c7] at H
                have c7b0 : ((rd l0 x5_1) == (rd l1 x5_1)) = true := beq_iff_eq.mpr c7
                have c7b1 : ((rd l0 x5_1) != (rd l1 x5_1)) = false := bne_eq_false_iff_eq.mpr c7
                clear c7
                have H' := Aside0.mk H
                clear H
                have p104 : 0 ≤ (x5_1 : Int) := of_decide_eq_true (by first | (with_reducible assumption) | assumption)
                have q104 : x5_1 < (l0.length : Int) := of_decide_eq_true (by first | (with_reducible assumption) | assumption)
                obtain ⟨ad104, e104, hx104_0⟩ := Kd.at_int HR0.out x5_1 p104 q104
                cases e104
                replace p104 := eq_true p104
                replace q104 := eq_true q104
                have p105 : 0 ≤ (x5_1 : Int) := of_decide_eq_true (by first | (with_reducible assumption) | assumption)
                have q105 : x5_1 < (l1.length : Int) := of_decide_eq_true (by first | (with_reducible assumption) | assumption)
                obtain ⟨ad105, e105, hx105_0⟩ := Kd.at_int HR1.out x5_1 p105 q105
                cases e105
                replace p105 := eq_true p105
                replace q105 := eq_true q105
                go_wp2
                repeat (go_quiet (fail); try go_wp2)
                go_roundg k1
                case measure => have := HK1.out; omega
                case rel => exact ⟨(wrap64 (x5_1 + 1)), (by first | rfl | (simp; done) | (simp [*]; done)), H', ⟨by have := HK1.out; omega⟩, by repeat (first | exact Drawn0.refl _ | apply Drawn0.step)⟩
              · rw [if_neg c7] at H
                have c7b0 : ((rd l0 x5_1) == (rd l1 x5_1)) = false := beq_eq_false_iff_ne.mpr c7
                have c7b1 : ((rd l0 x5_1) != (rd l1 x5_1)) = true := bne_iff_ne.mpr c7
                obtain rfl := Option.some.inj H
                have p104 : 0 ≤ (x5_1 : Int) := of_decide_eq_true (by first | (with_reducible assumption) | assumption)
                have q104 : x5_1 < (l0.length : Int) := of_decide_eq_true (by first | (with_reducible assumption) | assumption)
                obtain ⟨ad104, e104, hx104_0⟩ := Kd.at_int HR0.out x5_1 p104 q104
                cases e104
                replace p104 := eq_true p104
                replace q104 := eq_true q104
                have p105 : 0 ≤ (x5_1 : Int) := of_decide_eq_true (by first | (with_reducible assumption) | assumption)
                have q105 : x5_1 < (l1.length : Int) := of_decide_eq_true (by first | (with_reducible assumption) | assumption)
                obtain ⟨ad105, e105, hx105_0⟩ := Kd.at_int HR1.out x5_1 p105 q105
                cases e105
                replace p105 := eq_true p105
                replace q105 := eq_true q105
                go_wp2
                repeat (go_quiet (fail); try go_wp2)
                go_ret
                exact ⟨by first | rfl | (simp; done) | (simp [*]; done), by repeat (first | exact Drawn0.refl _ | apply Drawn0.step)⟩
            · rw [if_neg c6] at H
              exact absurd H (by simp)
          · rw [if_neg c5] at H
            exact absurd H (by simp)
        · rw [if_neg c4] at H
          have c4b0 : decide (x5_1 < (l0.length : Int)) = false := decide_eq_false c4
          clear c4
          obtain rfl := Option.some.inj H
          go_wp2
          repeat (go_quiet (fail); try go_wp2)
          go_ret
          exact ⟨by first | rfl | (simp; done) | (simp [*]; done), by repeat (first | exact Drawn0.refl _ | apply Drawn0.step)⟩
  · rw [if_neg c3] at H
    have c3b0 : ((l0.length : Int) == (l1.length : Int)) = false := beq_eq_false_iff_ne.mpr c3
    have c3b1 : ((l0.length : Int) != (l1.length : Int)) = true := bne_iff_ne.mpr c3
    have c3b2 : (l0.length == l1.length) = false := by first | simpa using c3 | (simp at c3 ⊢; omega)
    obtain rfl := Option.some.inj H
    go_enter Tryd.func15, Tryd.ntmps15
    go_wp2
    repeat (go_quiet (fail); try go_wp2)
    go_ret
    exact ⟨by first | rfl | (simp; done) | (simp [*]; done), by repeat (first | exact Drawn0.refl _ | apply Drawn0.step)⟩

/-! ### sum_More: function 21, by hand -/
-- HAND rounds=0 making=0 laid=1 imports=Derived.Lib.LaidTab,Derived.Lib.LaidU8
def sum_More.tab : List Int := [0, 498536548, 997073096, 651767980, 1994146192, 1802195444, 1303535960, 1342533948, 3988292384, 4027552580, 3604390888, 3412177804, 2607071920, 2262029012, 2685067896, 3183342108]
def sum_More.at (c : Int) : Int := sum_More.tab.getD (Go.bits .and .u32 c 15).toNat 0
/-- One byte more. -/
def sum_More.stp (z x : Int) : Int :=
  Go.bits .xor .u32 (Go.bits .xor .u32 (Go.bits .xor .u32 z (x % 4294967296) / 16) (sum_More.at (Go.bits .xor .u32 z (x % 4294967296))) / 16)
    (sum_More.at (Go.bits .xor .u32 (Go.bits .xor .u32 z (x % 4294967296) / 16) (sum_More.at (Go.bits .xor .u32 z (x % 4294967296)))))
def sum_More.run : Int → List Int → Int
  | z, [] => z
  | z, x :: r => sum_More.run (sum_More.stp z x) r
def sum_More.f (a0 : Int) (l1 : List Int) : Option (Int × Int) :=
  if 0 ≤ a0 ∧ a0 < 4294967296 then some (Go.bits .xor .u32 4294967295 (sum_More.run (Go.bits .xor .u32 4294967295 a0) l1), 0) else if -9223372036854775808 ≤ a0 ∧ a0 < 9223372036854775808 then some (0, 2) else none
theorem sum_More.xor_range (a b : Int) : 0 ≤ Go.bits .xor .u32 a b ∧ Go.bits .xor .u32 a b < 4294967296 := by
  show 0 ≤ IntKind.u32.wrap ((BitVec.ofInt 32 a ^^^ BitVec.ofInt 32 b).toNat : Int) ∧ IntKind.u32.wrap ((BitVec.ofInt 32 a ^^^ BitVec.ofInt 32 b).toNat : Int) < 4294967296
  rw [IntKind.wrap_u32]
  omega
theorem sum_More.and_range (c : Int) : 0 ≤ Go.bits .and .u32 c 15 ∧ Go.bits .and .u32 c 15 < 16 := by
  show 0 ≤ IntKind.u32.wrap ((BitVec.ofInt 32 c &&& BitVec.ofInt 32 15).toNat : Int) ∧ IntKind.u32.wrap ((BitVec.ofInt 32 c &&& BitVec.ofInt 32 15).toNat : Int) < 16
  rw [IntKind.wrap_u32, BitVec.toNat_and]
  have h := @Nat.and_le_right (BitVec.ofInt 32 c).toNat (BitVec.ofInt 32 15).toNat
  have e : (BitVec.ofInt 32 15).toNat = 15 := by decide
  omega
theorem sum_More.laid_tab : (Rows.laid_commonhold_sum_step : DataW Unit) = Lib.tabData .u32 sum_More.tab := by kernel_rfl
theorem LD.step {w : World} (h : LD w) : ∃ L0 : World, Lib.TabIs Tryd.prog L0 "commonhold/sum.step" .u32 sum_More.tab ∧ Below L0.heap.size L0 w := by
  obtain ⟨L0, h1, h2⟩ := h
  refine ⟨L0, ?_, h2⟩
  obtain ⟨g, t, cs, fuel, p, hg, ht, hv, hd⟩ := Lib.laidMet.reads h1 LD.in_commonhold_sum_step
  have hg' : Tryd.prog.globalNamed "commonhold/sum.step" = some 1 := by kernel_rfl
  obtain rfl := Option.some.inj (hg'.symm.trans hg)
  have ht' : (Tryd.prog.globals[(1 : Nat)]?).map (·.type) = some 50 := by kernel_rfl
  obtain rfl := Option.some.inj (ht'.symm.trans ht)
  rw [sum_More.laid_tab] at hd
  have hc := Lib.cells_of_tab (n := 16) (e := 49) (by kernel_rfl) (by kernel_rfl) (by kernel_rfl) (by kernel_rfl) hd
  unfold Lib.TabIs
  rw [hv, ← hc]
theorem LD.cell {w : World} (h : LD w) (c : Int) : w.cell? ⟨1, (Go.bits .and .u32 c 15).toNat, none⟩ = some (.int .u32 (sum_More.at c)) := by
  obtain ⟨L0, h1, h2⟩ := h.step
  exact pw_cell_below h2 (h1.cell (by kernel_rfl) _ (by have := sum_More.and_range c; unfold sum_More.tab; simp; omega))
set_option maxRecDepth 100000 in
set_option maxHeartbeats 2000000 in
theorem sum_More.calls (a0 : Int) (A1 : Option Addr) (c1 : Nat) (l1 : List Int) (r1 : Int) (r2 : Int) (w : World) (hr1 : Kd.C (Kd.int .u8) w A1 l1.length l1) (hc1 : l1.length ≤ c1) (hL : LD w) (h : sum_More.f a0 l1 = some (r1, r2)) :
    Calls Tryd.prog 21 #[.int .i64 a0, .slice A1 l1.length c1] w fun e w' => e = .returned (.tuple #[.int .i64 r1, .int .i64 r2]) ∧ Drawn0 w w' := by
  have hm := hr1.2.1
  have HR := Aside0.mk hr1
  have HL := Aside0.mk hL
  have HF := Aside0.mk h
  clear hr1 h hL
  unfold sum_More.f at HF
  by_cases hb : 0 ≤ a0 ∧ a0 < 4294967296
  · obtain ⟨R, hR⟩ : ∃ R, sum_More.run (Go.bits .xor .u32 4294967295 a0) l1 = R := ⟨_, rfl⟩
    have HX := Aside0.mk (sum_More.xor_range 4294967295 a0)
    rw [if_pos hb, hR] at HF
    obtain ⟨rfl, rfl⟩ := Prod.mk.inj (Option.some.inj HF.out)
    clear HF
    have HRUN := Aside0.mk hR
    clear hR
    go_enter Tryd.func21, Tryd.ntmps21
    go_wp2
    go_loopw [18, 6] (fun i c wr => ∃ (k : Nat) (z : Int), k ≤ l1.length ∧ i = .int .i64 k ∧ c = .int .u32 z ∧ (0 ≤ z ∧ z < 4294967296) ∧ Aside0 (sum_More.run z (l1.drop k) = R) ∧ Drawn0 w wr) (fun i _ _ => l1.length - (intOf i).toNat)
    case atStart => exact ⟨0, _, Nat.zero_le _, rfl, rfl, HX.out, HRUN, ⟨0, rfl⟩⟩
    case round =>
      obtain ⟨k, z, hk, rfl, rfl, hz, hrun, nd, rfl⟩ := hrel
      by_cases hlt : k < l1.length
      · obtain ⟨ai, rfl, h3⟩ := Kd.at_int HR.out (k : Int) (by omega) (by omega)
        have h3' : w.cell? (ai.add k) = some (.int .u8 (rd l1 k)) := by simpa using h3
        clear h3
        have hdr : l1.drop k = rd l1 (k : Int) :: l1.drop (k + 1) := by
          rw [List.drop_eq_getElem_cons hlt]
          simp [rd, List.getD_eq_getElem?_getD, hlt]
        have hru := hrun.out
        rw [hdr] at hru
        have HRU := Aside0.mk hru
        clear hru hdr hrun
        generalize hx : rd l1 (k : Int) = x at *
        have b1 := sum_More.and_range (Go.bits .xor .u32 z (x % 4294967296))
        have b2 := sum_More.and_range (Go.bits .xor .u32 (Go.bits .xor .u32 z (x % 4294967296) / 16) (sum_More.at (Go.bits .xor .u32 z (x % 4294967296))))
        have t1 := LD.cell HL.out (Go.bits .xor .u32 z (x % 4294967296))
        have t2 := LD.cell HL.out (Go.bits .xor .u32 (Go.bits .xor .u32 z (x % 4294967296) / 16) (sum_More.at (Go.bits .xor .u32 z (x % 4294967296))))
        go_wp2
        exact ⟨⟨k + 1, _, by omega, by go_num, rfl, sum_More.xor_range _ _, HRU, ⟨nd, rfl⟩⟩, by simp [intOf]; omega⟩
      · have hkl : k = l1.length := by omega
        subst hkl
        have hR : z = R := by
          have := hrun.out
          rwa [List.drop_length] at this
        subst hR
        have hx := sum_More.xor_range 4294967295 z
        have hw : wrap64 (bits BinOp.xor IntKind.u32 IntKind.u32.max z) = bits BinOp.xor IntKind.u32 4294967295 z := by
          show wrap64 (bits BinOp.xor IntKind.u32 4294967295 z) = _
          unfold wrap64
          omega
        have HW := Aside0.mk hw
        clear hw hrun HRUN HX
        go_wp2
        go_ret2
        rw [HW.out]
        exact ⟨rfl, ⟨nd, rfl⟩⟩
  · rw [if_neg hb] at HF
    by_cases hb2 : -9223372036854775808 ≤ a0 ∧ a0 < 9223372036854775808
    · rw [if_pos hb2] at HF
      obtain ⟨rfl, rfl⟩ := Prod.mk.inj (Option.some.inj HF.out)
      clear HF
      have hq : (IntKind.u64.wrap a0 / 4294967296 != 0) = true := by
        rw [IntKind.wrap_u64]
        simp
        omega
      by_cases hneg : a0 < 0
      · go_enter Tryd.func21, Tryd.ntmps21
        go_wp2
        go_ret2
        exact ⟨rfl, ⟨0, rfl⟩⟩
      · have hq2 : (a0 / 4294967296 != 0) = true := by simp; omega
        clear hq
        go_enter Tryd.func21, Tryd.ntmps21
        go_wp2
        go_ret2
        exact ⟨rfl, ⟨0, rfl⟩⟩
    · rw [if_neg hb2] at HF
      cases HF.out

/-! ### sum_Of: function 8 -/
def sum_Of.f (l0 : List Int) : Option (Int) := (sum_More.f 0 l0).bind fun bt106 => (some bt106.1)
set_option maxHeartbeats 8000000 in
set_option maxRecDepth 100000 in
theorem sum_Of.calls (A0 : Option Addr) (c0 : Nat) (l0 : List Int) (r : Int) (w : World) (hr0 : Kd.C (Kd.int .u8) w A0 l0.length l0) (hc0 : l0.length ≤ c0) (hL : LD w) (h : sum_Of.f l0 = some r) :
    Calls Tryd.prog 8 #[.slice A0 l0.length c0] w fun e w' => e = .returned (.int .i64 r) ∧ Drawn0 w w' := by
  have HLD := Aside0.mk hL
  clear hL
  have HR0 := Aside0.mk hr0
  have HC0 := Aside0.mk hc0
  clear hr0 hc0
  have H : ((sum_More.f 0 l0).bind fun bt106 => (some bt106.1)) = some r := h
  clear h
  replace H := Option.bind_eq_some_iff.mp H
  obtain ⟨⟨t106, t107⟩, A20, H⟩ := H
  replace H : (some t106) = some r := H
  have A2 := Aside0.mk A20
  clear A20
  obtain rfl := Option.some.inj H
  go_enter Tryd.func8, Tryd.ntmps8
  go_wp2_with (first | ((with_reducible refine gate_callee (f := 21) rfl ?_); refine goesL_ (some 7) rfl rfl Tryd.func21 (by kernel_rfl) rfl #[.int .i64 0, .slice A0 l0.length c0] rfl (by (try simp only [List.map_toArray, List.map_cons, List.map_nil]); first | done | rfl | (simp only [List.length_drop, List.length_take]; rfl)) ?_; (with_reducible refine (sum_More.calls 0 _ _ l0 t106 t107 _ ?side1 ?side2 ?side3 A2.out).mono ?_); (case side1 => repeat (first | exact HR0.out | (with_reducible refine Kd.C_alloc ?_ _) | (with_reducible refine Kd.C_drewN ?_ _) | (with_reducible refine Kd.C_drew ?_))); (case side2 => exact HC0.out); (case side3 => exact LD.below HLD.out (by first | (with_reducible exact Below.refl _ _) | ((repeat (first | (with_reducible exact Below.refl _ _) | (with_reducible apply below_alloc) | (with_reducible apply pw_below_drewN) | (with_reducible apply below_drew1))); done) | exact (by repeat (first | (with_reducible first | exact HB.out | apply below_alloc | apply pw_below_drewN | apply below_drew1) | exact HB.out)))); rintro e w' ⟨rfl, ⟨nd, rfl⟩⟩; refine ⟨_, rfl, ?_⟩))
  go_ret
  exact ⟨by first | rfl | (simp; done) | (simp [*]; done), by repeat (first | exact Drawn0.refl _ | apply Drawn0.step)⟩

/-! ### frame_word: function 27, by hand -/
-- HAND rounds=0 making=1 imports=Derived.IntWalk
def frame_word.f (_a0 : Int) : Option Int := none
/-- The byte at place i. -/
def frame_word.b (n : Int) (i : Nat) : Int := n / 2 ^ (8 * i) % 256
theorem frame_word.b0 (n : Int) : n % 256 = frame_word.b n 0 := by unfold frame_word.b; simp
theorem frame_word.b1 (n : Int) : n / 256 % 256 = frame_word.b n 1 := rfl
theorem frame_word.b2 (n : Int) : n / 65536 % 256 = frame_word.b n 2 := rfl
theorem frame_word.b3 (n : Int) : n / 16777216 % 256 = frame_word.b n 3 := rfl
set_option maxRecDepth 100000 in
set_option maxHeartbeats 4000000 in
theorem frame_word.word (n : Int) (w : World) :
    Calls Tryd.prog 27 #[.int .i64 n] w fun e w' => e = .returned (.agg #[.int .u8 (frame_word.b n 0), .int .u8 (frame_word.b n 1), .int .u8 (frame_word.b n 2), .int .u8 (frame_word.b n 3)]) ∧ Below w.heap.size w w' := by
  go_enter Tryd.func27, Tryd.ntmps27
  go_wp2
  go_loopw [4, 5] (fun _ i wr => ∃ k : Nat, k ≤ 4 ∧ i = .int .i64 k ∧ Aside0 (wr = (w.alloc (.cells #[.int .u8 0, .int .u8 0, .int .u8 0, .int .u8 0] 43)).alloc (.cells #[.int .u8 (if 0 < k then frame_word.b n 0 else 0), .int .u8 (if 1 < k then frame_word.b n 1 else 0), .int .u8 (if 2 < k then frame_word.b n 2 else 0), .int .u8 (if 3 < k then frame_word.b n 3 else 0)] 43))) (fun _ i _ => 4 - (intOf i).toNat)
  case atStart => exact ⟨0, by omega, rfl, ⟨rfl⟩⟩
  case round =>
    obtain ⟨k, hk, rfl, HW⟩ := hrel
    obtain rfl := HW.out
    clear HW
    have hk' : k = 0 ∨ k = 1 ∨ k = 2 ∨ k = 3 ∨ k = 4 := by omega
    rcases hk' with rfl | rfl | rfl | rfl | rfl
    · go_wp2
      exact ⟨⟨1, by omega, rfl, ⟨by rw [frame_word.b0]; simp [go_sem]⟩⟩, by simp [intOf]⟩
    · go_wp2
      exact ⟨⟨2, by omega, rfl, ⟨by rw [frame_word.b1]; simp [go_sem]⟩⟩, by simp [intOf]⟩
    · go_wp2
      exact ⟨⟨3, by omega, rfl, ⟨by rw [frame_word.b2]; simp [go_sem]⟩⟩, by simp [intOf]⟩
    · go_wp2
      exact ⟨⟨4, by omega, rfl, ⟨by rw [frame_word.b3]; simp [go_sem]⟩⟩, by simp [intOf]⟩
    · go_wp2
      exact bodyPost_ret (v := .agg #[.int .u8 (frame_word.b n 0), .int .u8 (frame_word.b n 1), .int .u8 (frame_word.b n 2), .int .u8 (frame_word.b n 3)]) (by simp [results, Tryd.f27, go_sem]) rfl ⟨rfl, below_alloc (below_alloc (Below.refl _ _) _) _⟩

/-! ### slices_Grow_byte_byte: function 34, by hand -/
-- HAND rounds=0 making=1 imports=Derived.Laws.Cover3
-- INFO 5
def slices_Grow_byte_byte.f (_l0 : List (Int)) (_a1 : Int) : Option (List (Int)) := none
set_option maxRecDepth 100000 in
set_option maxHeartbeats 2000000 in
/-- Room for n, at nil. -/
theorem slices_Grow_byte_byte.nil (n : Nat) (w : World) (hn : n * 1 < 140737488355328) :
    Calls Tryd.prog 34 #[.slice none 0 0, .int .i64 (n : Int)] w fun e w' => ∃ A c, e = .returned (.slice A 0 c) ∧ Kd.R (Kd.int .u8) 5 w' w.heap.size (fun _ => True) (.slice A 0 c) ([] : List (Int)) ∧ Below w.heap.size w w' := by
  have LM := Aside0.mk hn
  by_cases h0 : n = 0
  · subst h0
    clear hn
    go_enter Tryd.func34, Tryd.ntmps34
    go_wp2
    go_ret
    exact ⟨none, 0, rfl, Kd.R_nil _ _ _ _ _, Below.refl _ _⟩
  · have hp : (0 : Int) < (n : Int) := by omega
    have hd : decide ((0 : Int) < (n : Int)) = true := by simp; omega
    have hd2 : decide (0 < n) = true := by simp; omega
    clear h0
    go_enter Tryd.func34, Tryd.ntmps34
    go_wp2_with (at_builtin; refine Kd.R_append_zeros (Kd.int .u8) (w0 := w) w.heap.size rfl (.tmp 20) (.tmp 21) 22 3 5 (.int .u8 0) 1 rfl Tryd.underlying22 Tryd.underlying3 info5 rfl (by decide) (by omega) (.slice none 0 0) ([] : List (Int)) (0) (n : Int) (fun _ => True) rfl rfl (rfl) (fun _ _ => trivial) (Kd.R_nil _ _ _ _ _) (by omega) (Below.refl _ _) (Nat.le_refl _) (by have := LM.out; simp only [List.length_nil, Int.toNat_natCast]; omega) ?_; intro v1 w1 ho hb hg hat; (obtain ⟨A1, c1, rfl⟩ := Kd.R_slice ho); rw [Int.toNat_natCast, List.nil_append, List.length_replicate] at ho; have hl1 := (Kd.R_reads' ho).2.1; have HO := Aside0.mk ho; have HB := Aside0.mk hb; clear ho hb hg hat; (simp only [List.nil_append, Int.toNat_natCast, List.length_replicate]))
    go_ret
    exact ⟨A1, c1, rfl, Kd.R_take (m := 0) HO.out (by simp), HB.out⟩

/-! ### slices_Concat_byte_byte: function 28, by hand -/
-- HAND rounds=0 making=1 imports=Derived.Laws.Cover3
-- INFO 5
def slices_Concat_byte_byte.sum (l : List (List (Int))) : Nat := (l.map List.length).sum
/-- One behind the other. -/
def slices_Concat_byte_byte.f (l0 : List (List (Int))) : Option (List (Int)) := if slices_Concat_byte_byte.sum l0 * 1 < 140737488355328 then some l0.flatten else none
theorem slices_Concat_byte_byte.flat (l : List (List (Int))) : l.flatten.length = slices_Concat_byte_byte.sum l := by
  unfold slices_Concat_byte_byte.sum
  rw [List.length_flatten]
theorem slices_Concat_byte_byte.sum_at (l : List (List (Int))) (k : Nat) (h : k < l.length) : slices_Concat_byte_byte.sum (l.take (k + 1)) = slices_Concat_byte_byte.sum (l.take k) + (l[k]?.getD []).length := by
  unfold slices_Concat_byte_byte.sum
  rw [List.take_succ_eq_append_getElem h, List.map_append, List.sum_append, List.getElem?_eq_getElem h]
  simp
theorem slices_Concat_byte_byte.flat_at (l : List (List (Int))) (k : Nat) (h : k < l.length) : (l.take (k + 1)).flatten = (l.take k).flatten ++ (l[k]?.getD []) := by
  rw [List.take_succ_eq_append_getElem h, List.flatten_append, List.getElem?_eq_getElem h]
  simp
theorem slices_Concat_byte_byte.sum_le (l : List (List (Int))) (k : Nat) : slices_Concat_byte_byte.sum (l.take k) ≤ slices_Concat_byte_byte.sum l := by
  have h : slices_Concat_byte_byte.sum (l.take k) + slices_Concat_byte_byte.sum (l.drop k) = slices_Concat_byte_byte.sum l := by
    unfold slices_Concat_byte_byte.sum
    rw [← List.sum_append, ← List.map_append, List.take_append_drop]
  omega
theorem slices_Concat_byte_byte.at_ {w : World} {A : Option Addr} {l : List (List (Int))} (h : Kd.C (Kd.slice 5 (Kd.int .u8)) w A l.length l) (k : Nat) (hk : k < l.length) :
    ∃ ad A1 c1, A = some ad ∧ w.cell? (ad.add k) = some (.slice A1 (l[k]?.getD []).length c1) ∧ (l[k]?.getD []).length ≤ c1 ∧ Kd.C (Kd.int .u8) w A1 (l[k]?.getD []).length (l[k]?.getD []) := by
  obtain ⟨ad, c, hA, hl, hK, hc⟩ := Kd.C_get h [] (k : Int) (by omega) (by omega)
  obtain ⟨A1, c1, rfl, h1, h2⟩ := hK
  have e : l.getD (k : Int).toNat [] = l[k]?.getD [] := by rw [Int.toNat_natCast, List.getD_eq_getElem?_getD]
  rw [e] at h1 h2 hc
  refine ⟨ad, A1, c1, hA, ?_, h1, h2⟩
  have := hc 0 _ rfl
  rw [Int.toNat_natCast] at this
  rwa [show k * (Kd.slice 5 (Kd.int .u8)).sz + 0 = k from by show k * 1 + 0 = k; omega] at this
set_option maxRecDepth 100000 in
set_option maxHeartbeats 4000000 in
theorem slices_Concat_byte_byte.calls (A0 : Option Addr) (c0 : Nat) (l0 : List (List (Int))) (r : List (Int)) (w : World) (hr0 : Kd.C (Kd.slice 5 (Kd.int .u8)) w A0 l0.length l0) (hc0 : l0.length ≤ c0) (h : slices_Concat_byte_byte.f l0 = some r) :
    Calls Tryd.prog 28 #[.slice A0 l0.length c0] w fun e w' => ∃ v0_ : Value, e = .returned (v0_) ∧ Kd.R (Kd.int .u8) 5 w' w.heap.size (fun _ => True) v0_ r ∧ Below w.heap.size w w' := by
  have hm := hr0.2.1
  have HR := Aside0.mk hr0
  clear hr0
  unfold slices_Concat_byte_byte.f at h
  split at h
  · rename_i hb
    obtain rfl := Option.some.inj h
    clear h
    have LM := Aside0.mk hb
    clear hb
    go_enter Tryd.func28, Tryd.ntmps28
    go_wp2
    go_loop [3, 5, 11] (fun s _ i => ∃ k : Nat, k ≤ l0.length ∧ i = .int .i64 k ∧ s = .int .i64 ((slices_Concat_byte_byte.sum (l0.take k) : Nat) : Int)) (fun _ _ i => l0.length - (intOf i).toNat)
    case atStart => exact ⟨0, Nat.zero_le _, rfl, rfl⟩
    case round =>
      obtain ⟨k, hk, rfl, rfl⟩ := hrel
      by_cases hlt : k < l0.length
      · obtain ⟨ad, A1, c1, rfl, hce, hl1, hin⟩ := slices_Concat_byte_byte.at_ HR.out k hlt
        have hs := slices_Concat_byte_byte.sum_at l0 k hlt
        have hle := slices_Concat_byte_byte.sum_le l0 (k + 1)
        have hlm := LM.out
        generalize (l0[k]?.getD []) = x at *
        have hle2 : slices_Concat_byte_byte.sum (l0.take k) + x.length < 140737488355328 := by omega
        have HS := Aside0.mk hs
        clear hs hle hlm hin
        generalize slices_Concat_byte_byte.sum (l0.take k) = q at *
        go_wp2
        go_round
        case rel => exact ⟨k + 1, by omega, by go_num, by rw [HS.out]; go_num⟩
        case measure => simp [intOf]; omega
      · obtain rfl : k = l0.length := by omega
        have hlm := LM.out
        rw [List.take_length]
        have HF := Aside0.mk (slices_Concat_byte_byte.flat l0)
        have hq : slices_Concat_byte_byte.sum l0 < 140737488355328 := by omega
        generalize hQ : slices_Concat_byte_byte.sum l0 = q at *
        have HQ := Aside0.mk hQ
        clear hQ
        go_wp2_with (go_at_call 34; (with_reducible refine (slices_Grow_byte_byte.nil q _ LM.out).mono ?_); rintro e w1 ⟨Ag, cg, rfl, hR, hB⟩; have HO := Aside0.mk hR; have HB := Aside0.mk hB; clear hR hB)
        go_loopw [6, 8, 27] (fun v _ i wr => ∃ (k : Nat) (A2 : Option Addr) (c2 : Nat), k ≤ l0.length ∧ i = .int .i64 k ∧ v = .slice A2 (l0.take k).flatten.length c2 ∧ Aside0 (Kd.R (Kd.int .u8) 5 wr w.heap.size (fun _ => True) v (l0.take k).flatten) ∧ Aside0 (Below w.heap.size w wr)) (fun _ _ i _ => l0.length - (intOf i).toNat)
        case atStart => exact ⟨0, Ag, cg, Nat.zero_le _, rfl, rfl, HO, HB⟩
        case round =>
          obtain ⟨k, A2, c2, hk, rfl, rfl, HO2, HB2⟩ := hrel
          by_cases hlt : k < l0.length
          · obtain ⟨ad, A1, c1, rfl, hce0, hl1, hin0⟩ := slices_Concat_byte_byte.at_ HR.out k hlt
            have hce := pw_cell_below HB2.out hce0
            have HIN := Aside0.mk (Kd.C_below hin0 HB2.out)
            have hfl := slices_Concat_byte_byte.flat_at l0 k hlt
            have h1 := slices_Concat_byte_byte.flat (l0.take k)
            have h2 := slices_Concat_byte_byte.sum_at l0 k hlt
            have h3 := slices_Concat_byte_byte.sum_le l0 (k + 1)
            have hsz : ((l0.take k).flatten.length + (l0[k]?.getD []).length) * 1 < 140737488355328 := by
              have := LM.out
              have := HQ.out
              omega
            generalize (l0[k]?.getD []) = x at *
            have HFL := Aside0.mk hfl
            have SZ := Aside0.mk hsz
            clear hce0 hin0 hfl h1 h2 h3 hsz
            generalize (l0.take k).flatten = y at *
            go_wp2_with (at_builtin; refine Kd.R_append_rows (Kd.int .u8) (w0 := w) w.heap.size rfl (.tmp 31) (.tmp 32) 22 5 (.int .u8 0) 1 rfl Tryd.underlying22 info5 rfl (by decide) (by omega) (.slice A2 y.length c2) y x _ _ _ (fun _ => True) (fun _ => False) rfl rfl ?aO ?aR (fun _ _ h => h) (fun _ h => h.elim) (fun _ _ => trivial) ?aB ?aS ?aL ?_; (case aO => first | exact HO2.out | exact Kd.R_drewN HO2.out _ | exact Kd.R_drew HO2.out); (case aR => first | exact HIN.out | exact Kd.C_drewN HIN.out _ | exact Kd.C_drew HIN.out); (case aB => first | exact HB2.out | exact pw_below_drewN HB2.out _ | exact below_drew1 HB2.out); (case aS => have := HB2.out.size; simpa using this); (case aL => have := SZ.out; omega); intro v3 w3 ho hb hg hat; (obtain ⟨A3, c3, rfl⟩ := Kd.R_slice ho); have HO3 := Aside0.mk ho; have HB3 := Aside0.mk hb; clear ho hb hg hat)
            go_roundw
            case rel => exact ⟨k + 1, A3, c3, by omega, by go_num, by rw [HFL.out, List.length_append], by rw [HFL.out]; have h_ := HO3.out; rw [List.length_append] at h_; exact ⟨h_⟩, HB3⟩
            case measure => simp [intOf]; omega
          · obtain rfl : k = l0.length := by omega
            rw [List.take_length] at HO2 ⊢
            go_wp2
            go_ret
            exact ⟨_, rfl, HO2.out, HB2.out⟩
  · cases h

/-! ### frame_Seal: function 16, by hand -/
-- HAND rounds=0 making=1 laid=1 imports=Derived.Laws.Cover3,Derived.Deep.RegionHeld3
def frame_Seal.four (n : Int) : List Int := [frame_word.b n 0, frame_word.b n 1, frame_word.b n 2, frame_word.b n 3]
def frame_Seal.f (l0 : List Int) : Option (List Int × Int) :=
  if (l0.length : Int) > 4000 then some ([], 1) else (sum_Of.f l0).bind fun s => some (frame_Seal.four l0.length ++ frame_Seal.four s ++ l0, 0)
theorem frame_Seal.lit4 {w : World} {b : Nat} {n : Int} (h0 : w.cell? ⟨b, 0, none⟩ = some (.int .u8 (frame_word.b n 0))) (h1 : w.cell? ⟨b, 1, none⟩ = some (.int .u8 (frame_word.b n 1))) (h2 : w.cell? ⟨b, 2, none⟩ = some (.int .u8 (frame_word.b n 2))) (h3 : w.cell? ⟨b, 3, none⟩ = some (.int .u8 (frame_word.b n 3))) :
    Kd.C (Kd.int .u8) w (some ⟨b, 0, none⟩) (frame_Seal.four n).length (frame_Seal.four n) := by
  refine ⟨rfl, by simp [frame_Seal.four], fun _ => ⟨_, rfl, fun j q hq => ⟨[.int .u8 q], rfl, rfl, fun i u hu => ?_⟩⟩⟩
  obtain rfl : i = 0 := by
    rcases i with _ | i
    · rfl
    · simp at hu
  obtain rfl : Value.int .u8 q = u := by simpa using hu
  rw [show (⟨b, 0, none⟩ : Addr).add (j * (Kd.int .u8).sz + 0) = ⟨b, j, none⟩ from by rw [add_plain]; show (⟨_, j * 1 + 0, none⟩ : Addr) = _; simp]
  have hj : j < 4 := (List.getElem?_eq_some_iff.1 hq).1
  have hj' : j = 0 ∨ j = 1 ∨ j = 2 ∨ j = 3 := by omega
  rcases hj' with rfl | rfl | rfl | rfl <;> (simp [frame_Seal.four] at hq; subst hq; assumption)
theorem frame_Seal.rows3 {w : World} {b : Nat} {A1 A2 A3 : Option Addr} {c1 c2 c3 : Nat} {l1 l2 l3 : List Int} (k1 : l1.length ≤ c1) (k2 : l2.length ≤ c2) (k3 : l3.length ≤ c3)
    (h0 : w.cell? ⟨b, 0, none⟩ = some (.slice A1 l1.length c1)) (h1 : w.cell? ⟨b, 1, none⟩ = some (.slice A2 l2.length c2)) (h2 : w.cell? ⟨b, 2, none⟩ = some (.slice A3 l3.length c3))
    (g1 : Kd.C (Kd.int .u8) w A1 l1.length l1) (g2 : Kd.C (Kd.int .u8) w A2 l2.length l2) (g3 : Kd.C (Kd.int .u8) w A3 l3.length l3) :
    Kd.C (Kd.slice 5 (Kd.int .u8)) w (some ⟨b, 0, none⟩) [l1, l2, l3].length [l1, l2, l3] := by
  refine ⟨rfl, by simp, fun _ => ⟨_, rfl, fun j q hq => ?_⟩⟩
  have e : ∀ i, (⟨b, 0, none⟩ : Addr).add (j * (Kd.slice 5 (Kd.int .u8)).sz + i) = ⟨b, j + i, none⟩ := fun i => by rw [add_plain]; show (⟨_, j * 1 + i, none⟩ : Addr) = _; simp
  have hj : j < 3 := (List.getElem?_eq_some_iff.1 hq).1
  have hj' : j = 0 ∨ j = 1 ∨ j = 2 := by omega
  have one : ∀ (v : Value) (i : Nat) (u : Value), [v][i]? = some u → i = 0 ∧ u = v := by
    intro v i u hu
    rcases i with _ | i
    · exact ⟨rfl, by simpa [eq_comm] using hu⟩
    · simp at hu
  rcases hj' with rfl | rfl | rfl
  · obtain rfl : l1 = q := by simpa using hq
    exact ⟨_, rfl, ⟨A1, c1, rfl, k1, g1⟩, fun i u hu => by obtain ⟨rfl, rfl⟩ := one _ i u hu; rw [e]; exact h0⟩
  · obtain rfl : l2 = q := by simpa using hq
    exact ⟨_, rfl, ⟨A2, c2, rfl, k2, g2⟩, fun i u hu => by obtain ⟨rfl, rfl⟩ := one _ i u hu; rw [e]; exact h1⟩
  · obtain rfl : l3 = q := by simpa using hq
    exact ⟨_, rfl, ⟨A3, c3, rfl, k3, g3⟩, fun i u hu => by obtain ⟨rfl, rfl⟩ := one _ i u hu; rw [e]; exact h2⟩
theorem frame_Seal.concat {W : World} {b : Nat} {A1 A2 A3 : Option Addr} {c1 c2 c3 : Nat} {l1 l2 l3 : List Int} (hs : l1.length + l2.length + l3.length < 140737488355328) (k1 : l1.length ≤ c1) (k2 : l2.length ≤ c2) (k3 : l3.length ≤ c3)
    (h0 : W.cell? ⟨b, 0, none⟩ = some (.slice A1 l1.length c1)) (h1 : W.cell? ⟨b, 1, none⟩ = some (.slice A2 l2.length c2)) (h2 : W.cell? ⟨b, 2, none⟩ = some (.slice A3 l3.length c3))
    (g1 : Kd.C (Kd.int .u8) W A1 l1.length l1) (g2 : Kd.C (Kd.int .u8) W A2 l2.length l2) (g3 : Kd.C (Kd.int .u8) W A3 l3.length l3) :
    Calls Tryd.prog 28 #[.slice (some ⟨b, 0, none⟩) 3 3] W fun e w' => ∃ v0_ : Value, e = .returned (v0_) ∧ Kd.R (Kd.int .u8) 5 w' W.heap.size (fun _ => True) v0_ (l1 ++ l2 ++ l3) ∧ Below W.heap.size W w' :=
  slices_Concat_byte_byte.calls (some ⟨b, 0, none⟩) 3 [l1, l2, l3] (l1 ++ l2 ++ l3) W (frame_Seal.rows3 k1 k2 k3 h0 h1 h2 g1 g2 g3) (by simp) (by
    unfold slices_Concat_byte_byte.f slices_Concat_byte_byte.sum
    rw [if_pos (by simp; omega)]
    simp)
set_option maxRecDepth 100000 in
set_option maxHeartbeats 4000000 in
theorem frame_Seal.calls (A0 : Option Addr) (c0 : Nat) (l0 : List Int) (r1 : List Int) (r2 : Int) (w : World) (hr0 : Kd.C (Kd.int .u8) w A0 l0.length l0) (hc0 : l0.length ≤ c0) (hL : LD w) (h : frame_Seal.f l0 = some (r1, r2)) :
    Calls Tryd.prog 16 #[.slice A0 l0.length c0] w fun e w' => ∃ v0_ : Value, e = .returned (.tuple #[v0_, .int .i64 r2]) ∧ Kd.R (Kd.int .u8) 5 w' w.heap.size (fun _ => True) v0_ r1 ∧ Below w.heap.size w w' := by
  have hm := hr0.2.1
  have HR := Aside0.mk hr0
  have HL := Aside0.mk hL
  clear hr0 hL
  unfold frame_Seal.f at h
  by_cases hbig : (l0.length : Int) > 4000
  · rw [if_pos hbig] at h
    obtain ⟨rfl, rfl⟩ : r1 = [] ∧ r2 = 1 := by simpa [eq_comm] using h
    clear h
    go_enter Tryd.func16, Tryd.ntmps16
    go_wp2
    go_ret2
    exact ⟨_, rfl, Kd.R_nil _ _ _ _ _, Below.refl _ _⟩
  · rw [if_neg hbig] at h
    obtain ⟨s, hs, h⟩ := Option.bind_eq_some_iff.1 h
    obtain ⟨rfl, rfl⟩ : r1 = frame_Seal.four l0.length ++ frame_Seal.four s ++ l0 ∧ r2 = 0 := by simpa [eq_comm] using h
    have HS := Aside0.mk hs
    have HB := Aside0.mk (Below.refl w.heap.size w)
    have LN := Aside0.mk hbig
    clear h hs
    go_enter Tryd.func16, Tryd.ntmps16
    go_wp2_with (first
      | (go_at_call 27; refine (frame_word.word _ _).mono ?_; rintro e w1 ⟨rfl, hb⟩; have HB2 := Aside0.mk (HB.out.trans (hb.mono HB.out.size)); clear HB hb; have HB := HB2; clear HB2)
      | (go_at_call 8; refine (sum_Of.calls A0 c0 l0 s _ (Kd.C_below HR.out HB.out) hc0 (LD.below HL.out HB.out) HS.out).mono ?_; rintro e w2 ⟨rfl, hd⟩; have HB2 := Aside0.mk (HB.out.trans (hd.below.mono HB.out.size)); clear HB hd; have HB := HB2; clear HB2))
    have hmid : ∀ W : World, Below ((w1.alloc (.cells #[.int .u8 (frame_word.b l0.length 0), .int .u8 (frame_word.b l0.length 1), .int .u8 (frame_word.b l0.length 2), .int .u8 (frame_word.b l0.length 3)] 43)).alloc (.cells #[.int .u8 (frame_word.b s 0), .int .u8 (frame_word.b s 1), .int .u8 (frame_word.b s 2), .int .u8 (frame_word.b s 3)] 43)).heap.size ((w1.alloc (.cells #[.int .u8 (frame_word.b l0.length 0), .int .u8 (frame_word.b l0.length 1), .int .u8 (frame_word.b l0.length 2), .int .u8 (frame_word.b l0.length 3)] 43)).alloc (.cells #[.int .u8 (frame_word.b s 0), .int .u8 (frame_word.b s 1), .int .u8 (frame_word.b s 2), .int .u8 (frame_word.b s 3)] 43)) W →
        (Kd.C (Kd.int .u8) W (some ⟨w1.heap.size, 0, none⟩) (frame_Seal.four l0.length).length (frame_Seal.four l0.length)) ∧ (Kd.C (Kd.int .u8) W (some ⟨w1.heap.size + 1, 0, none⟩) (frame_Seal.four s).length (frame_Seal.four s)) ∧ Kd.C (Kd.int .u8) W A0 l0.length l0 ∧ Below w.heap.size w W := by
      intro W hb
      refine ⟨frame_Seal.lit4 ?_ ?_ ?_ ?_, frame_Seal.lit4 ?_ ?_ ?_ ?_, ?_, ?_⟩
      any_goals (refine pw_cell_below hb ?_; simp [go_sem]; done)
      · exact Kd.C_below HR.out ((below_alloc (below_alloc HB.out _) _).trans (hb.mono (below_alloc (below_alloc HB.out _) _).size))
      · exact (below_alloc (below_alloc HB.out _) _).trans (hb.mono (below_alloc (below_alloc HB.out _) _).size)
    have HM := Aside0.mk hmid
    clear hmid
    generalize hW0 : ((w1.alloc (.cells #[.int .u8 (frame_word.b l0.length 0), .int .u8 (frame_word.b l0.length 1), .int .u8 (frame_word.b l0.length 2), .int .u8 (frame_word.b l0.length 3)] 43)).alloc (.cells #[.int .u8 (frame_word.b s 0), .int .u8 (frame_word.b s 1), .int .u8 (frame_word.b s 2), .int .u8 (frame_word.b s 3)] 43)) = W0 at *
    clear hW0
    have hcat : Calls Tryd.prog 28 #[.slice (some ⟨W0.heap.size, 0, none⟩) 3 3] ((W0.alloc (.cells #[.slice (some ⟨w1.heap.size, 0, none⟩) 4 4, .slice (some ⟨w1.heap.size + 1, 0, none⟩) 4 4, .slice A0 l0.length c0] 22)).drew) fun e w' => ∃ v0_ : Value, e = .returned (v0_) ∧ Kd.R (Kd.int .u8) 5 w' w.heap.size (fun _ => True) v0_ (frame_Seal.four l0.length ++ frame_Seal.four s ++ l0) ∧ Below w.heap.size w w' := by
      have hq := HM.out _ (below_drew1 (below_alloc (Below.refl W0.heap.size W0) (.cells #[.slice (some ⟨w1.heap.size, 0, none⟩) 4 4, .slice (some ⟨w1.heap.size + 1, 0, none⟩) 4 4, .slice A0 l0.length c0] 22)))
      refine (frame_Seal.concat (b := W0.heap.size) (l1 := frame_Seal.four l0.length) (l2 := frame_Seal.four s) (l3 := l0) (c1 := 4) (c2 := 4) (c3 := c0) (by show 4 + 4 + l0.length < _; have := LN.out; omega) (Nat.le_refl 4) (Nat.le_refl 4) hc0 ?_ ?_ ?_ hq.1 hq.2.1 hq.2.2.1).mono ?_
      · simp [go_sem]
        rfl
      · simp [go_sem]
        rfl
      · simp [go_sem]
      · rintro e w3 ⟨v, rfl, hR, hb⟩
        exact ⟨v, rfl, Kd.R_lower hR hq.2.2.2.size, hq.2.2.2.trans (hb.mono hq.2.2.2.size)⟩
    have HCAT := Aside0.mk hcat
    clear hcat
    go_region_held3 (fun _ => True) (trivial)
      ((go_at_call 28; refine HCAT.out.mono ?_; rintro e w3 ⟨v, rfl, hR, hb⟩; have HR3 := Aside0.mk hR; have HB3 := Aside0.mk hb; clear hR hb))
    go_wp2
    go_ret2
    exact ⟨v, rfl, HR3.out, HB3.out⟩

/-! ### commonholdref_poly: function 35 -/
def commonholdref_poly.l0 : Nat → List Int → List Int → Int → Int → Option (List Int)
  | 0, _, _, _, _ => none
  | k + 1, x1, x5, x6, x7 => if x7 < x6 then (if 0 ≤ x7 then (if x7 < (x5.length : Int) then (if 0 ≤ (wrap64 (32 - (rd x5 x7))) then (if (wrap64 (32 - (rd x5 x7))) < (x1.length : Int) then (commonholdref_poly.l0 k (x1.set ((wrap64 (32 - (rd x5 x7))) : Int).toNat 1) x5 x6 (wrap64 (x7 + 1))) else (none)) else (none)) else (none)) else (none)) else (some x1)
def commonholdref_poly.f (k : Nat)  : Option (List Int) := if 33 ≤ 281474976710656 then ((some (([32, 26, 23, 22, 16, 12, 11, 10, 8, 7, 5, 4, 2, 1, 0] : List Int) : List Int)).bind fun y111 => (commonholdref_poly.l0 k (List.replicate 33 0) y111 (y111.length : Int) 0)) else (none)
theorem commonholdref_poly.mono_l : ∀ k, (∀ y0 y1 y2 y3, LeO (commonholdref_poly.l0 k y0 y1 y2 y3) (commonholdref_poly.l0 (k + 1) y0 y1 y2 y3))
  | 0 => fun _ _ _ _ r h => by simp [commonholdref_poly.l0] at h
  | k + 1 => by
    have ih0 := commonholdref_poly.mono_l k
    · intro y0 y1 y2 y3
      unfold commonholdref_poly.l0
      repeat' first
      | (with_reducible exact ih0 _ _ _ _)
      | (with_reducible exact LeO.refl _)
      | (with_reducible exact LeO.none _)
      | (with_reducible refine LeO.ite ?_ ?_)
      | (with_reducible refine LeO.bind ?_ (fun _ => ?_))
      | exact ih0 _ _ _ _
      | exact LeO.none _
      | refine LeO.ite ?_ ?_
      | refine LeO.bind ?_ (fun _ => ?_)
theorem commonholdref_poly.mono : ∀ k, LeO (commonholdref_poly.f k ) (commonholdref_poly.f (k + 1) ) := by
  intro  k
  have ih0 := commonholdref_poly.mono_l k
  unfold commonholdref_poly.f
  repeat' first
      | (with_reducible exact ih0 _ _ _ _)
      | (with_reducible exact LeO.refl _)
      | (with_reducible exact LeO.none _)
      | (with_reducible refine LeO.ite ?_ ?_)
      | (with_reducible refine LeO.bind ?_ (fun _ => ?_))
      | exact ih0 _ _ _ _
      | exact LeO.none _
      | refine LeO.ite ?_ ?_
      | refine LeO.bind ?_ (fun _ => ?_)
set_option maxHeartbeats 8000000 in
set_option maxRecDepth 100000 in
theorem commonholdref_poly.calls (k : Nat)  (r : List Int) (w : World) (h : commonholdref_poly.f k  = some r) :
    Calls Tryd.prog 35 #[] w fun e w' => ∃ v0_ : Value, e = .returned (v0_) ∧ Kd.R (Kd.int .u8) 5 w' w.heap.size (fun _ => True) v0_ r ∧ Below w.heap.size w w' := by
  have HB := Aside0.mk (Below.refl w.heap.size w)
  have H : (if 33 ≤ 281474976710656 then ((some (([32, 26, 23, 22, 16, 12, 11, 10, 8, 7, 5, 4, 2, 1, 0] : List Int) : List Int)).bind fun y111 => (commonholdref_poly.l0 k (List.replicate 33 0) y111 (y111.length : Int) 0)) else (none)) = some r := h
  clear h
  by_cases c1 : 33 ≤ 281474976710656
  · rw [if_pos c1] at H
    have c1b0 := eq_true c1
    have c1b1 : decide (33 ≤ 281474976710656) = true := decide_eq_true c1
    clear c1
    obtain ⟨y108, hy108⟩ : ∃ y_ : List Int, y_ = (List.replicate 33 0) := ⟨_, rfl⟩
    replace H : ((some (([32, 26, 23, 22, 16, 12, 11, 10, 8, 7, 5, 4, 2, 1, 0] : List Int) : List Int)).bind fun y111 => (commonholdref_poly.l0 k y108 y111 (y111.length : Int) 0)) = some r := by first | (rw [hy108]; with_reducible exact H) | (have H2_ := (Option.bind_some _ _).symm.trans H; rw [hy108]; with_reducible exact H2_) | (have H2_ := (Option.bind_some _ _).symm.trans H; with_reducible exact H2_) | with_reducible exact H | (rw [hy108]; exact H) | exact H
    have Ny108 := Aside0.mk hy108
    clear hy108
    obtain ⟨y111, hy111⟩ : ∃ y_ : List Int, y_ = (([32, 26, 23, 22, 16, 12, 11, 10, 8, 7, 5, 4, 2, 1, 0] : List Int)) := ⟨_, rfl⟩
    replace H : (commonholdref_poly.l0 k y108 y111 (y111.length : Int) 0) = some r := by first | (rw [hy111]; with_reducible exact H) | (have H2_ := (Option.bind_some _ _).symm.trans H; rw [hy111]; with_reducible exact H2_) | (have H2_ := (Option.bind_some _ _).symm.trans H; with_reducible exact H2_) | with_reducible exact H | (rw [hy111]; exact H) | exact H
    have Ny111 := Aside0.mk hy111
    clear hy111
    have H' := Aside0.mk H
    clear H
    go_enter Tryd.func35, Tryd.ntmps35
    go_wp2_with (first | ((with_reducible refine gate_dst (N := 4) rfl ?_); refine Kd.R_make (Kd.int .u8) _ 5 rfl (N := 4) rfl 22 _ _ rfl 33 rfl rfl Tryd.underlying22 (.int .u8 0) 1 info5 rfl (by decide) (by omega) 0 (ok := fun _ => True) (okp := fun _ => True) rfl (fun _ hk => hk) trivial (by omega) (by omega) (Below.refl _ _) (Nat.le_refl _) ?_; intro v109 w2 ho3 hb hg_ hnew_; clear hg_ hnew_; (first | rw [← Ny108.out] at ho3 | (simp only [Int.reduceToNat] at ho3; rw [← Ny108.out] at ho3)); have n0_ := Aside0.mk (Kd.R_lower ho3 (below_size (by repeat (first | (with_reducible first | exact HB.out | apply below_alloc | apply pw_below_drewN | apply below_drew1) | exact HB.out)))); have n1_ := Aside0.mk (below_step (by repeat (first | (with_reducible first | exact HB.out | apply below_alloc | apply pw_below_drewN | apply below_drew1) | exact HB.out)) hb); clear HB; have HO110 := n0_; have HB := n1_; clear n0_ n1_; clear hb ho3) | ((with_reducible refine gate_dst (N := 5) rfl ?_); refine Kd.R_lit (Kd.int .i64) _ 3 ?hg (N := 5) ?hd (xs := ([32, 26, 23, 22, 16, 12, 11, 10, 8, 7, 5, 4, 2, 1, 0] : List Int)) (inner := [.int .i64 32, .int .i64 26, .int .i64 23, .int .i64 22, .int .i64 16, .int .i64 12, .int .i64 11, .int .i64 10, .int .i64 8, .int .i64 7, .int .i64 5, .int .i64 4, .int .i64 2, .int .i64 1, .int .i64 0]) (ok := fun _ => True) (okp := fun _ => True) ?hr ?hp (fun _ hk => hk) trivial (Below.refl _ _) (Nat.le_refl _) (by simp) ?_; (case hd => rfl); (case hg => rfl); (case hr => first | (go_simp; done) | (go_simp; rfl)); (case hp => exact (Reps.one (show Kd.M (Kd.int .i64) _ _ _ 32 [.int .i64 32] from rfl) (Reps.one (show Kd.M (Kd.int .i64) _ _ _ 26 [.int .i64 26] from rfl) (Reps.one (show Kd.M (Kd.int .i64) _ _ _ 23 [.int .i64 23] from rfl) (Reps.one (show Kd.M (Kd.int .i64) _ _ _ 22 [.int .i64 22] from rfl) (Reps.one (show Kd.M (Kd.int .i64) _ _ _ 16 [.int .i64 16] from rfl) (Reps.one (show Kd.M (Kd.int .i64) _ _ _ 12 [.int .i64 12] from rfl) (Reps.one (show Kd.M (Kd.int .i64) _ _ _ 11 [.int .i64 11] from rfl) (Reps.one (show Kd.M (Kd.int .i64) _ _ _ 10 [.int .i64 10] from rfl) (Reps.one (show Kd.M (Kd.int .i64) _ _ _ 8 [.int .i64 8] from rfl) (Reps.one (show Kd.M (Kd.int .i64) _ _ _ 7 [.int .i64 7] from rfl) (Reps.one (show Kd.M (Kd.int .i64) _ _ _ 5 [.int .i64 5] from rfl) (Reps.one (show Kd.M (Kd.int .i64) _ _ _ 4 [.int .i64 4] from rfl) (Reps.one (show Kd.M (Kd.int .i64) _ _ _ 2 [.int .i64 2] from rfl) (Reps.one (show Kd.M (Kd.int .i64) _ _ _ 1 [.int .i64 1] from rfl) (Reps.one (show Kd.M (Kd.int .i64) _ _ _ 0 [.int .i64 0] from rfl) (Reps.none _ _))))))))))))))))); intro v112 w4 ho5 hb hg_ hnew_; clear hg_ hnew_; (first | rw [← Ny111.out] at ho5 | (simp only [Int.reduceToNat] at ho5; rw [← Ny111.out] at ho5)); have n0_ := Aside0.mk (Kd.R_below (by (with_reducible repeat (first | apply Kd.R_alloc | apply Kd.R_drewN | apply Kd.R_drew)); exact HO110.out) hb); have n1_ := Aside0.mk (Kd.R_lower ho5 (below_size (by repeat (first | (with_reducible first | exact HB.out | apply below_alloc | apply pw_below_drewN | apply below_drew1) | exact HB.out)))); have n2_ := Aside0.mk (below_step (by repeat (first | (with_reducible first | exact HB.out | apply below_alloc | apply pw_below_drewN | apply below_drew1) | exact HB.out)) hb); clear HO110; clear HB; have HO110 := n0_; have HO113 := n1_; have HB := n2_; clear n0_ n1_ n2_; clear hb ho5; obtain ⟨Ao6, co6, eo6⟩ := Kd.R_slice HO113.out; subst eo6))
    go_loopg [7] k (fun kq v7 w' => ∃ (x1_1 : List Int) (x7_1 : Int), v7 = .int .i64 x7_1 ∧ Aside0 (commonholdref_poly.l0 kq x1_1 y111 (y111.length : Int) x7_1 = some r) ∧ Aside0 (kq ≤ k) ∧ Aside0 (Kd.R (Kd.int .u8) 5 w' w.heap.size (fun _ => True) v109 x1_1) ∧ Aside0 (Kd.R (Kd.int .i64) 3 w' w.heap.size (fun _ => True) (.slice Ao6 y111.length co6) y111) ∧ Aside0 (Below w.heap.size w w'))
    case atStart => exact ⟨(y108), (0), (by first | rfl | (simp; done) | (simp [*]; done)), H', ⟨Nat.le_refl _⟩, ⟨by (with_reducible repeat (first | apply Kd.R_alloc | apply Kd.R_drewN | apply Kd.R_drew)); exact HO110.out⟩, ⟨by (with_reducible repeat (first | apply Kd.R_alloc | apply Kd.R_drewN | apply Kd.R_drew)); exact HO113.out⟩, ⟨by repeat (first | (with_reducible first | exact HB.out | apply below_alloc | apply pw_below_drewN | apply below_drew1) | exact HB.out)⟩⟩
    case round =>
      clear H'
      try clear c1
      try clear c1b0
      try clear c1b1
      try clear p2
      try clear c3
      obtain ⟨x1_1, x7_1, rfl, HA, HK1, HO_1, HO_5, HB⟩ := hrel
      cases gk with
      | zero => exact absurd HA.out (by simp [commonholdref_poly.l0])
      | succ k1 =>
        have H := HA.out
        clear HA
        simp only [commonholdref_poly.l0] at H
        by_cases c7 : x7_1 < (y111.length : Int)
        · rw [if_pos c7] at H
          have c7b0 : decide (x7_1 < (y111.length : Int)) = true := decide_eq_true c7
          clear c7
          by_cases c8 : 0 ≤ x7_1
          · rw [if_pos c8] at H
            have c8b0 : decide (0 ≤ x7_1) = true := decide_eq_true c8
            clear c8
            by_cases c9 : x7_1 < (y111.length : Int)
            · rw [if_pos c9] at H
              have c9b0 : decide (x7_1 < (y111.length : Int)) = true := decide_eq_true c9
              clear c9
              obtain ⟨ji10, hji10⟩ : ∃ j_ : Int, (wrap64 (32 - (rd y111 x7_1))) = j_ := ⟨_, rfl⟩
              replace H : (if 0 ≤ (ji10) then (if (ji10) < (x1_1.length : Int) then (commonholdref_poly.l0 k1 (x1_1.set ((ji10) : Int).toNat 1) y111 (y111.length : Int) (wrap64 (x7_1 + 1))) else (none)) else (none)) = some r := by first | (rw [hji10] at H; exact H) | (simp only [hji10] at H ⊢; exact H)
              have hji10w : (IntKind.i64.wrap (32 - (rd y111 x7_1))) = ji10 := (i64_w _).trans hji10
              by_cases c11 : 0 ≤ (ji10)
              · rw [if_pos c11] at H
                have c11b0 : decide (0 ≤ (ji10)) = true := decide_eq_true c11
                clear c11
                by_cases c12 : (ji10) < (x1_1.length : Int)
                · rw [if_pos c12] at H
                  have c12b0 : decide ((ji10) < (x1_1.length : Int)) = true := decide_eq_true c12
                  clear c12
                  obtain ⟨y115, hy115⟩ : ∃ y_ : List Int, y_ = (x1_1.set ((ji10) : Int).toNat 1) := ⟨_, rfl⟩
                  replace H : (commonholdref_poly.l0 k1 y115 y111 (y111.length : Int) (wrap64 (x7_1 + 1))) = some r := by first | (rw [hy115]; with_reducible exact H) | (have H2_ := (Option.bind_some _ _).symm.trans H; rw [hy115]; with_reducible exact H2_) | (have H2_ := (Option.bind_some _ _).symm.trans H; with_reducible exact H2_) | with_reducible exact H | (rw [hy115]; exact H) | exact H
                  have Ny115 := Aside0.mk hy115
                  clear hy115
                  have H' := Aside0.mk H
                  clear H
                  have p114 : 0 ≤ (x7_1 : Int) := of_decide_eq_true (by first | (with_reducible assumption) | assumption)
                  have q114 : x7_1 < (y111.length : Int) := of_decide_eq_true (by first | (with_reducible assumption) | assumption)
                  obtain ⟨ad114, e114, hx114_0⟩ := Kd.at_int (Kd.R_reads' HO_5.out).2.2 x7_1 p114 q114
                  cases e114
                  replace p114 := eq_true p114
                  replace q114 := eq_true q114
                  have p13 : 0 ≤ ((ji10) : Int) := of_decide_eq_true (by first | (with_reducible assumption) | assumption)
                  have q13 : ((ji10) : Int) < ((x1_1.length : Int) : Int) := of_decide_eq_true (by first | (with_reducible assumption) | assumption)
                  obtain ⟨go13, co13, eo13, gb13, gl13, cl13, HG13⟩ := Kd.R_form HO_1.out (by omega)
                  (first | cases eo13 | (injection eo13 with ea_ en_ ec_; (first | subst ea_ | (injection ea_ with ea_; subst ea_)); subst ec_; clear en_))
                  have GB13 := Aside0.mk gb13
                  have GG13 := Aside0.mk HG13
                  clear gb13 gl13 HG13
                  obtain ⟨hx13_0, hf13_0⟩ := Kd.R_celln 0 HO_1.out ((ji10) : Int) p13 q13
                  replace p13 := eq_true p13
                  replace q13 := eq_true q13
                  have HP14 := Kd.R_putg HO_1.out ((ji10) : Int) 1
                  go_wp2_with (first | ((with_reducible refine gate_store (t := 5) (p := 14) rfl ?_); refine store_event (t := 5) (p := 14) (v := ?vo_w15) (w1 := (wr.setCell ⟨go13, ((ji10) : Int).toNat, none⟩ (.int .u8 1))) ?hg ?ho ?hn ?hr ?_; (case ho => rfl); (case hg => rfl); (case hn => rfl); (case hr => first | (go_simp; done) | (go_simp; rfl)); intro w15 hw; have hg : wr.grownBy w15 (some go13) := (by rw [hw]; exact HP14.2); have hp_ : Kd.R (Kd.int .u8) 5 w15 w.heap.size (fun _ => True) (.slice (some ⟨go13, 0, none⟩) x1_1.length co13) y115 := (by rw [hw, Ny115.out]; exact HP14.1); clear HP14; have n0_ := Aside0.mk (hp_); have n1_ := Aside0.mk (Kd.R_over' (v := (.slice (some ⟨go13, 0, none⟩) x1_1.length co13)) (by (with_reducible repeat (first | apply Kd.R_alloc | apply Kd.R_drewN | apply Kd.R_drew)); exact HO_5.out) (Kd.R_typed HO_1.out) (by decide) hg); have n2_ := Aside0.mk ((by rw [hw]; exact below_set (HB.out) GB13.out : Below w.heap.size w w15)); clear HO_1; clear HO_5; clear HB; have HO_1 := n0_; have HO_5 := n1_; have HB := n2_; clear n0_ n1_ n2_; clear hg hw hp_))
                  go_roundg k1
                  case measure => have := HK1.out; omega
                  case rel => exact ⟨(y115), (wrap64 (x7_1 + 1)), (by first | rfl | (simp; done) | (simp [*]; done)), H', ⟨by have := HK1.out; omega⟩, ⟨by (with_reducible repeat (first | apply Kd.R_alloc | apply Kd.R_drewN | apply Kd.R_drew)); exact HO_1.out⟩, ⟨by (with_reducible repeat (first | apply Kd.R_alloc | apply Kd.R_drewN | apply Kd.R_drew)); exact HO_5.out⟩, ⟨by repeat (first | (with_reducible first | exact HB.out | apply below_alloc | apply pw_below_drewN | apply below_drew1) | exact HB.out)⟩⟩
                · rw [if_neg c12] at H
                  exact absurd H (by simp)
              · rw [if_neg c11] at H
                exact absurd H (by simp)
            · rw [if_neg c9] at H
              exact absurd H (by simp)
          · rw [if_neg c8] at H
            exact absurd H (by simp)
        · rw [if_neg c7] at H
          have c7b0 : decide (x7_1 < (y111.length : Int)) = false := decide_eq_false c7
          clear c7
          obtain rfl := Option.some.inj H
          go_wp2
          go_ret
          exact ⟨_, by first | rfl | (simp [errW_none, errW_some] <;> rfl) | (simp [*, errW_none, errW_some] <;> rfl), by (with_reducible repeat (first | apply Kd.R_alloc | apply Kd.R_drewN | apply Kd.R_drew)); exact HO_1.out, by repeat (first | (with_reducible first | exact HB.out | apply below_alloc | apply pw_below_drewN | apply below_drew1) | exact HB.out)⟩
  · rw [if_neg c1] at H
    exact absurd H (by simp)

end Go.Proofs.YtaadljjfckhinabDoor.PFrameSeals
