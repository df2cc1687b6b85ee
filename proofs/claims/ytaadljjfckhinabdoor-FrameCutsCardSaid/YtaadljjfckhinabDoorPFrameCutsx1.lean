-- Written by wip/pp of this repo (over the kit's print, with additions of this session); Lean checks every line.
import Derived.Test.YtaadljjfckhinabDoorPFrameCutsx0
namespace Go.Proofs.YtaadljjfckhinabDoor.PFrameCuts
open Go.RowKit Go.Proofs.YtaadljjfckhinabDoorW.PrintWords Go.Proofs.YtaadljjfckhinabDoorW.PrintLast Go.Proofs.YtaadljjfckhinabDoorW.PrintMore
attribute [local go_sem] max2_int min2_int max_two min_two max_three min_three max_four min_four   -- for this text's walks alone
set_option linter.unusedVariables false
set_option linter.unusedSimpArgs false

/-! ### commonholdlaw_octets: function 9 -/
def commonholdlaw_octets.f (l0 : List Int) : Option (List Int) := if ([] : List Int).length + l0.length < 140737488355328 then (some (([] : List Int) ++ l0)) else (none)
set_option maxHeartbeats 8000000 in
set_option maxRecDepth 100000 in
theorem commonholdlaw_octets.calls (A0 : Option Addr) (c0 : Nat) (l0 : List Int) (r : List Int) (w : World) (hr0 : Kd.C (Kd.int .u8) w A0 l0.length l0) (hc0 : l0.length ≤ c0) (h : commonholdlaw_octets.f l0 = some r) :
    Calls Tryd.prog 9 #[.slice A0 l0.length c0] w fun e w' => ∃ v0_ : Value, e = .returned (v0_) ∧ Kd.R (Kd.int .u8) 5 w' w.heap.size (fun _ => True) v0_ r ∧ Below w.heap.size w w' := by
  have HR0 := Aside0.mk hr0
  have HC0 := Aside0.mk hc0
  clear hr0 hc0
  have HB := Aside0.mk (Below.refl w.heap.size w)
  have H : (if ([] : List Int).length + l0.length < 140737488355328 then (some (([] : List Int) ++ l0)) else (none)) = some r := h
  clear h
  by_cases c2 : ([] : List Int).length + l0.length < 140737488355328
  · rw [if_pos c2] at H
    have LMc2 := Aside0.mk c2
    clear c2
    obtain ⟨y101, hy101⟩ : ∃ y_ : List Int, y_ = (([] : List Int) ++ l0) := ⟨_, rfl⟩
    replace H : (some y101) = some r := by first | (rw [hy101]; with_reducible exact H) | (have H2_ := (Option.bind_some _ _).symm.trans H; rw [hy101]; with_reducible exact H2_) | (have H2_ := (Option.bind_some _ _).symm.trans H; with_reducible exact H2_) | with_reducible exact H | (rw [hy101]; exact H) | exact H
    have Ny101 := Aside0.mk hy101
    clear hy101
    obtain rfl := Option.some.inj H
    go_enter Tryd.func9, Tryd.ntmps9
    go_wp2_with (first | ((with_reducible refine gate_builtin (b := .append) (xs := #[.const (.slice none 0 0), .tmp 3]) rfl ?_); at_builtin; refine Kd.R_append_rows (Kd.int .u8) (w0 := w) w.heap.size rfl (.const (.slice none 0 0)) (.tmp 3) 22 5 (.int .u8 0) 1 rfl Tryd.underlying22 info5 rfl (by decide) (by omega) (.slice none 0 0) ([] : List Int) l0 _ _ _ (fun _ => True) (fun _ => False) rfl rfl ?aO ?aR (fun _ _ h => h) (fun _ h => h.elim) ?aF ?aB ?aS ?aL ?_; (case aR => repeat (first | exact HR0.out | (with_reducible refine Kd.C_alloc ?_ _) | (with_reducible refine Kd.C_drewN ?_ _) | (with_reducible refine Kd.C_drew ?_))); (case aB => exact (by repeat (first | (with_reducible first | exact HB.out | apply below_alloc | apply pw_below_drewN | apply below_drew1) | exact HB.out))); (case aF => exact (fun _ _ => trivial)); (case aO => exact ((Kd.R_nil _ _ _ _ (fun _ => True)))); (case aS => exact (below_size (by repeat (first | (with_reducible first | exact HB.out | apply below_alloc | apply pw_below_drewN | apply below_drew1) | exact HB.out)))); (case aL => have := LMc2.out; omega); intro v102 w3 ho hb hg hat; rw [← Ny101.out] at ho; have n0_ := Aside0.mk (hb); have n1_ := Aside0.mk (ho); clear HB; have HB := n0_; have HO103 := n1_; clear n0_ n1_; clear ho hb hg hat))
    go_ret
    exact ⟨_, by first | rfl | (simp [errW_none, errW_some] <;> rfl) | (simp [*, errW_none, errW_some] <;> rfl), by (with_reducible repeat (first | apply Kd.R_alloc | apply Kd.R_drewN | apply Kd.R_drew)); exact HO103.out, by repeat (first | (with_reducible first | exact HB.out | apply below_alloc | apply pw_below_drewN | apply below_drew1) | exact HB.out)⟩
  · rw [if_neg c2] at H
    exact absurd H (by simp)

/-! ### sum_More: function 21, by hand -/
-- HAND rounds=0 making=0 laid=1 imports=Derived.Lib.LaidTab,Derived.Lib.LaidU8
def sum_More.tab : List Int := [0, 498536548, 997073096, 651767980, 1994146192, 1802195444, 1303535960, 1342533948, 3988292384, 4027552580, 3604390888, 3412177804, 2607071920, 2262029012, 2685067896, 3183342108]
def sum_More.at (c : Int) : Int := sum_More.tab.getD (Go.bits .and .u32 c 15).toNat 0
/-- One byte more. -/
def sum_More.stp (z x : Int) : Int :=
  Go.bits .xor .u32 (Go.bits .xor .u32 (Go.bits .xor .u32 z (x % 4294967296) / 16) (sum_More.at (Go.bits .xor .u32 z (x % 4294967296))) / 16)
    (sum_More.at (Go.bits .xor .u32 (Go.bits .xor .u32 z (x % 4294967296) / 16) (sum_More.at (Go.bits .xor .u32 z (x % 4294967296)))))
def sum_More.run : Int → List Int → Int
  | z, [] => z
  | z, x :: r => sum_More.run (sum_More.stp z x) r
def sum_More.f (a0 : Int) (l1 : List Int) : Option (Int × Int) :=
  if 0 ≤ a0 ∧ a0 < 4294967296 then some (Go.bits .xor .u32 4294967295 (sum_More.run (Go.bits .xor .u32 4294967295 a0) l1), 0) else if -9223372036854775808 ≤ a0 ∧ a0 < 9223372036854775808 then some (0, 2) else none
theorem sum_More.xor_range (a b : Int) : 0 ≤ Go.bits .xor .u32 a b ∧ Go.bits .xor .u32 a b < 4294967296 := by
  show 0 ≤ IntKind.u32.wrap ((BitVec.ofInt 32 a ^^^ BitVec.ofInt 32 b).toNat : Int) ∧ IntKind.u32.wrap ((BitVec.ofInt 32 a ^^^ BitVec.ofInt 32 b).toNat : Int) < 4294967296
  rw [IntKind.wrap_u32]
  omega
theorem sum_More.and_range (c : Int) : 0 ≤ Go.bits .and .u32 c 15 ∧ Go.bits .and .u32 c 15 < 16 := by
  show 0 ≤ IntKind.u32.wrap ((BitVec.ofInt 32 c &&& BitVec.ofInt 32 15).toNat : Int) ∧ IntKind.u32.wrap ((BitVec.ofInt 32 c &&& BitVec.ofInt 32 15).toNat : Int) < 16
  rw [IntKind.wrap_u32, BitVec.toNat_and]
  have h := @Nat.and_le_right (BitVec.ofInt 32 c).toNat (BitVec.ofInt 32 15).toNat
  have e : (BitVec.ofInt 32 15).toNat = 15 := by decide
  omega
theorem sum_More.laid_tab : (Rows.laid_commonhold_sum_step : DataW Unit) = Lib.tabData .u32 sum_More.tab := by kernel_rfl
theorem LD.step {w : World} (h : LD w) : ∃ L0 : World, Lib.TabIs Tryd.prog L0 "commonhold/sum.step" .u32 sum_More.tab ∧ Below L0.heap.size L0 w := by
  obtain ⟨L0, h1, h2⟩ := h
  refine ⟨L0, ?_, h2⟩
  obtain ⟨g, t, cs, fuel, p, hg, ht, hv, hd⟩ := Lib.laidMet.reads h1 LD.in_commonhold_sum_step
  have hg' : Tryd.prog.globalNamed "commonhold/sum.step" = some 1 := by kernel_rfl
  obtain rfl := Option.some.inj (hg'.symm.trans hg)
  have ht' : (Tryd.prog.globals[(1 : Nat)]?).map (·.type) = some 50 := by kernel_rfl
  obtain rfl := Option.some.inj (ht'.symm.trans ht)
  rw [sum_More.laid_tab] at hd
  have hc := Lib.cells_of_tab (n := 16) (e := 49) (by kernel_rfl) (by kernel_rfl) (by kernel_rfl) (by kernel_rfl) hd
  unfold Lib.TabIs
  rw [hv, ← hc]
theorem LD.cell {w : World} (h : LD w) (c : Int) : w.cell? ⟨1, (Go.bits .and .u32 c 15).toNat, none⟩ = some (.int .u32 (sum_More.at c)) := by
  obtain ⟨L0, h1, h2⟩ := h.step
  exact pw_cell_below h2 (h1.cell (by kernel_rfl) _ (by have := sum_More.and_range c; unfold sum_More.tab; simp; omega))
set_option maxRecDepth 100000 in
set_option maxHeartbeats 2000000 in
theorem sum_More.calls (a0 : Int) (A1 : Option Addr) (c1 : Nat) (l1 : List Int) (r1 : Int) (r2 : Int) (w : World) (hr1 : Kd.C (Kd.int .u8) w A1 l1.length l1) (hc1 : l1.length ≤ c1) (hL : LD w) (h : sum_More.f a0 l1 = some (r1, r2)) :
    Calls Tryd.prog 21 #[.int .i64 a0, .slice A1 l1.length c1] w fun e w' => e = .returned (.tuple #[.int .i64 r1, .int .i64 r2]) ∧ Drawn0 w w' := by
  have hm := hr1.2.1
  have HR := Aside0.mk hr1
  have HL := Aside0.mk hL
  have HF := Aside0.mk h
  clear hr1 h hL
  unfold sum_More.f at HF
  by_cases hb : 0 ≤ a0 ∧ a0 < 4294967296
  · obtain ⟨R, hR⟩ : ∃ R, sum_More.run (Go.bits .xor .u32 4294967295 a0) l1 = R := ⟨_, rfl⟩
    have HX := Aside0.mk (sum_More.xor_range 4294967295 a0)
    rw [if_pos hb, hR] at HF
    obtain ⟨rfl, rfl⟩ := Prod.mk.inj (Option.some.inj HF.out)
    clear HF
    have HRUN := Aside0.mk hR
    clear hR
    go_enter Tryd.func21, Tryd.ntmps21
    go_wp2
    go_loopw [18, 6] (fun i c wr => ∃ (k : Nat) (z : Int), k ≤ l1.length ∧ i = .int .i64 k ∧ c = .int .u32 z ∧ (0 ≤ z ∧ z < 4294967296) ∧ Aside0 (sum_More.run z (l1.drop k) = R) ∧ Drawn0 w wr) (fun i _ _ => l1.length - (intOf i).toNat)
    case atStart => exact ⟨0, _, Nat.zero_le _, rfl, rfl, HX.out, HRUN, ⟨0, rfl⟩⟩
    case round =>
      obtain ⟨k, z, hk, rfl, rfl, hz, hrun, nd, rfl⟩ := hrel
      by_cases hlt : k < l1.length
      · obtain ⟨ai, rfl, h3⟩ := Kd.at_int HR.out (k : Int) (by omega) (by omega)
        have h3' : w.cell? (ai.add k) = some (.int .u8 (rd l1 k)) := by simpa using h3
        clear h3
        have hdr : l1.drop k = rd l1 (k : Int) :: l1.drop (k + 1) := by
          rw [List.drop_eq_getElem_cons hlt]
          simp [rd, List.getD_eq_getElem?_getD, hlt]
        have hru := hrun.out
        rw [hdr] at hru
        have HRU := Aside0.mk hru
        clear hru hdr hrun
        generalize hx : rd l1 (k : Int) = x at *
        have b1 := sum_More.and_range (Go.bits .xor .u32 z (x % 4294967296))
        have b2 := sum_More.and_range (Go.bits .xor .u32 (Go.bits .xor .u32 z (x % 4294967296) / 16) (sum_More.at (Go.bits .xor .u32 z (x % 4294967296))))
        have t1 := LD.cell HL.out (Go.bits .xor .u32 z (x % 4294967296))
        have t2 := LD.cell HL.out (Go.bits .xor .u32 (Go.bits .xor .u32 z (x % 4294967296) / 16) (sum_More.at (Go.bits .xor .u32 z (x % 4294967296))))
        go_wp2
        exact ⟨⟨k + 1, _, by omega, by go_num, rfl, sum_More.xor_range _ _, HRU, ⟨nd, rfl⟩⟩, by simp [intOf]; omega⟩
      · have hkl : k = l1.length := by omega
        subst hkl
        have hR : z = R := by
          have := hrun.out
          rwa [List.drop_length] at this
        subst hR
        have hx := sum_More.xor_range 4294967295 z
        have hw : wrap64 (bits BinOp.xor IntKind.u32 IntKind.u32.max z) = bits BinOp.xor IntKind.u32 4294967295 z := by
          show wrap64 (bits BinOp.xor IntKind.u32 4294967295 z) = _
          unfold wrap64
          omega
        have HW := Aside0.mk hw
        clear hw hrun HRUN HX
        go_wp2
        go_ret2
        rw [HW.out]
        exact ⟨rfl, ⟨nd, rfl⟩⟩
  · rw [if_neg hb] at HF
    by_cases hb2 : -9223372036854775808 ≤ a0 ∧ a0 < 9223372036854775808
    · rw [if_pos hb2] at HF
      obtain ⟨rfl, rfl⟩ := Prod.mk.inj (Option.some.inj HF.out)
      clear HF
      have hq : (IntKind.u64.wrap a0 / 4294967296 != 0) = true := by
        rw [IntKind.wrap_u64]
        simp
        omega
      by_cases hneg : a0 < 0
      · go_enter Tryd.func21, Tryd.ntmps21
        go_wp2
        go_ret2
        exact ⟨rfl, ⟨0, rfl⟩⟩
      · have hq2 : (a0 / 4294967296 != 0) = true := by simp; omega
        clear hq
        go_enter Tryd.func21, Tryd.ntmps21
        go_wp2
        go_ret2
        exact ⟨rfl, ⟨0, rfl⟩⟩
    · rw [if_neg hb2] at HF
      cases HF.out

/-! ### sum_Of: function 8 -/
def sum_Of.f (l0 : List Int) : Option (Int) := (sum_More.f 0 l0).bind fun bt104 => (some bt104.1)
set_option maxHeartbeats 8000000 in
set_option maxRecDepth 100000 in
theorem sum_Of.calls (A0 : Option Addr) (c0 : Nat) (l0 : List Int) (r : Int) (w : World) (hr0 : Kd.C (Kd.int .u8) w A0 l0.length l0) (hc0 : l0.length ≤ c0) (hL : LD w) (h : sum_Of.f l0 = some r) :
    Calls Tryd.prog 8 #[.slice A0 l0.length c0] w fun e w' => e = .returned (.int .i64 r) ∧ Drawn0 w w' := by
  have HLD := Aside0.mk hL
  clear hL
  have HR0 := Aside0.mk hr0
  have HC0 := Aside0.mk hc0
  clear hr0 hc0
  have H : ((sum_More.f 0 l0).bind fun bt104 => (some bt104.1)) = some r := h
  clear h
  replace H := Option.bind_eq_some_iff.mp H
  obtain ⟨⟨t104, t105⟩, A20, H⟩ := H
  replace H : (some t104) = some r := H
  have A2 := Aside0.mk A20
  clear A20
  obtain rfl := Option.some.inj H
  go_enter Tryd.func8, Tryd.ntmps8
  go_wp2_with (first | ((with_reducible refine gate_callee (f := 21) rfl ?_); refine goesL_ (some 7) rfl rfl Tryd.func21 (by kernel_rfl) rfl #[.int .i64 0, .slice A0 l0.length c0] rfl (by (try simp only [List.map_toArray, List.map_cons, List.map_nil]); first | done | rfl | (simp only [List.length_drop, List.length_take]; rfl)) ?_; (with_reducible refine (sum_More.calls 0 _ _ l0 t104 t105 _ ?side1 ?side2 ?side3 A2.out).mono ?_); (case side1 => repeat (first | exact HR0.out | (with_reducible refine Kd.C_alloc ?_ _) | (with_reducible refine Kd.C_drewN ?_ _) | (with_reducible refine Kd.C_drew ?_))); (case side2 => exact HC0.out); (case side3 => exact LD.below HLD.out (by first | (with_reducible exact Below.refl _ _) | ((repeat (first | (with_reducible exact Below.refl _ _) | (with_reducible apply below_alloc) | (with_reducible apply pw_below_drewN) | (with_reducible apply below_drew1))); done) | exact (by repeat (first | (with_reducible first | exact HB.out | apply below_alloc | apply pw_below_drewN | apply below_drew1) | exact HB.out)))); rintro e w' ⟨rfl, ⟨nd, rfl⟩⟩; refine ⟨_, rfl, ?_⟩))
  go_ret
  exact ⟨by first | rfl | (simp; done) | (simp [*]; done), by repeat (first | exact Drawn0.refl _ | apply Drawn0.step)⟩

/-! ### frame_number: function 33, by hand -/
-- HAND rounds=0 making=1 imports=Derived.IntWalk
def frame_number.f (b0 b1 b2 b3 : Int) : Option Int := if (0 ≤ b0 ∧ b0 ≤ 255) ∧ (0 ≤ b1 ∧ b1 ≤ 255) ∧ (0 ≤ b2 ∧ b2 ≤ 255) ∧ (0 ≤ b3 ∧ b3 ≤ 255) then some (b0 + 256 * b1 + 65536 * b2 + 16777216 * b3) else none
theorem frame_number.or_at (n x : Int) (i : Nat) (h0 : 0 ≤ n) (h1 : n < 2 ^ i) (h2 : 0 ≤ x) (h3 : x ≤ 255) (hi : i ≤ 24) : Go.bits .or .i64 n (x * 2 ^ i) = n + x * 2 ^ i := by
  obtain ⟨m, rfl⟩ := Int.eq_ofNat_of_zero_le h0
  obtain ⟨y, rfl⟩ := Int.eq_ofNat_of_zero_le h2
  have e : ((y : Int) * 2 ^ i) = ((y <<< i : Nat) : Int) := by rw [Nat.shiftLeft_eq, Int.natCast_mul, Int.natCast_pow]; rfl
  have h1' : m < 2 ^ i := by
    have h : ((m : Nat) : Int) < ((2 ^ i : Nat) : Int) := by rw [Int.natCast_pow]; exact h1
    omega
  have hp : (2 : Nat) ^ i ≤ 16777216 := by rw [show (16777216 : Nat) = 2 ^ 24 from rfl]; exact Nat.pow_le_pow_right (by omega) hi
  have hs : y <<< i < 4294967296 := by
    rw [Nat.shiftLeft_eq]
    exact Nat.lt_of_le_of_lt (Nat.mul_le_mul (show y ≤ 255 by omega) hp) (by decide)
  rw [e]
  show IntKind.i64.wrap ((BitVec.ofInt 64 ((m : Nat) : Int) ||| BitVec.ofInt 64 ((y <<< i : Nat) : Int)).toNat : Int) = _
  rw [BitVec.ofInt_natCast, BitVec.ofInt_natCast, BitVec.toNat_or, BitVec.toNat_ofNat, BitVec.toNat_ofNat, Nat.mod_eq_of_lt (by omega), Nat.mod_eq_of_lt (by omega), Nat.or_comm, ← Nat.shiftLeft_add_eq_or_of_lt h1']
  generalize y <<< i = z at *
  rw [IntWalk.i64_in _ (by omega)]
  omega
set_option maxRecDepth 100000 in
set_option maxHeartbeats 2000000 in
theorem frame_number.calls4 (b0 b1 b2 b3 : Int) (r : Int) (w : World) (h : frame_number.f b0 b1 b2 b3 = some r) :
    Calls Tryd.prog 33 #[.agg #[.int .u8 b0, .int .u8 b1, .int .u8 b2, .int .u8 b3]] w fun e w' => e = .returned (.int .i64 r) ∧ Below w.heap.size w w' := by
  unfold frame_number.f at h
  split at h
  · rename_i hb
    obtain ⟨⟨h00, h01⟩, ⟨h10, h11⟩, ⟨h20, h21⟩, h30, h31⟩ := hb
    obtain rfl := Option.some.inj h
    clear h
    have i0 : ∀ w, (Instr.index 43 (.agg #[.int .u8 b0, .int .u8 b1, .int .u8 b2, .int .u8 b3]) (.int .i64 0)).run Tryd.prog w = .ok (.int .u8 b0) w := fun _ => by kernel_rfl
    have i1 : ∀ w, (Instr.index 43 (.agg #[.int .u8 b0, .int .u8 b1, .int .u8 b2, .int .u8 b3]) (.int .i64 1)).run Tryd.prog w = .ok (.int .u8 b1) w := fun _ => by kernel_rfl
    have i2 : ∀ w, (Instr.index 43 (.agg #[.int .u8 b0, .int .u8 b1, .int .u8 b2, .int .u8 b3]) (.int .i64 2)).run Tryd.prog w = .ok (.int .u8 b2) w := fun _ => by kernel_rfl
    have i3 : ∀ w, (Instr.index 43 (.agg #[.int .u8 b0, .int .u8 b1, .int .u8 b2, .int .u8 b3]) (.int .i64 3)).run Tryd.prog w = .ok (.int .u8 b3) w := fun _ => by kernel_rfl
    have o0 := frame_number.or_at 0 b0 0 (by omega) (by decide) h00 h01 (by omega)
    have o1 := frame_number.or_at b0 b1 8 (by omega) (by rw [show (2 : Int) ^ 8 = 256 from rfl]; omega) h10 h11 (by omega)
    have o2 := frame_number.or_at (b0 + 256 * b1) b2 16 (by omega) (by rw [show (2 : Int) ^ 16 = 65536 from rfl]; omega) h20 h21 (by omega)
    have o3 := frame_number.or_at (b0 + 256 * b1 + 65536 * b2) b3 24 (by omega) (by rw [show (2 : Int) ^ 24 = 16777216 from rfl]; omega) h30 h31 (by omega)
    have O := Aside0.mk (And.intro o0 (And.intro o1 (And.intro o2 o3)))
    clear o0 o1 o2 o3
    go_enter Tryd.func33, Tryd.ntmps33
    go_wp2
    go_loop [3, 4, 5, 7] (fun n _ _ i => ∃ k : Nat, k ≤ 4 ∧ i = .int .i64 k ∧ n = .int .i64 (if k = 0 then 0 else if k = 1 then b0 else if k = 2 then b0 + 256 * b1 else if k = 3 then b0 + 256 * b1 + 65536 * b2 else b0 + 256 * b1 + 65536 * b2 + 16777216 * b3)) (fun _ _ _ i => 4 - (intOf i).toNat)
    case atStart => exact ⟨0, by omega, rfl, rfl⟩
    case round =>
      obtain ⟨k, hk, rfl, rfl⟩ := hrel
      obtain ⟨o0, o1, o2, o3⟩ := O.out
      have hk' : k = 0 ∨ k = 1 ∨ k = 2 ∨ k = 3 ∨ k = 4 := by omega
      rw [show (2 : Int) ^ 0 = 1 from rfl, Int.mul_one] at o0
      rw [show (2 : Int) ^ 8 = 256 from rfl] at o1
      rw [show (2 : Int) ^ 16 = 65536 from rfl] at o2
      rw [show (2 : Int) ^ 24 = 16777216 from rfl] at o3
      clear O
      rcases hk' with rfl | rfl | rfl | rfl | rfl
      · go_wp2
        exact ⟨⟨1, by omega, rfl, congrArg _ (by simp)⟩, by simp [intOf]⟩
      · go_wp2
        exact ⟨⟨2, by omega, rfl, congrArg _ (by simp; omega)⟩, by simp [intOf]⟩
      · go_wp2
        exact ⟨⟨3, by omega, rfl, congrArg _ (by simp; omega)⟩, by simp [intOf]⟩
      · go_wp2
        exact ⟨⟨4, by omega, rfl, congrArg _ (by simp; omega)⟩, by simp [intOf]⟩
      · go_wp2
        go_ret
        exact ⟨rfl, below_alloc (Below.refl _ _) _⟩
  · cases h

/-! ### frame_first: function 24, by hand -/
-- HAND rounds=0 making=1 laid=1 share=0.0 rsh=0:V imports=Derived.Laws.Cover3,Derived.Deep.RegionHeld3
/-- Four bytes, the lowest first. -/
def frame_first.num (l : List Int) : Int := rd l 0 + 256 * rd l 1 + 65536 * rd l 2 + 16777216 * rd l 3
def frame_first.f (l : List Int) : Option (List Int × Int × Int) :=
  if l.length < 8 then some ([], 0, 5) else
  if ∃ x ∈ l, x < 0 ∨ 255 < x then none else
  if frame_first.num l > 4000 then some ([], 0, 1) else
  if (l.length : Int) < 8 + frame_first.num l then some ([], 0, 5) else
  (sum_Of.f ((l.take (8 + frame_first.num l).toNat).drop 8)).bind fun s =>
  if s = frame_first.num (l.drop 4) then some ((l.take (8 + frame_first.num l).toNat).drop 8, 8 + frame_first.num l, 0) else some ([], 0, 14)
theorem frame_first.cells {w : World} {A : Option Addr} {l : List Int} (h : Kd.C (Kd.int .u8) w A l.length l) (h8 : 8 ≤ l.length) :
    ∃ b o, A = some ⟨b, o, none⟩ ∧ ∀ j : Nat, j < l.length → w.cell? ⟨b, o + j, none⟩ = some (.int .u8 (rd l (j : Int))) := by
  obtain ⟨ad, rfl, h0⟩ := Kd.at_int h 0 (by omega) (by omega)
  have hs : ad.spot = none := by
    cases hsp : ad.spot with
    | none => rfl
    | some s =>
      exfalso
      rw [show ad.add (0 : Int).toNat = ad from by simp [Addr.add]] at h0
      unfold World.cell? at h0
      split at h0
      · rw [hsp] at h0
        simp at h0
      · cases h0
  obtain ⟨b, o, sp⟩ := ad
  dsimp only at hs
  subst hs
  refine ⟨b, o, rfl, fun j hj => ?_⟩
  obtain ⟨ad, e, hc⟩ := Kd.at_int h (j : Int) (by omega) (by omega)
  cases e
  rw [Int.toNat_natCast] at hc
  have : (⟨b, o, none⟩ : Addr).add j = ⟨b, o + j, none⟩ := by unfold Addr.add; split <;> simp_all
  rwa [this] at hc
theorem frame_first.range {l : List Int} (h : ¬ ∃ x ∈ l, x < 0 ∨ 255 < x) (j : Nat) (hj : j < l.length) : 0 ≤ rd l (j : Int) ∧ rd l (j : Int) ≤ 255 := by
  have e : rd l (j : Int) = l[j] := by simp [rd, List.getD_eq_getElem?_getD, hj]
  rw [e]
  have hx := List.getElem_mem hj
  by_cases h0 : l[j] < 0
  · exact (h ⟨_, hx, .inl h0⟩).elim
  · by_cases h1 : 255 < l[j]
    · exact (h ⟨_, hx, .inr h1⟩).elim
    · omega
theorem frame_first.rd_drop (l : List Int) (i j : Nat) : rd (l.drop i) (j : Int) = rd l ((i + j : Nat) : Int) := by
  unfold rd
  rw [Int.toNat_natCast, Int.toNat_natCast, List.getD_eq_getElem?_getD, List.getD_eq_getElem?_getD, List.getElem?_drop]
set_option maxRecDepth 100000 in
set_option maxHeartbeats 4000000 in
theorem frame_first.calls (P0_ : Nat → Prop) (A0 : Option Addr) (c0 : Nat) (l0 : List Int) (r1 : List Int) (r2 r3 : Int) (w : World) (hs0 : Kd.V (Kd.int .u8) 5 w w.heap.size (fun k_ => P0_ k_) (.slice A0 l0.length c0) l0) (hL : LD w) (h : frame_first.f l0 = some (r1, r2, r3)) :
    Calls Tryd.prog 24 #[.slice A0 l0.length c0] w fun e w' => ∃ v0_ : Value, e = .returned (.tuple #[v0_, .int .i64 r2, .int .i64 r3]) ∧ Kd.V (Kd.int .u8) 5 w' w.heap.size (fun k_ => (P0_ k_ ∨ w.heap.size ≤ k_)) v0_ r1 ∧ Below w.heap.size w w' := by
  have hr0 : Kd.C (Kd.int .u8) w A0 l0.length l0 := (Kd.V_reads' hs0).2.2
  have hc0 : l0.length ≤ c0 := (Kd.V_reads' hs0).2.1
  have HF := Aside0.mk (Kd.V_at hs0).2.2
  clear hs0
  have hm := hr0.2.1
  have HR := Aside0.mk hr0
  have HL := Aside0.mk hL
  clear hr0 hL
  unfold frame_first.f at h
  by_cases h8 : l0.length < 8
  · rw [if_pos h8] at h
    obtain ⟨rfl, rfl, rfl⟩ : r1 = [] ∧ r2 = 0 ∧ r3 = 5 := by simpa [eq_comm] using h
    clear h
    go_enter Tryd.func24, Tryd.ntmps24
    go_wp2
    go_ret3
    exact ⟨_, rfl, Kd.V_nil _ _ _ _ _, Below.refl _ _⟩
  rw [if_neg h8] at h
  by_cases hx : ∃ x ∈ l0, x < 0 ∨ 255 < x
  · rw [if_pos hx] at h
    cases h
  rw [if_neg hx] at h
  have RG := Aside0.mk (frame_first.range hx)
  clear hx
  obtain ⟨b, o, rfl, hc⟩ := frame_first.cells HR.out (by omega)
  have e0 := hc 0 (by omega); have e1 := hc 1 (by omega); have e2 := hc 2 (by omega); have e3 := hc 3 (by omega)
  have e4 := hc 4 (by omega); have e5 := hc 5 (by omega); have e6 := hc 6 (by omega); have e7 := hc 7 (by omega)
  have HC := Aside0.mk hc
  clear hc
  have g0 := RG.out 0 (by omega); have g1 := RG.out 1 (by omega); have g2 := RG.out 2 (by omega); have g3 := RG.out 3 (by omega)
  have g4 := RG.out 4 (by omega); have g5 := RG.out 5 (by omega); have g6 := RG.out 6 (by omega); have g7 := RG.out 7 (by omega)
  have hd : frame_first.num (l0.drop 4) = rd l0 (4 : Nat) + 256 * rd l0 (5 : Nat) + 65536 * rd l0 (6 : Nat) + 16777216 * rd l0 (7 : Nat) := by
    show rd (l0.drop 4) ((0 : Nat) : Int) + 256 * rd (l0.drop 4) ((1 : Nat) : Int) + 65536 * rd (l0.drop 4) ((2 : Nat) : Int) + 16777216 * rd (l0.drop 4) ((3 : Nat) : Int) = _
    simp only [frame_first.rd_drop]
  have hn : frame_first.num l0 = rd l0 (0 : Nat) + 256 * rd l0 (1 : Nat) + 65536 * rd l0 (2 : Nat) + 16777216 * rd l0 (3 : Nat) := rfl
  have q1 : frame_number.f (rd l0 (0 : Nat)) (rd l0 (1 : Nat)) (rd l0 (2 : Nat)) (rd l0 (3 : Nat)) = some (frame_first.num l0) := by unfold frame_number.f; rw [if_pos ⟨g0, g1, g2, g3⟩, hn]
  have q2 : frame_number.f (rd l0 (4 : Nat)) (rd l0 (5 : Nat)) (rd l0 (6 : Nat)) (rd l0 (7 : Nat)) = some (frame_first.num (l0.drop 4)) := by unfold frame_number.f; rw [if_pos ⟨g4, g5, g6, g7⟩, hd]
  have Q := Aside0.mk (And.intro q1 q2)
  have hn0 : 0 ≤ frame_first.num l0 := by omega
  generalize hN : frame_first.num l0 = N at *
  generalize hM : frame_first.num (l0.drop 4) = M at *
  clear q1 q2 hd hn hN hM g0 g1 g2 g3 g4 g5 g6 g7
  rw [Nat.add_zero] at e0
  generalize rd l0 (0 : Nat) = x0 at *
  generalize rd l0 (1 : Nat) = x1 at *
  generalize rd l0 (2 : Nat) = x2 at *
  generalize rd l0 (3 : Nat) = x3 at *
  generalize rd l0 (4 : Nat) = x4 at *
  generalize rd l0 (5 : Nat) = x5 at *
  generalize rd l0 (6 : Nat) = x6 at *
  generalize rd l0 (7 : Nat) = x7 at *
  have hbl := World.block_lt_of_cell? w _ e0
  have ha1 : ∀ W : World, (Instr.arrayAt 43 (.slice (some ⟨b, o, none⟩) l0.length c0)).run Tryd.prog W = .ok (.pointer (some ⟨b, o, none⟩)) W := fun W => run_arrayAt W _ 5 4 _ _ _ Tryd.underlying43 (by omega)
  have ha2 : ∀ W : World, (Instr.arrayAt 43 (.slice (some ⟨b, o + 4, none⟩) (l0.length - 4) (c0 - 4))).run Tryd.prog W = .ok (.pointer (some ⟨b, o + 4, none⟩)) W := fun W => run_arrayAt W _ 5 4 _ _ _ Tryd.underlying43 (by omega)
  by_cases hbig : N > 4000
  · rw [if_pos hbig] at h
    obtain ⟨rfl, rfl, rfl⟩ : r1 = [] ∧ r2 = 0 ∧ r3 = 1 := by simpa [eq_comm] using h
    clear h
    go_enter Tryd.func24, Tryd.ntmps24
    go_wp2_with (go_at_call 33; (with_reducible refine (frame_number.calls4 x0 x1 x2 x3 N _ Q.out.1).mono ?_); rintro e w' ⟨rfl, hb⟩; have HB := Aside0.mk hb; clear hb)
    go_ret3
    exact ⟨_, rfl, Kd.V_nil _ _ _ _ _, HB.out⟩
  rw [if_neg hbig] at h
  by_cases hlen : (l0.length : Int) < 8 + N
  · rw [if_pos hlen] at h
    obtain ⟨rfl, rfl, rfl⟩ : r1 = [] ∧ r2 = 0 ∧ r3 = 5 := by simpa [eq_comm] using h
    clear h
    go_enter Tryd.func24, Tryd.ntmps24
    go_wp2_with (go_at_call 33; (with_reducible refine (frame_number.calls4 x0 x1 x2 x3 N _ Q.out.1).mono ?_); rintro e w' ⟨rfl, hb⟩; have HB := Aside0.mk hb; clear hb)
    go_ret3
    exact ⟨_, rfl, Kd.V_nil _ _ _ _ _, HB.out⟩
  rw [if_neg hlen] at h
  obtain ⟨s, hs, h⟩ := Option.bind_eq_some_iff.1 h
  obtain ⟨n, rfl⟩ := Int.eq_ofNat_of_zero_le hn0
  rw [show (8 + (n : Int)).toNat = 8 + n by omega] at hs h
  have htl : (l0.take (8 + n)).length = 8 + n := by rw [List.length_take]; omega
  have hbl2 : ((l0.take (8 + n)).drop 8).length = n := by rw [List.length_drop, htl]; omega
  obtain ⟨A1, hA1⟩ : ∃ A1 : Option Addr, A1 = (if 8 + n = 8 then some ⟨b, o, none⟩ else (some ⟨b, o, none⟩ : Option Addr).map (·.add (8 * 1))) := ⟨_, rfl⟩
  have hcut : ∀ W : World, (Instr.slice 22 (.slice (some ⟨b, o, none⟩) l0.length c0) (some (.int .i64 8)) (some (.int .i64 (8 + (n : Int)))) (some (.int .i64 (8 + (n : Int))))).run Tryd.prog W = .ok (.slice A1 n n) W := by
    intro W
    have hel : Tryd.prog.elem 22 = 5 := by simp [Program.elem, Tryd.underlying22]
    have hu : Tryd.prog.underlying 22 = some (.slice (Tryd.prog.elem 22)) := by rw [hel]; exact Tryd.underlying22
    rw [run_slice_lhm W 22 (some ⟨b, o, none⟩) l0.length c0 hu .i64 .i64 .i64 8 (8 + (n : Int)) (8 + (n : Int)) (by omega) (by omega) (by omega) (by omega), hel, Tryd.sizeOf5]
    simp only [Result.andThen, sliced]
    rw [show (8 : Int).toNat = 8 from rfl, show (8 + (n : Int)).toNat = 8 + n by omega, ← hA1, Nat.add_sub_cancel_left]
  have hC1 : Kd.C (Kd.int .u8) w A1 ((l0.take (8 + n)).drop 8).length ((l0.take (8 + n)).drop 8) := by
    rw [hA1]
    exact Kd.C_drop (k := Kd.int .u8) (Kd.C_take HR.out (by omega)) (by omega) (by omega)
  have hF1 : Kd.F (Kd.int .u8) w (fun k_ => P0_ k_) A1 ((l0.take (8 + n)).drop 8).length ((l0.take (8 + n)).drop 8) := by
    rw [hA1]
    exact Kd.F_cut (d := Kd.int .u8) (Kd.F_take HF.out (by omega)) (by omega) (by omega)
  have hsum : ∀ W : World, Below w.heap.size w W → Calls Tryd.prog 8 #[.slice A1 n n] W fun e w' => e = .returned (.int .i64 s) ∧ Below w.heap.size w w' := by
    intro W hb
    have := sum_Of.calls A1 n ((l0.take (8 + n)).drop 8) s W (Kd.C_below hC1 hb) (by omega) (LD.below HL.out hb) hs
    rw [hbl2] at this
    exact this.mono fun e w' ⟨he, hd⟩ => ⟨he, hb.trans (hd.below.mono hb.size)⟩
  have hnum : ∀ W : World, Below w.heap.size w W → Calls Tryd.prog 33 #[.agg #[.int .u8 x4, .int .u8 x5, .int .u8 x6, .int .u8 x7]] W fun e w' => e = .returned (.int .i64 M) ∧ Below w.heap.size w w' := by
    intro W hb
    exact (frame_number.calls4 x4 x5 x6 x7 M W Q.out.2).mono fun e w' ⟨he, hd⟩ => ⟨he, hb.trans (hd.mono hb.size)⟩
  have HSUM := Aside0.mk hsum
  have HNUM := Aside0.mk hnum
  have HC1 := Aside0.mk (And.intro hF1 hbl2)
  clear hsum hnum hC1 hF1 hbl2 htl hA1 hs
  have keep : ∀ W : World, Below w.heap.size w W → Below w.heap.size w W ∧ W.cell? ⟨b, o + 4, none⟩ = some (.int .u8 x4) ∧ W.cell? ⟨b, o + 5, none⟩ = some (.int .u8 x5) ∧ W.cell? ⟨b, o + 6, none⟩ = some (.int .u8 x6) ∧ W.cell? ⟨b, o + 7, none⟩ = some (.int .u8 x7) :=
    fun W hb => ⟨hb, pw_cell_below hb e4, pw_cell_below hb e5, pw_cell_below hb e6, pw_cell_below hb e7⟩
  have KP := Aside0.mk keep
  clear keep
  have hcut2 : ∀ W : World, (Instr.slice 22 (.slice (some ⟨b, o, none⟩) l0.length c0) (some (.int .i64 4)) none none).run Tryd.prog W = .ok (.slice (some ⟨b, o + 4, none⟩) (l0.length - 4) (c0 - 4)) W := by
    intro W
    have hel : Tryd.prog.elem 22 = 5 := by simp [Program.elem, Tryd.underlying22]
    have hu : Tryd.prog.underlying 22 = some (.slice (Tryd.prog.elem 22)) := by rw [hel]; exact Tryd.underlying22
    rw [run_slice_l W 22 (some ⟨b, o, none⟩) l0.length c0 hu .i64 4 (by omega) (by omega), hel, Tryd.sizeOf5]
    simp only [Result.andThen, sliced]
    rw [show (4 : Int).toNat = 4 from rfl, if_neg (by omega)]
    rfl
  by_cases hsm : s = M
  · rw [if_pos hsm] at h
    obtain ⟨rfl, rfl, rfl⟩ : r1 = (l0.take (8 + n)).drop 8 ∧ r2 = 8 + (n : Int) ∧ r3 = 0 := by simpa [eq_comm] using h
    have hq : (s != M) = false := by simp [hsm]
    clear h hsm
    go_enter Tryd.func24, Tryd.ntmps24
    go_wp2_with (go_at_call 33; (with_reducible refine (frame_number.calls4 x0 x1 x2 x3 (n : Int) _ Q.out.1).mono ?_); rintro e w' ⟨rfl, hb⟩; have HB := Aside0.mk hb; clear hb)
    obtain ⟨y0, y4, y5, y6, y7⟩ := KP.out _ HB.out
    go_region_held3 (fun W => Below w.heap.size w W ∧ W.cell? ⟨b, o + 4, none⟩ = some (.int .u8 x4) ∧ W.cell? ⟨b, o + 5, none⟩ = some (.int .u8 x5) ∧ W.cell? ⟨b, o + 6, none⟩ = some (.int .u8 x6) ∧ W.cell? ⟨b, o + 7, none⟩ = some (.int .u8 x7))
      (first | exact KP.out _ (by assumption) | exact KP.out _ (below_drew1 (by assumption)))
      (first
        | (go_at_call 8; refine (HSUM.out _ (by go_split_ands; assumption)).mono ?_; rintro e w1 ⟨rfl, hb1⟩)
        | (go_at_call 33; refine (HNUM.out _ (by go_split_ands; assumption)).mono ?_; rintro e w1 ⟨rfl, hb1⟩))
    all_goals
      go_wp2
      go_ret3
      exact ⟨.slice A1 ((l0.take (8 + n)).drop 8).length n, by rw [HC1.out.2]; rfl, Kd.V_mk (Nat.le_of_eq HC1.out.2) (Kd.F_mono (Kd.F_below HC1.out.1 hb1) (fun _ hk => .inl hk)), hb1⟩
  · rw [if_neg hsm] at h
    obtain ⟨rfl, rfl, rfl⟩ : r1 = [] ∧ r2 = 0 ∧ r3 = 14 := by simpa [eq_comm] using h
    have hq : (s != M) = true := by simp [hsm]
    clear h hsm
    go_enter Tryd.func24, Tryd.ntmps24
    go_wp2_with (go_at_call 33; (with_reducible refine (frame_number.calls4 x0 x1 x2 x3 (n : Int) _ Q.out.1).mono ?_); rintro e w' ⟨rfl, hb⟩; have HB := Aside0.mk hb; clear hb)
    obtain ⟨y0, y4, y5, y6, y7⟩ := KP.out _ HB.out
    go_region_held3 (fun W => Below w.heap.size w W ∧ W.cell? ⟨b, o + 4, none⟩ = some (.int .u8 x4) ∧ W.cell? ⟨b, o + 5, none⟩ = some (.int .u8 x5) ∧ W.cell? ⟨b, o + 6, none⟩ = some (.int .u8 x6) ∧ W.cell? ⟨b, o + 7, none⟩ = some (.int .u8 x7))
      (first | exact KP.out _ (by assumption) | exact KP.out _ (below_drew1 (by assumption)))
      (first
        | (go_at_call 8; refine (HSUM.out _ (by go_split_ands; assumption)).mono ?_; rintro e w1 ⟨rfl, hb1⟩)
        | (go_at_call 33; refine (HNUM.out _ (by go_split_ands; assumption)).mono ?_; rintro e w1 ⟨rfl, hb1⟩))
    all_goals
      go_wp2
      go_ret3
      exact ⟨_, rfl, Kd.V_nil _ _ _ _ _, hb1⟩

/-! ### slices_Clone_byte_byte: function 25, by hand -/
-- HAND rounds=0 making=1 imports=Derived.Lib.SliceRun
-- INFO 5
/-- A copy. -/
def slices_Clone_byte_byte.f (l0 : List (Int)) : Option (List (Int)) := if l0.length * 1 < 140737488355328 then some l0 else none
set_option maxRecDepth 100000 in
set_option maxHeartbeats 2000000 in
theorem slices_Clone_byte_byte.calls (A0 : Option Addr) (c0 : Nat) (l0 : List (Int)) (r : List (Int)) (w : World) (hr0 : Kd.C (Kd.int .u8) w A0 l0.length l0) (hc0 : l0.length ≤ c0) (h : slices_Clone_byte_byte.f l0 = some r) :
    Calls Tryd.prog 25 #[.slice A0 l0.length c0] w fun e w' => ∃ v0_ : Value, e = .returned (v0_) ∧ Kd.R (Kd.int .u8) 5 w' w.heap.size (fun _ => True) v0_ r ∧ Below w.heap.size w w' := by
  unfold slices_Clone_byte_byte.f at h
  split at h
  · rename_i hb
    obtain rfl := Option.some.inj h
    clear h
    have HR0 := Aside0.mk hr0
    have HC0 := Aside0.mk hc0
    have LM := Aside0.mk hb
    clear hr0 hc0 hb
    cases A0 with
    | none =>
      have q22 : ∀ (w : World) (n c : Nat), (binOp .eql 22 (.slice none n c) (.slice none 0 0)).run Tryd.prog w = .ok (.bool true) w := fun w n c => Lib.run_eql_slice_nil w _ _ none n c 0 0 Tryd.underlying22
      have hnil : l0 = [] := by
        rcases l0 with _ | ⟨x, l⟩
        · rfl
        · obtain ⟨ad, e, _⟩ := HR0.out.2.2 (by simp)
          cases e
      go_enter Tryd.func25, Tryd.ntmps25
      go_wp2
      go_ret
      subst hnil
      exact ⟨_, rfl, Kd.R_nil _ _ _ _ _, Below.refl _ _⟩
    | some ad =>
      have q22 : ∀ (w : World) (n c : Nat), (binOp .eql 22 (.slice (some ad) n c) (.slice none 0 0)).run Tryd.prog w = .ok (.bool false) w := fun w n c => Lib.run_eql_slice_nil w _ _ (some ad) n c 0 0 Tryd.underlying22
      go_enter Tryd.func25, Tryd.ntmps25
      go_wp2_with (at_builtin; refine Kd.R_append_rows (Kd.int .u8) (w0 := w) w.heap.size rfl (.tmp 5) (.tmp 6) 22 5 (.int .u8 0) 1 rfl Tryd.underlying22 info5 rfl (by decide) (by omega) (.slice (some ⟨w.heap.size, 0, none⟩) 0 0) ([] : List (Int)) l0 _ _ _ (fun _ => True) (fun _ => False) rfl rfl ?aO ?aR (fun _ _ h => h) (fun _ h => h.elim) (fun _ _ => trivial) ?aB ?aS ?aL ?_; (case aO => exact ⟨fun _ _ => trivial, [], World.ownsRow_made w #[] 0 (Nat.le_refl _) (Nat.zero_le _) (by simp), Reps.none _ _⟩); (case aR => exact Kd.C_below HR0.out (below_alloc (Below.refl _ _) _)); (case aB => exact below_alloc (Below.refl _ _) _); (case aS => simp); (case aL => have := LM.out; simp only [List.length_nil, Nat.zero_add]; omega); intro v102 w3 ho hb hg hat; have HO := Aside0.mk ho; have HB := Aside0.mk hb; clear ho hb hg hat)
      go_ret
      exact ⟨_, rfl, by simpa using HO.out, HB.out⟩
  · cases h

/-! ### frame_Cut: function 18 -/
def frame_Cut.l0 : Nat → List Int → List (List Int) → Int → Option ((List (List Int)) × Int × Int)
  | 0, _, _, _ => none
  | k + 1, x0, x5, x6 => if x6 < (x0.length : Int) then (if (x5.length : Int) = 100 then (some (x5, x6, 8)) else (if 0 ≤ x6 then (if x6 ≤ (x0.length : Int) then ((frame_first.f (x0.drop (x6 : Int).toNat)).bind fun bt107 => (if bt107.2.2 = 0 then ((slices_Clone_byte_byte.f bt107.1).bind fun t112 => (if x5.length < 5864062014805 then (frame_Cut.l0 k x0 (x5 ++ [t112]) (wrap64 (x6 + bt107.2.1))) else (none))) else (some (x5, x6, bt107.2.2)))) else (none)) else (none))) else (some (x5, x6, 0))
def frame_Cut.f (k : Nat) (l0 : List Int) : Option ((List (List Int)) × Int × Int) := frame_Cut.l0 k l0 ([] : List (List Int)) 0
theorem frame_Cut.mono_l : ∀ k, (∀ y0 y1 y2, LeO (frame_Cut.l0 k y0 y1 y2) (frame_Cut.l0 (k + 1) y0 y1 y2))
  | 0 => fun _ _ _ r h => by simp [frame_Cut.l0] at h
  | k + 1 => by
    have ih0 := frame_Cut.mono_l k
    · intro y0 y1 y2
      unfold frame_Cut.l0
      repeat' first
      | (with_reducible exact ih0 _ _ _)
      | (with_reducible exact LeO.refl _)
      | (with_reducible exact LeO.none _)
      | (with_reducible refine LeO.ite ?_ ?_)
      | (with_reducible refine LeO.bind ?_ (fun _ => ?_))
      | exact ih0 _ _ _
      | exact LeO.none _
      | refine LeO.ite ?_ ?_
      | refine LeO.bind ?_ (fun _ => ?_)
theorem frame_Cut.mono : ∀ a0 k, LeO (frame_Cut.f k a0) (frame_Cut.f (k + 1) a0) := by
  intro a0 k
  have ih0 := frame_Cut.mono_l k
  unfold frame_Cut.f
  repeat' first
      | (with_reducible exact ih0 _ _ _)
      | (with_reducible exact LeO.refl _)
      | (with_reducible exact LeO.none _)
      | (with_reducible refine LeO.ite ?_ ?_)
      | (with_reducible refine LeO.bind ?_ (fun _ => ?_))
      | exact ih0 _ _ _
      | exact LeO.none _
      | refine LeO.ite ?_ ?_
      | refine LeO.bind ?_ (fun _ => ?_)
set_option maxHeartbeats 8000000 in
set_option maxRecDepth 100000 in
theorem frame_Cut.calls (k : Nat) (A0 : Option Addr) (c0 : Nat) (l0 : List Int) (r1 : List (List Int)) (r2 : Int) (r3 : Int) (w : World) (hr0 : Kd.C (Kd.int .u8) w A0 l0.length l0) (hc0 : l0.length ≤ c0) (hL : LD w) (h : frame_Cut.f k l0 = some (r1, r2, r3)) :
    Calls Tryd.prog 18 #[.slice A0 l0.length c0] w fun e w' => ∃ v0_ : Value, e = .returned (.tuple #[v0_, .int .i64 r2, .int .i64 r3]) ∧ Kd.S (Kd.slice 5 (Kd.int .u8)) 22 w' w.heap.size (fun _ => True) v0_ r1 ∧ Below w.heap.size w w' := by
  have HLD := Aside0.mk hL
  clear hL
  have HR0 := Aside0.mk hr0
  have HC0 := Aside0.mk hc0
  clear hr0 hc0
  have HB := Aside0.mk (Below.refl w.heap.size w)
  have H : (frame_Cut.l0 k l0 ([] : List (List Int)) 0) = some (r1, r2, r3) := h
  clear h
  have H' := Aside0.mk H
  clear H
  go_enter Tryd.func18, Tryd.ntmps18
  go_wp2
  go_loopg [5, 6] k (fun kq v5 v6 w' => ∃ (x5_1 : List (List Int)) (x6_1 : Int), v6 = .int .i64 x6_1 ∧ Aside0 (frame_Cut.l0 kq l0 x5_1 x6_1 = some (r1, r2, r3)) ∧ Aside0 (kq ≤ k) ∧ Aside0 (Kd.S (Kd.slice 5 (Kd.int .u8)) 22 w' w.heap.size (fun _ => True) v5 x5_1) ∧ Aside0 (Below w.heap.size w w'))
  case atStart => exact ⟨(([] : List (List Int))), (0), (by first | rfl | (simp; done) | (simp [*]; done)), H', ⟨Nat.le_refl _⟩, ⟨by first | exact Kd.S_nil _ _ _ _ _ | exact Kd.N_nil _ _ _ _ _ | exact Kd.V_nil _ _ _ _ _ | exact Kd.Q_nil _ _ _ _ _ | exact Kd.R_nil _ _ _ _ _⟩, ⟨by repeat (first | (with_reducible first | exact HB.out | apply below_alloc | apply pw_below_drewN | apply below_drew1) | exact HB.out)⟩⟩
  case round =>
    clear H'
    try clear c1
    obtain ⟨x5_1, x6_1, rfl, HA, HK1, HO_5, HB⟩ := hrel
    cases gk with
    | zero => exact absurd HA.out (by simp [frame_Cut.l0])
    | succ k1 =>
      have H := HA.out
      clear HA
      simp only [frame_Cut.l0] at H
      by_cases c2 : x6_1 < (l0.length : Int)
      · rw [if_pos c2] at H
        have c2b0 : decide (x6_1 < (l0.length : Int)) = true := decide_eq_true c2
        clear c2
        by_cases c3 : (x5_1.length : Int) = 100
        · rw [if_pos c3] at H
          have c3b0 : ((x5_1.length : Int) == 100) = true := beq_iff_eq.mpr c3
          have c3b1 : ((x5_1.length : Int) != 100) = false := bne_eq_false_iff_eq.mpr c3
          clear c3
          simp only [Option.some.injEq, Prod.mk.injEq] at H
          obtain ⟨rfl, rfl, rfl⟩ := H
          obtain ⟨Ao4, co4, eo4⟩ := Kd.S_slice HO_5.out
          subst eo4
          go_wp2
          go_ret3
          exact ⟨_, by first | rfl | (simp [errW_none, errW_some] <;> rfl) | (simp [*, errW_none, errW_some] <;> rfl), by (with_reducible repeat (first | apply Kd.S_alloc | apply Kd.S_drewN | apply Kd.S_drew)); exact HO_5.out, by repeat (first | (with_reducible first | exact HB.out | apply below_alloc | apply pw_below_drewN | apply below_drew1) | exact HB.out)⟩
        · rw [if_neg c3] at H
          have c3b0 : ((x5_1.length : Int) == 100) = false := beq_eq_false_iff_ne.mpr c3
          have c3b1 : ((x5_1.length : Int) != 100) = true := bne_iff_ne.mpr c3
          by_cases c5 : 0 ≤ x6_1
          · rw [if_pos c5] at H
            have c5b0 := eq_true c5
            have c5b1 : decide (0 ≤ x6_1) = true := decide_eq_true c5
            clear c5
            by_cases c6 : x6_1 ≤ (l0.length : Int)
            · rw [if_pos c6] at H
              have c6b0 := eq_true c6
              have c6b1 : decide (x6_1 ≤ (l0.length : Int)) = true := decide_eq_true c6
              clear c6
              replace H := Option.bind_eq_some_iff.mp H
              obtain ⟨⟨t107, t110, t111⟩, A70, H⟩ := H
              replace H : (if t111 = 0 then ((slices_Clone_byte_byte.f t107).bind fun t112 => (if x5_1.length < 5864062014805 then (frame_Cut.l0 k1 l0 (x5_1 ++ [t112]) (wrap64 (x6_1 + t110))) else (none))) else (some (x5_1, x6_1, t111))) = some (r1, r2, r3) := H
              have A7 := Aside0.mk A70
              clear A70
              by_cases c8 : t111 = 0
              · rw [if_pos c8] at H
                have c8b0 : (t111 == 0) = true := beq_iff_eq.mpr c8
                have c8b1 : (t111 != 0) = false := bne_eq_false_iff_eq.mpr c8
                clear c8
                replace H := Option.bind_eq_some_iff.mp H
                obtain ⟨t112, A90, H⟩ := H
                replace H : (if x5_1.length < 5864062014805 then (frame_Cut.l0 k1 l0 (x5_1 ++ [t112]) (wrap64 (x6_1 + t110))) else (none)) = some (r1, r2, r3) := H
                have A9 := Aside0.mk A90
                clear A90
                by_cases c10 : x5_1.length < 5864062014805
                · rw [if_pos c10] at H
                  have LMc10 := Aside0.mk c10
                  clear c10
                  obtain ⟨y115, hy115⟩ : ∃ y_ : List (List Int), y_ = (x5_1 ++ [t112]) := ⟨_, rfl⟩
                  replace H : (frame_Cut.l0 k1 l0 y115 (wrap64 (x6_1 + t110))) = some (r1, r2, r3) := by first | (rw [hy115]; with_reducible exact H) | (have H2_ := (Option.bind_some _ _).symm.trans H; rw [hy115]; with_reducible exact H2_) | (have H2_ := (Option.bind_some _ _).symm.trans H; with_reducible exact H2_) | with_reducible exact H | (rw [hy115]; exact H) | exact H
                  have Ny115 := Aside0.mk hy115
                  clear hy115
                  have H' := Aside0.mk H
                  clear H
                  obtain ⟨Ao11, co11, eo11⟩ := Kd.S_slice HO_5.out
                  subst eo11
                  obtain ⟨i012, hi012, _, hsz12, _⟩ := info_parts info5
                  obtain ⟨A12, hcut12, hA12, hC12⟩ := print_drop_of (P := Tryd.prog) (Value.int .u8) 0 22 5 .i64 Tryd.underlying22 hi012 hsz12 A0 c0 l0 x6_1 (of_decide_eq_true (by first | (with_reducible assumption) | assumption)) (of_decide_eq_true (by first | (with_reducible assumption) | assumption)) HC0.out
                  have HR106 := Aside0.mk (Kd.C_of_reads (h1 := fun _ => rfl) (hA12 _ (Kd.reads_of_C HR0.out)))
                  have HC106 := Aside0.mk hC12
                  clear hA12 hC12 hi012 hsz12
                  go_wp2_with (first | ((with_reducible refine gate_callee (f := 24) rfl ?_); refine goesL_ (some 23) rfl rfl Tryd.func24 (by kernel_rfl) rfl #[.slice A12 (l0.drop (x6_1 : Int).toNat).length (c0 - x6_1.toNat)] rfl (by (try simp only [List.map_toArray, List.map_cons, List.map_nil]); first | done | (rw [show (l0.drop (x6_1 : Int).toNat).length = (l0.length - x6_1.toNat) from List.length_drop] <;> rfl) | rfl | (simp only [List.length_drop, List.length_take]; rfl)) ?_; (with_reducible refine (frame_first.calls (fun k_ => k_ < w.heap.size) _ _ (l0.drop (x6_1 : Int).toNat) t107 t110 t111 _ ?side1 ?side2 A7.out).mono ?_); (case side1 => exact Kd.V_mk HC106.out (Kd.F_below (Kd.C_F (Kd.heap_int .u8) HR106.out) (by repeat (first | (with_reducible first | exact HB.out | apply below_alloc | apply pw_below_drewN | apply below_drew1) | exact HB.out)))); (case side2 => exact LD.below HLD.out (by first | (with_reducible exact Below.refl _ _) | ((repeat (first | (with_reducible exact Below.refl _ _) | (with_reducible apply below_alloc) | (with_reducible apply pw_below_drewN) | (with_reducible apply below_drew1))); done) | exact (by repeat (first | (with_reducible first | exact HB.out | apply below_alloc | apply pw_below_drewN | apply below_drew1) | exact HB.out)))); rintro e w13 ⟨v108, rfl, ho0, hb⟩; refine ⟨_, rfl, ?_⟩; have n0_ := Aside0.mk (Kd.S_below (by (with_reducible repeat (first | apply Kd.S_alloc | apply Kd.S_drewN | apply Kd.S_drew)); exact HO_5.out) hb); have n1_ := Aside0.mk (Kd.V_lower (Kd.V_mono (ok' := fun k_ => some k_ ≠ (.slice Ao11 x5_1.length co11 : Value).ownBlock) ho0 (fun k_ hk_ => Or.elim hk_ (fun hs_ => fun e_ => Nat.not_le.2 hs_ (Kd.S_base HO_5.out k_ e_.symm)) (fun hn_ => (Kd.fresh' (Kd.S_lt (by (with_reducible repeat (first | apply Kd.S_alloc | apply Kd.S_drewN | apply Kd.S_drew)); exact HO_5.out)) k_ hn_)))) (below_size (by repeat (first | (with_reducible first | exact HB.out | apply below_alloc | apply pw_below_drewN | apply below_drew1) | exact HB.out)))); have n2_ := Aside0.mk (below_step (by repeat (first | (with_reducible first | exact HB.out | apply below_alloc | apply pw_below_drewN | apply below_drew1) | exact HB.out)) hb); clear HO_5; clear HB; have HO_5 := n0_; have HO109 := n1_; have HB := n2_; clear n0_ n1_ n2_; (try clear hb); (try clear hb2); (try clear hk); (try clear hi); (try clear ho0); obtain ⟨Ao14, co14, eo14⟩ := Kd.V_slice HO109.out; subst eo14) | ((with_reducible refine gate_callee (f := 25) rfl ?_); refine goesL_ (some 34) rfl rfl Tryd.func25 (by kernel_rfl) rfl #[.slice Ao14 t107.length co14] rfl (by (try simp only [List.map_toArray, List.map_cons, List.map_nil]); first | done | rfl | (simp only [List.length_drop, List.length_take]; rfl)) ?_; (with_reducible refine (slices_Clone_byte_byte.calls _ _ t107 t112 _ ?side1 ?side2 A9.out).mono ?_); (case side1 => repeat (first | exact (Kd.V_reads' HO109.out).2.2 | (with_reducible refine Kd.C_alloc ?_ _) | (with_reducible refine Kd.C_drewN ?_ _) | (with_reducible refine Kd.C_drew ?_))); (case side2 => exact (Kd.V_reads' HO109.out).2.1); rintro e w15 ⟨v113, rfl, ho0, hb⟩; refine ⟨_, rfl, ?_⟩; have n0_ := Aside0.mk (Kd.S_elder' (by (with_reducible repeat (first | apply Kd.S_alloc | apply Kd.S_drewN | apply Kd.S_drew)); exact HO_5.out) (Kd.R_base ho0) hb); have n1_ := Aside0.mk (Kd.V_elder' (by (with_reducible repeat (first | apply Kd.V_alloc | apply Kd.V_drewN | apply Kd.V_drew)); exact HO109.out) (Kd.R_base ho0) hb); have n2_ := Aside0.mk (Kd.R_lower ho0 (below_size (by repeat (first | (with_reducible first | exact HB.out | apply below_alloc | apply pw_below_drewN | apply below_drew1) | exact HB.out)))); have n3_ := Aside0.mk (below_step (by repeat (first | (with_reducible first | exact HB.out | apply below_alloc | apply pw_below_drewN | apply below_drew1) | exact HB.out)) hb); clear HO_5; clear HO109; clear HB; have HO_5 := n0_; have HO109 := n1_; have HO114 := n2_; have HB := n3_; clear n0_ n1_ n2_ n3_; (try clear hb); (try clear hb2); (try clear hk); (try clear hi); (try clear ho0); obtain ⟨Ao17, co17, eo17⟩ := Kd.R_slice HO114.out; subst eo17) | ((with_reducible refine gate_builtin (b := .append) (xs := #[.tmp 32, .tmp 35]) rfl ?_); at_builtin; refine Kd.S_append (Kd.slice 5 (Kd.int .u8)) (w0 := w) w.heap.size rfl (.tmp 32) (.tmp 35) 33 22 (.slice none 0 0) 24 rfl Tryd.underlying33 info22 rfl (by decide) (by omega) (.slice Ao11 x5_1.length co11) x5_1 t112 [.slice Ao17 t112.length co17] (fun _ => True) (fun k_ => some k_ = (.slice Ao17 t112.length co17 : Value).ownBlock) rfl rfl ?aP (fun k_ hk_ => ((Kd.R_mono (ok' := fun k_ => ((fun _ => True)) k_ ∧ some k_ ≠ (.slice Ao11 x5_1.length co11 : Value).ownBlock) (Kd.R_apart' (HO114.out) (Kd.S_typed HO_5.out) (by decide)) (fun k_ hk => ⟨trivial, hk.2⟩))).1 k_ hk_.symm) ?aF ?aO ?aB ?aS ?aL ?_; (case aP => exact Kd.M_row (Kd.R_mono (Kd.R_tight rfl (Kd.R_mono (ok' := fun k_ => ((fun _ => True)) k_ ∧ some k_ ≠ (.slice Ao11 x5_1.length co11 : Value).ownBlock) (Kd.R_apart' (HO114.out) (Kd.S_typed HO_5.out) (by decide)) (fun k_ hk => ⟨trivial, hk.2⟩))) (fun _ h_ => h_))); (case aB => exact (by repeat (first | (with_reducible first | exact HB.out | apply below_alloc | apply pw_below_drewN | apply below_drew1) | exact HB.out))); (case aF => exact (fun _ _ => trivial)); (case aO => exact (by (with_reducible repeat (first | apply Kd.S_alloc | apply Kd.S_drewN | apply Kd.S_drew)); exact Kd.S_mono HO_5.out (fun k_ hk => ⟨trivial, fun e_ => hk.2 e_⟩))); (case aS => exact (below_size (by repeat (first | (with_reducible first | exact HB.out | apply below_alloc | apply pw_below_drewN | apply below_drew1) | exact HB.out)))); (case aL => have := LMc10.out; omega); intro v116 w16 ho hb hg hat; rw [← Ny115.out] at ho; have n0_ := Aside0.mk (Kd.V_afterv (ok := (fun k_ => some k_ ≠ (.slice Ao17 t112.length co17 : Value).ownBlock)) (by (with_reducible repeat (first | apply Kd.V_alloc | apply Kd.V_drewN | apply Kd.V_drew)); exact Kd.V_mono HO109.out (fun _ hk => ⟨hk.2, hk.1⟩)) hg hat); have n1_ := Aside0.mk (hb); have n2_ := Aside0.mk (ho); clear HO109; clear HB; clear HO_5; clear HO114; have HO109 := n0_; have HB := n1_; have HO117 := n2_; clear n0_ n1_ n2_; clear ho hb hg hat))
                  go_roundg k1
                  case measure => have := HK1.out; omega
                  case rel => exact ⟨(y115), (wrap64 (x6_1 + t110)), (by first | rfl | (simp; done) | (simp [*]; done)), H', ⟨by have := HK1.out; omega⟩, ⟨by (with_reducible repeat (first | apply Kd.S_alloc | apply Kd.S_drewN | apply Kd.S_drew)); exact HO117.out⟩, ⟨by repeat (first | (with_reducible first | exact HB.out | apply below_alloc | apply pw_below_drewN | apply below_drew1) | exact HB.out)⟩⟩
                · rw [if_neg c10] at H
                  exact absurd H (by simp)
              · rw [if_neg c8] at H
                have c8b0 : (t111 == 0) = false := beq_eq_false_iff_ne.mpr c8
                have c8b1 : (t111 != 0) = true := bne_iff_ne.mpr c8
                simp only [Option.some.injEq, Prod.mk.injEq] at H
                obtain ⟨rfl, rfl, rfl⟩ := H
                obtain ⟨Ao18, co18, eo18⟩ := Kd.S_slice HO_5.out
                subst eo18
                obtain ⟨i019, hi019, _, hsz19, _⟩ := info_parts info5
                obtain ⟨A19, hcut19, hA19, hC19⟩ := print_drop_of (P := Tryd.prog) (Value.int .u8) 0 22 5 .i64 Tryd.underlying22 hi019 hsz19 A0 c0 l0 x6_1 (of_decide_eq_true (by first | (with_reducible assumption) | assumption)) (of_decide_eq_true (by first | (with_reducible assumption) | assumption)) HC0.out
                have HR106 := Aside0.mk (Kd.C_of_reads (h1 := fun _ => rfl) (hA19 _ (Kd.reads_of_C HR0.out)))
                have HC106 := Aside0.mk hC19
                clear hA19 hC19 hi019 hsz19
                go_wp2_with (first | ((with_reducible refine gate_callee (f := 24) rfl ?_); refine goesL_ (some 23) rfl rfl Tryd.func24 (by kernel_rfl) rfl #[.slice A19 (l0.drop (x6_1 : Int).toNat).length (c0 - x6_1.toNat)] rfl (by (try simp only [List.map_toArray, List.map_cons, List.map_nil]); first | done | (rw [show (l0.drop (x6_1 : Int).toNat).length = (l0.length - x6_1.toNat) from List.length_drop] <;> rfl) | rfl | (simp only [List.length_drop, List.length_take]; rfl)) ?_; (with_reducible refine (frame_first.calls (fun k_ => k_ < w.heap.size) _ _ (l0.drop (x6_1 : Int).toNat) t107 t110 t111 _ ?side1 ?side2 A7.out).mono ?_); (case side1 => exact Kd.V_mk HC106.out (Kd.F_below (Kd.C_F (Kd.heap_int .u8) HR106.out) (by repeat (first | (with_reducible first | exact HB.out | apply below_alloc | apply pw_below_drewN | apply below_drew1) | exact HB.out)))); (case side2 => exact LD.below HLD.out (by first | (with_reducible exact Below.refl _ _) | ((repeat (first | (with_reducible exact Below.refl _ _) | (with_reducible apply below_alloc) | (with_reducible apply pw_below_drewN) | (with_reducible apply below_drew1))); done) | exact (by repeat (first | (with_reducible first | exact HB.out | apply below_alloc | apply pw_below_drewN | apply below_drew1) | exact HB.out)))); rintro e w20 ⟨v108, rfl, ho0, hb⟩; refine ⟨_, rfl, ?_⟩; have n0_ := Aside0.mk (Kd.S_below (by (with_reducible repeat (first | apply Kd.S_alloc | apply Kd.S_drewN | apply Kd.S_drew)); exact HO_5.out) hb); have n1_ := Aside0.mk (Kd.V_lower (Kd.V_mono (ok' := fun k_ => some k_ ≠ (.slice Ao18 x5_1.length co18 : Value).ownBlock) ho0 (fun k_ hk_ => Or.elim hk_ (fun hs_ => fun e_ => Nat.not_le.2 hs_ (Kd.S_base HO_5.out k_ e_.symm)) (fun hn_ => (Kd.fresh' (Kd.S_lt (by (with_reducible repeat (first | apply Kd.S_alloc | apply Kd.S_drewN | apply Kd.S_drew)); exact HO_5.out)) k_ hn_)))) (below_size (by repeat (first | (with_reducible first | exact HB.out | apply below_alloc | apply pw_below_drewN | apply below_drew1) | exact HB.out)))); have n2_ := Aside0.mk (below_step (by repeat (first | (with_reducible first | exact HB.out | apply below_alloc | apply pw_below_drewN | apply below_drew1) | exact HB.out)) hb); clear HO_5; clear HB; have HO_5 := n0_; have HO109 := n1_; have HB := n2_; clear n0_ n1_ n2_; (try clear hb); (try clear hb2); (try clear hk); (try clear hi); (try clear ho0)))
                go_ret3
                exact ⟨_, by first | rfl | (simp [errW_none, errW_some] <;> rfl) | (simp [*, errW_none, errW_some] <;> rfl), by (with_reducible repeat (first | apply Kd.S_alloc | apply Kd.S_drewN | apply Kd.S_drew)); exact HO_5.out, by repeat (first | (with_reducible first | exact HB.out | apply below_alloc | apply pw_below_drewN | apply below_drew1) | exact HB.out)⟩
            · rw [if_neg c6] at H
              exact absurd H (by simp)
          · rw [if_neg c5] at H
            exact absurd H (by simp)
      · rw [if_neg c2] at H
        have c2b0 : decide (x6_1 < (l0.length : Int)) = false := decide_eq_false c2
        clear c2
        simp only [Option.some.injEq, Prod.mk.injEq] at H
        obtain ⟨rfl, rfl, rfl⟩ := H
        go_wp2
        go_ret3
        exact ⟨_, by first | rfl | (simp [errW_none, errW_some] <;> rfl) | (simp [*, errW_none, errW_some] <;> rfl), by (with_reducible repeat (first | apply Kd.S_alloc | apply Kd.S_drewN | apply Kd.S_drew)); exact HO_5.out, by repeat (first | (with_reducible first | exact HB.out | apply below_alloc | apply pw_below_drewN | apply below_drew1) | exact HB.out)⟩

/-! ### commonholdref_poly: function 35 -/
def commonholdref_poly.l0 : Nat → List Int → List Int → Int → Int → Option (List Int)
  | 0, _, _, _, _ => none
  | k + 1, x1, x5, x6, x7 => if x7 < x6 then (if 0 ≤ x7 then (if x7 < (x5.length : Int) then (if 0 ≤ (wrap64 (32 - (rd x5 x7))) then (if (wrap64 (32 - (rd x5 x7))) < (x1.length : Int) then (commonholdref_poly.l0 k (x1.set ((wrap64 (32 - (rd x5 x7))) : Int).toNat 1) x5 x6 (wrap64 (x7 + 1))) else (none)) else (none)) else (none)) else (none)) else (some x1)
def commonholdref_poly.f (k : Nat)  : Option (List Int) := if 33 ≤ 281474976710656 then ((some (([32, 26, 23, 22, 16, 12, 11, 10, 8, 7, 5, 4, 2, 1, 0] : List Int) : List Int)).bind fun y121 => (commonholdref_poly.l0 k (List.replicate 33 0) y121 (y121.length : Int) 0)) else (none)
theorem commonholdref_poly.mono_l : ∀ k, (∀ y0 y1 y2 y3, LeO (commonholdref_poly.l0 k y0 y1 y2 y3) (commonholdref_poly.l0 (k + 1) y0 y1 y2 y3))
  | 0 => fun _ _ _ _ r h => by simp [commonholdref_poly.l0] at h
  | k + 1 => by
    have ih0 := commonholdref_poly.mono_l k
    · intro y0 y1 y2 y3
      unfold commonholdref_poly.l0
      repeat' first
      | (with_reducible exact ih0 _ _ _ _)
      | (with_reducible exact LeO.refl _)
      | (with_reducible exact LeO.none _)
      | (with_reducible refine LeO.ite ?_ ?_)
      | (with_reducible refine LeO.bind ?_ (fun _ => ?_))
      | exact ih0 _ _ _ _
      | exact LeO.none _
      | refine LeO.ite ?_ ?_
      | refine LeO.bind ?_ (fun _ => ?_)
theorem commonholdref_poly.mono : ∀ k, LeO (commonholdref_poly.f k ) (commonholdref_poly.f (k + 1) ) := by
  intro  k
  have ih0 := commonholdref_poly.mono_l k
  unfold commonholdref_poly.f
  repeat' first
      | (with_reducible exact ih0 _ _ _ _)
      | (with_reducible exact LeO.refl _)
      | (with_reducible exact LeO.none _)
      | (with_reducible refine LeO.ite ?_ ?_)
      | (with_reducible refine LeO.bind ?_ (fun _ => ?_))
      | exact ih0 _ _ _ _
      | exact LeO.none _
      | refine LeO.ite ?_ ?_
      | refine LeO.bind ?_ (fun _ => ?_)
set_option maxHeartbeats 8000000 in
set_option maxRecDepth 100000 in
theorem commonholdref_poly.calls (k : Nat)  (r : List Int) (w : World) (h : commonholdref_poly.f k  = some r) :
    Calls Tryd.prog 35 #[] w fun e w' => ∃ v0_ : Value, e = .returned (v0_) ∧ Kd.R (Kd.int .u8) 5 w' w.heap.size (fun _ => True) v0_ r ∧ Below w.heap.size w w' := by
  have HB := Aside0.mk (Below.refl w.heap.size w)
  have H : (if 33 ≤ 281474976710656 then ((some (([32, 26, 23, 22, 16, 12, 11, 10, 8, 7, 5, 4, 2, 1, 0] : List Int) : List Int)).bind fun y121 => (commonholdref_poly.l0 k (List.replicate 33 0) y121 (y121.length : Int) 0)) else (none)) = some r := h
  clear h
  by_cases c1 : 33 ≤ 281474976710656
  · rw [if_pos c1] at H
    have c1b0 := eq_true c1
    have c1b1 : decide (33 ≤ 281474976710656) = true := decide_eq_true c1
    clear c1
    obtain ⟨y118, hy118⟩ : ∃ y_ : List Int, y_ = (List.replicate 33 0) := ⟨_, rfl⟩
    replace H : ((some (([32, 26, 23, 22, 16, 12, 11, 10, 8, 7, 5, 4, 2, 1, 0] : List Int) : List Int)).bind fun y121 => (commonholdref_poly.l0 k y118 y121 (y121.length : Int) 0)) = some r := by first | (rw [hy118]; with_reducible exact H) | (have H2_ := (Option.bind_some _ _).symm.trans H; rw [hy118]; with_reducible exact H2_) | (have H2_ := (Option.bind_some _ _).symm.trans H; with_reducible exact H2_) | with_reducible exact H | (rw [hy118]; exact H) | exact H
    have Ny118 := Aside0.mk hy118
    clear hy118
    obtain ⟨y121, hy121⟩ : ∃ y_ : List Int, y_ = (([32, 26, 23, 22, 16, 12, 11, 10, 8, 7, 5, 4, 2, 1, 0] : List Int)) := ⟨_, rfl⟩
    replace H : (commonholdref_poly.l0 k y118 y121 (y121.length : Int) 0) = some r := by first | (rw [hy121]; with_reducible exact H) | (have H2_ := (Option.bind_some _ _).symm.trans H; rw [hy121]; with_reducible exact H2_) | (have H2_ := (Option.bind_some _ _).symm.trans H; with_reducible exact H2_) | with_reducible exact H | (rw [hy121]; exact H) | exact H
    have Ny121 := Aside0.mk hy121
    clear hy121
    have H' := Aside0.mk H
    clear H
    go_enter Tryd.func35, Tryd.ntmps35
    go_wp2_with (first | ((with_reducible refine gate_dst (N := 4) rfl ?_); refine Kd.R_make (Kd.int .u8) _ 5 rfl (N := 4) rfl 22 _ _ rfl 33 rfl rfl Tryd.underlying22 (.int .u8 0) 1 info5 rfl (by decide) (by omega) 0 (ok := fun _ => True) (okp := fun _ => True) rfl (fun _ hk => hk) trivial (by omega) (by omega) (Below.refl _ _) (Nat.le_refl _) ?_; intro v119 w2 ho3 hb hg_ hnew_; clear hg_ hnew_; (first | rw [← Ny118.out] at ho3 | (simp only [Int.reduceToNat] at ho3; rw [← Ny118.out] at ho3)); have n0_ := Aside0.mk (Kd.R_lower ho3 (below_size (by repeat (first | (with_reducible first | exact HB.out | apply below_alloc | apply pw_below_drewN | apply below_drew1) | exact HB.out)))); have n1_ := Aside0.mk (below_step (by repeat (first | (with_reducible first | exact HB.out | apply below_alloc | apply pw_below_drewN | apply below_drew1) | exact HB.out)) hb); clear HB; have HO120 := n0_; have HB := n1_; clear n0_ n1_; clear hb ho3) | ((with_reducible refine gate_dst (N := 5) rfl ?_); refine Kd.R_lit (Kd.int .i64) _ 3 ?hg (N := 5) ?hd (xs := ([32, 26, 23, 22, 16, 12, 11, 10, 8, 7, 5, 4, 2, 1, 0] : List Int)) (inner := [.int .i64 32, .int .i64 26, .int .i64 23, .int .i64 22, .int .i64 16, .int .i64 12, .int .i64 11, .int .i64 10, .int .i64 8, .int .i64 7, .int .i64 5, .int .i64 4, .int .i64 2, .int .i64 1, .int .i64 0]) (ok := fun _ => True) (okp := fun _ => True) ?hr ?hp (fun _ hk => hk) trivial (Below.refl _ _) (Nat.le_refl _) (by simp) ?_; (case hd => rfl); (case hg => rfl); (case hr => first | (go_simp; done) | (go_simp; rfl)); (case hp => exact (Reps.one (show Kd.M (Kd.int .i64) _ _ _ 32 [.int .i64 32] from rfl) (Reps.one (show Kd.M (Kd.int .i64) _ _ _ 26 [.int .i64 26] from rfl) (Reps.one (show Kd.M (Kd.int .i64) _ _ _ 23 [.int .i64 23] from rfl) (Reps.one (show Kd.M (Kd.int .i64) _ _ _ 22 [.int .i64 22] from rfl) (Reps.one (show Kd.M (Kd.int .i64) _ _ _ 16 [.int .i64 16] from rfl) (Reps.one (show Kd.M (Kd.int .i64) _ _ _ 12 [.int .i64 12] from rfl) (Reps.one (show Kd.M (Kd.int .i64) _ _ _ 11 [.int .i64 11] from rfl) (Reps.one (show Kd.M (Kd.int .i64) _ _ _ 10 [.int .i64 10] from rfl) (Reps.one (show Kd.M (Kd.int .i64) _ _ _ 8 [.int .i64 8] from rfl) (Reps.one (show Kd.M (Kd.int .i64) _ _ _ 7 [.int .i64 7] from rfl) (Reps.one (show Kd.M (Kd.int .i64) _ _ _ 5 [.int .i64 5] from rfl) (Reps.one (show Kd.M (Kd.int .i64) _ _ _ 4 [.int .i64 4] from rfl) (Reps.one (show Kd.M (Kd.int .i64) _ _ _ 2 [.int .i64 2] from rfl) (Reps.one (show Kd.M (Kd.int .i64) _ _ _ 1 [.int .i64 1] from rfl) (Reps.one (show Kd.M (Kd.int .i64) _ _ _ 0 [.int .i64 0] from rfl) (Reps.none _ _))))))))))))))))); intro v122 w4 ho5 hb hg_ hnew_; clear hg_ hnew_; (first | rw [← Ny121.out] at ho5 | (simp only [Int.reduceToNat] at ho5; rw [← Ny121.out] at ho5)); have n0_ := Aside0.mk (Kd.R_below (by (with_reducible repeat (first | apply Kd.R_alloc | apply Kd.R_drewN | apply Kd.R_drew)); exact HO120.out) hb); have n1_ := Aside0.mk (Kd.R_lower ho5 (below_size (by repeat (first | (with_reducible first | exact HB.out | apply below_alloc | apply pw_below_drewN | apply below_drew1) | exact HB.out)))); have n2_ := Aside0.mk (below_step (by repeat (first | (with_reducible first | exact HB.out | apply below_alloc | apply pw_below_drewN | apply below_drew1) | exact HB.out)) hb); clear HO120; clear HB; have HO120 := n0_; have HO123 := n1_; have HB := n2_; clear n0_ n1_ n2_; clear hb ho5; obtain ⟨Ao6, co6, eo6⟩ := Kd.R_slice HO123.out; subst eo6))
    go_loopg [7] k (fun kq v7 w' => ∃ (x1_1 : List Int) (x7_1 : Int), v7 = .int .i64 x7_1 ∧ Aside0 (commonholdref_poly.l0 kq x1_1 y121 (y121.length : Int) x7_1 = some r) ∧ Aside0 (kq ≤ k) ∧ Aside0 (Kd.R (Kd.int .u8) 5 w' w.heap.size (fun _ => True) v119 x1_1) ∧ Aside0 (Kd.R (Kd.int .i64) 3 w' w.heap.size (fun _ => True) (.slice Ao6 y121.length co6) y121) ∧ Aside0 (Below w.heap.size w w'))
    case atStart => exact ⟨(y118), (0), (by first | rfl | (simp; done) | (simp [*]; done)), H', ⟨Nat.le_refl _⟩, ⟨by (with_reducible repeat (first | apply Kd.R_alloc | apply Kd.R_drewN | apply Kd.R_drew)); exact HO120.out⟩, ⟨by (with_reducible repeat (first | apply Kd.R_alloc | apply Kd.R_drewN | apply Kd.R_drew)); exact HO123.out⟩, ⟨by repeat (first | (with_reducible first | exact HB.out | apply below_alloc | apply pw_below_drewN | apply below_drew1) | exact HB.out)⟩⟩
    case round =>
      clear H'
      try clear c1
      try clear c1b0
      try clear c1b1
      try clear p2
      try clear c3
      obtain ⟨x1_1, x7_1, rfl, HA, HK1, HO_1, HO_5, HB⟩ := hrel
      cases gk with
      | zero => exact absurd HA.out (by simp [commonholdref_poly.l0])
      | succ k1 =>
        have H := HA.out
        clear HA
        simp only [commonholdref_poly.l0] at H
        by_cases c7 : x7_1 < (y121.length : Int)
        · rw [if_pos c7] at H
          have c7b0 : decide (x7_1 < (y121.length : Int)) = true := decide_eq_true c7
          clear c7
          by_cases c8 : 0 ≤ x7_1
          · rw [if_pos c8] at H
            have c8b0 : decide (0 ≤ x7_1) = true := decide_eq_true c8
            clear c8
            by_cases c9 : x7_1 < (y121.length : Int)
            · rw [if_pos c9] at H
              have c9b0 : decide (x7_1 < (y121.length : Int)) = true := decide_eq_true c9
              clear c9
              obtain ⟨ji10, hji10⟩ : ∃ j_ : Int, (wrap64 (32 - (rd y121 x7_1))) = j_ := ⟨_, rfl⟩
              replace H : (if 0 ≤ (ji10) then (if (ji10) < (x1_1.length : Int) then (commonholdref_poly.l0 k1 (x1_1.set ((ji10) : Int).toNat 1) y121 (y121.length : Int) (wrap64 (x7_1 + 1))) else (none)) else (none)) = some r := by first | (rw [hji10] at H; exact H) | (simp only [hji10] at H ⊢; exact H)
              have hji10w : (IntKind.i64.wrap (32 - (rd y121 x7_1))) = ji10 := (i64_w _).trans hji10
              by_cases c11 : 0 ≤ (ji10)
              · rw [if_pos c11] at H
                have c11b0 : decide (0 ≤ (ji10)) = true := decide_eq_true c11
                clear c11
                by_cases c12 : (ji10) < (x1_1.length : Int)
                · rw [if_pos c12] at H
                  have c12b0 : decide ((ji10) < (x1_1.length : Int)) = true := decide_eq_true c12
                  clear c12
                  obtain ⟨y125, hy125⟩ : ∃ y_ : List Int, y_ = (x1_1.set ((ji10) : Int).toNat 1) := ⟨_, rfl⟩
                  replace H : (commonholdref_poly.l0 k1 y125 y121 (y121.length : Int) (wrap64 (x7_1 + 1))) = some r := by first | (rw [hy125]; with_reducible exact H) | (have H2_ := (Option.bind_some _ _).symm.trans H; rw [hy125]; with_reducible exact H2_) | (have H2_ := (Option.bind_some _ _).symm.trans H; with_reducible exact H2_) | with_reducible exact H | (rw [hy125]; exact H) | exact H
                  have Ny125 := Aside0.mk hy125
                  clear hy125
                  have H' := Aside0.mk H
                  clear H
                  have p124 : 0 ≤ (x7_1 : Int) := of_decide_eq_true (by first | (with_reducible assumption) | assumption)
                  have q124 : x7_1 < (y121.length : Int) := of_decide_eq_true (by first | (with_reducible assumption) | assumption)
                  obtain ⟨ad124, e124, hx124_0⟩ := Kd.at_int (Kd.R_reads' HO_5.out).2.2 x7_1 p124 q124
                  cases e124
                  replace p124 := eq_true p124
                  replace q124 := eq_true q124
                  have p13 : 0 ≤ ((ji10) : Int) := of_decide_eq_true (by first | (with_reducible assumption) | assumption)
                  have q13 : ((ji10) : Int) < ((x1_1.length : Int) : Int) := of_decide_eq_true (by first | (with_reducible assumption) | assumption)
                  obtain ⟨go13, co13, eo13, gb13, gl13, cl13, HG13⟩ := Kd.R_form HO_1.out (by omega)
                  (first | cases eo13 | (injection eo13 with ea_ en_ ec_; (first | subst ea_ | (injection ea_ with ea_; subst ea_)); subst ec_; clear en_))
                  have GB13 := Aside0.mk gb13
                  have GG13 := Aside0.mk HG13
                  clear gb13 gl13 HG13
                  obtain ⟨hx13_0, hf13_0⟩ := Kd.R_celln 0 HO_1.out ((ji10) : Int) p13 q13
                  replace p13 := eq_true p13
                  replace q13 := eq_true q13
                  have HP14 := Kd.R_putg HO_1.out ((ji10) : Int) 1
                  go_wp2_with (first | ((with_reducible refine gate_store (t := 5) (p := 14) rfl ?_); refine store_event (t := 5) (p := 14) (v := ?vo_w15) (w1 := (wr.setCell ⟨go13, ((ji10) : Int).toNat, none⟩ (.int .u8 1))) ?hg ?ho ?hn ?hr ?_; (case ho => rfl); (case hg => rfl); (case hn => rfl); (case hr => first | (go_simp; done) | (go_simp; rfl)); intro w15 hw; have hg : wr.grownBy w15 (some go13) := (by rw [hw]; exact HP14.2); have hp_ : Kd.R (Kd.int .u8) 5 w15 w.heap.size (fun _ => True) (.slice (some ⟨go13, 0, none⟩) x1_1.length co13) y125 := (by rw [hw, Ny125.out]; exact HP14.1); clear HP14; have n0_ := Aside0.mk (hp_); have n1_ := Aside0.mk (Kd.R_over' (v := (.slice (some ⟨go13, 0, none⟩) x1_1.length co13)) (by (with_reducible repeat (first | apply Kd.R_alloc | apply Kd.R_drewN | apply Kd.R_drew)); exact HO_5.out) (Kd.R_typed HO_1.out) (by decide) hg); have n2_ := Aside0.mk ((by rw [hw]; exact below_set (HB.out) GB13.out : Below w.heap.size w w15)); clear HO_1; clear HO_5; clear HB; have HO_1 := n0_; have HO_5 := n1_; have HB := n2_; clear n0_ n1_ n2_; clear hg hw hp_))
                  go_roundg k1
                  case measure => have := HK1.out; omega
                  case rel => exact ⟨(y125), (wrap64 (x7_1 + 1)), (by first | rfl | (simp; done) | (simp [*]; done)), H', ⟨by have := HK1.out; omega⟩, ⟨by (with_reducible repeat (first | apply Kd.R_alloc | apply Kd.R_drewN | apply Kd.R_drew)); exact HO_1.out⟩, ⟨by (with_reducible repeat (first | apply Kd.R_alloc | apply Kd.R_drewN | apply Kd.R_drew)); exact HO_5.out⟩, ⟨by repeat (first | (with_reducible first | exact HB.out | apply below_alloc | apply pw_below_drewN | apply below_drew1) | exact HB.out)⟩⟩
                · rw [if_neg c12] at H
                  exact absurd H (by simp)
              · rw [if_neg c11] at H
                exact absurd H (by simp)
            · rw [if_neg c9] at H
              exact absurd H (by simp)
          · rw [if_neg c8] at H
            exact absurd H (by simp)
        · rw [if_neg c7] at H
          have c7b0 : decide (x7_1 < (y121.length : Int)) = false := decide_eq_false c7
          clear c7
          obtain rfl := Option.some.inj H
          go_wp2
          go_ret
          exact ⟨_, by first | rfl | (simp [errW_none, errW_some] <;> rfl) | (simp [*, errW_none, errW_some] <;> rfl), by (with_reducible repeat (first | apply Kd.R_alloc | apply Kd.R_drewN | apply Kd.R_drew)); exact HO_1.out, by repeat (first | (with_reducible first | exact HB.out | apply below_alloc | apply pw_below_drewN | apply below_drew1) | exact HB.out)⟩
  · rw [if_neg c1] at H
    exact absurd H (by simp)

end Go.Proofs.YtaadljjfckhinabDoor.PFrameCuts
