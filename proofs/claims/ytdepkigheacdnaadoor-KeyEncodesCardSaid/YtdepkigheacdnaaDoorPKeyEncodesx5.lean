-- Written by wip/pp of this repo (over the kit's print, with additions of this session); Lean checks every line.
import Derived.Test.YtdepkigheacdnaaDoorPKeyEncodesx0
import Derived.Test.YtdepkigheacdnaaDoorPKeyEncodesx2
import Derived.Test.YtdepkigheacdnaaDoorPKeyEncodesx4
namespace Go.Proofs.YtdepkigheacdnaaDoor.PKeyEncodes
open Go.RowKit Go.Proofs.YtdepkigheacdnaaDoorW.PrintWords Go.Proofs.YtdepkigheacdnaaDoorW.PrintLast Go.Proofs.YtdepkigheacdnaaDoorW.PrintMore
attribute [local go_sem] max2_int min2_int max_two min_two max_three min_three max_four min_four   -- for this text's walks alone
set_option linter.unusedVariables false
set_option linter.unusedSimpArgs false

/-! ### commonholdref_Keyed: function 24, by hand -/
-- HAND rounds=1 making=1 after=49 imports=Derived.Laws.Cover3,Derived.Deep.RegionLaw
-- INFO 5
def commonholdref_Keyed.faults (k : Nat) : List S23 → Option Int
  | [] => some 0
  | x :: r => (commonholdref_ValueFault.f k x.f0 x.f1 x.f2).bind fun e => if e = 0 then commonholdref_Keyed.faults k r else some e
def commonholdref_Keyed.encs (l : List S23) : List Int := l.flatMap fun x => key_grow.enc x.f0 x.f1 x.f2
def commonholdref_Keyed.f (k : Nat) (l : List S23) : Option (List Int × Int) := if (l.length : Int) > 14 then some ([], 1) else (commonholdref_Keyed.faults k l).bind fun e => if e = 0 then (if (commonholdref_Keyed.encs l).length < 140737488355328 then some (commonholdref_Keyed.encs l, 0) else none) else some ([], e)
theorem commonholdref_Keyed.mono_faults : ∀ (l : List S23) (k : Nat), LeO (commonholdref_Keyed.faults k l) (commonholdref_Keyed.faults (k + 1) l)
  | [], _ => LeO.refl _
  | x :: r, k => by
    intro q h
    unfold commonholdref_Keyed.faults at h ⊢
    obtain ⟨e, he, h⟩ := Option.bind_eq_some_iff.1 h
    rw [commonholdref_ValueFault.mono _ _ _ _ _ he, Option.bind_some]
    split at h
    · rename_i h0
      rw [if_pos h0]
      exact commonholdref_Keyed.mono_faults r k _ h
    · rename_i h0
      rw [if_neg h0]
      exact h
theorem commonholdref_Keyed.mono : ∀ a0 k, LeO (commonholdref_Keyed.f k a0) (commonholdref_Keyed.f (k + 1) a0) := by
  intro l k
  unfold commonholdref_Keyed.f
  split
  · exact LeO.refl _
  · intro q h
    obtain ⟨e, he, h⟩ := Option.bind_eq_some_iff.1 h
    rw [commonholdref_Keyed.mono_faults _ _ _ he, Option.bind_some]
    exact h
theorem commonholdref_Keyed.encs_take (l : List S23) (j : Nat) (h : j < l.length) : commonholdref_Keyed.encs (l.take (j + 1)) = commonholdref_Keyed.encs (l.take j) ++ key_grow.enc l[j].f0 l[j].f1 l[j].f2 := by
  rw [List.take_succ_eq_append_getElem h, commonholdref_Keyed.encs, List.flatMap_append]
  simp [commonholdref_Keyed.encs]
theorem commonholdref_Keyed.encs_le (l : List S23) (j : Nat) : (commonholdref_Keyed.encs (l.take j)).length ≤ (commonholdref_Keyed.encs l).length := by
  have h : (commonholdref_Keyed.encs (l.take j) ++ commonholdref_Keyed.encs (l.drop j)).length = (commonholdref_Keyed.encs l).length := by
    unfold commonholdref_Keyed.encs
    rw [← List.flatMap_append, List.take_append_drop]
  rw [List.length_append] at h
  omega
/-- What the division leaves behind j rounds. -/
def commonholdref_Keyed.dv (n : Int) : Nat → Int
  | 0 => n
  | j + 1 => commonholdref_Keyed.dv n j / 256
theorem commonholdref_Keyed.dv_at (n : Int) : ∀ j, commonholdref_Keyed.dv n j = n / 256 ^ j
  | 0 => by simp [commonholdref_Keyed.dv]
  | j + 1 => by
    rw [commonholdref_Keyed.dv, commonholdref_Keyed.dv_at n j, Int.ediv_ediv_of_nonneg (Int.pow_nonneg (by omega)), Int.pow_succ]
theorem commonholdref_Keyed.dv_pos {n : Int} (h : 0 ≤ n) (j : Nat) : 0 ≤ commonholdref_Keyed.dv n j := by
  rw [commonholdref_Keyed.dv_at]
  exact Int.ediv_nonneg h (Int.pow_nonneg (by omega))
theorem commonholdref_Keyed.dv_step {n : Int} (h : 0 ≤ n) (h1 : n < 18446744073709551616) (j : Nat) : IntKind.u64.wrap ((commonholdref_Keyed.dv n j).tdiv 256) = commonholdref_Keyed.dv n (j + 1) := by
  have hp := commonholdref_Keyed.dv_pos h j
  have hl : commonholdref_Keyed.dv n j ≤ n := by
    rw [commonholdref_Keyed.dv_at]
    exact Int.ediv_le_self _ h
  rw [Int.tdiv_eq_ediv_of_nonneg hp, IntKind.wrap_u64, commonholdref_Keyed.dv]
  omega
/-- A block's cells, read as a row. -/
theorem commonholdref_Keyed.lits {w : World} {b t : Nat} {fr : Nat × Nat} {cs : List Int} (h : w.heap[b]? = some (.cells (cs.map (Value.int .u8)).toArray t fr)) (hl : cs.length ≤ 9223372036854775807 := by simp) :
    ReadsRow ((Kd.int .u8).K w) (Kd.int .u8).sz w (some ⟨b, 0, none⟩) cs.length cs := by
  refine ⟨rfl, hl, fun _ => ⟨_, rfl, fun j q hq => ⟨[.int .u8 q], rfl, rfl, fun i u hu => ?_⟩⟩⟩
  obtain rfl : i = 0 := by
    rcases i with _ | i
    · rfl
    · simp at hu
  obtain rfl : Value.int .u8 q = u := by simpa using hu
  rw [show (⟨b, 0, none⟩ : Addr).add (j * (Kd.int .u8).sz + 0) = ⟨b, j, none⟩ from by rw [add_plain]; show (⟨_, j * 1 + 0, none⟩ : Addr) = _; simp]
  simp [World.cell?, h, hq]
def commonholdref_Keyed.digs (n : Int) : Nat → Array Value
  | 0 => #[.int .u8 0, .int .u8 0, .int .u8 0, .int .u8 0, .int .u8 0, .int .u8 0, .int .u8 0, .int .u8 0]
  | 1 => #[.int .u8 0, .int .u8 0, .int .u8 0, .int .u8 0, .int .u8 0, .int .u8 0, .int .u8 0, .int .u8 (commonholdref_Keyed.dv n 0 % 256)]
  | 2 => #[.int .u8 0, .int .u8 0, .int .u8 0, .int .u8 0, .int .u8 0, .int .u8 0, .int .u8 (commonholdref_Keyed.dv n 1 % 256), .int .u8 (commonholdref_Keyed.dv n 0 % 256)]
  | 3 => #[.int .u8 0, .int .u8 0, .int .u8 0, .int .u8 0, .int .u8 0, .int .u8 (commonholdref_Keyed.dv n 2 % 256), .int .u8 (commonholdref_Keyed.dv n 1 % 256), .int .u8 (commonholdref_Keyed.dv n 0 % 256)]
  | 4 => #[.int .u8 0, .int .u8 0, .int .u8 0, .int .u8 0, .int .u8 (commonholdref_Keyed.dv n 3 % 256), .int .u8 (commonholdref_Keyed.dv n 2 % 256), .int .u8 (commonholdref_Keyed.dv n 1 % 256), .int .u8 (commonholdref_Keyed.dv n 0 % 256)]
  | 5 => #[.int .u8 0, .int .u8 0, .int .u8 0, .int .u8 (commonholdref_Keyed.dv n 4 % 256), .int .u8 (commonholdref_Keyed.dv n 3 % 256), .int .u8 (commonholdref_Keyed.dv n 2 % 256), .int .u8 (commonholdref_Keyed.dv n 1 % 256), .int .u8 (commonholdref_Keyed.dv n 0 % 256)]
  | 6 => #[.int .u8 0, .int .u8 0, .int .u8 (commonholdref_Keyed.dv n 5 % 256), .int .u8 (commonholdref_Keyed.dv n 4 % 256), .int .u8 (commonholdref_Keyed.dv n 3 % 256), .int .u8 (commonholdref_Keyed.dv n 2 % 256), .int .u8 (commonholdref_Keyed.dv n 1 % 256), .int .u8 (commonholdref_Keyed.dv n 0 % 256)]
  | 7 => #[.int .u8 0, .int .u8 (commonholdref_Keyed.dv n 6 % 256), .int .u8 (commonholdref_Keyed.dv n 5 % 256), .int .u8 (commonholdref_Keyed.dv n 4 % 256), .int .u8 (commonholdref_Keyed.dv n 3 % 256), .int .u8 (commonholdref_Keyed.dv n 2 % 256), .int .u8 (commonholdref_Keyed.dv n 1 % 256), .int .u8 (commonholdref_Keyed.dv n 0 % 256)]
  | _ => #[.int .u8 (commonholdref_Keyed.dv n 7 % 256), .int .u8 (commonholdref_Keyed.dv n 6 % 256), .int .u8 (commonholdref_Keyed.dv n 5 % 256), .int .u8 (commonholdref_Keyed.dv n 4 % 256), .int .u8 (commonholdref_Keyed.dv n 3 % 256), .int .u8 (commonholdref_Keyed.dv n 2 % 256), .int .u8 (commonholdref_Keyed.dv n 1 % 256), .int .u8 (commonholdref_Keyed.dv n 0 % 256)]
theorem commonholdref_Keyed.bytes8 (n : Int) : key_grow.bytes n 8 = [commonholdref_Keyed.dv n 7 % 256, commonholdref_Keyed.dv n 6 % 256, commonholdref_Keyed.dv n 5 % 256, commonholdref_Keyed.dv n 4 % 256, commonholdref_Keyed.dv n 3 % 256, commonholdref_Keyed.dv n 2 % 256, commonholdref_Keyed.dv n 1 % 256, commonholdref_Keyed.dv n 0 % 256] := by
  simp only [key_grow.bytes, commonholdref_Keyed.dv_at]
  simp [List.range_succ, key_grow.byte]
theorem commonholdref_Keyed.at_alloc (w : World) (o1 o2 : Obj) : ((w.alloc o1).alloc o2).heap[w.heap.size + 1]? = some o2 := by
  have h : ((w.heap.push o1).push o2)[w.heap.size + 1]? = some o2 := by
    rw [show w.heap.size + 1 = (w.heap.push o1).size by simp, Array.getElem?_push_size]
  exact h
theorem commonholdref_Keyed.at_old (w : World) (o : Obj) (j : Nat) (hj : j < w.heap.size) : (w.alloc o).heap[j]? = w.heap[j]? := by
  have h : (w.heap.push o)[j]? = w.heap[j]? := by
    rw [Array.getElem?_push, if_neg (by omega)]
  exact h
theorem commonholdref_Keyed.at_alloc1 (w : World) (o1 : Obj) : (w.alloc o1).heap[w.heap.size]? = some o1 := by
  have h : (w.heap.push o1)[w.heap.size]? = some o1 := by simp
  exact h
theorem commonholdref_Keyed.xor63 (m : Nat) (h : m < 9223372036854775808) : 9223372036854775808 + m = 9223372036854775808 ^^^ m := by
  have e := Nat.two_pow_add_eq_or_of_lt (i := 63) (b := m) (by simpa using h)
  have e1 := e 1
  rw [show (2 : Nat) ^ 63 = 9223372036854775808 from rfl, Nat.mul_one] at e1
  rw [e1]
  apply Nat.eq_of_testBit_eq
  intro i
  rw [Nat.testBit_or, Nat.testBit_xor, show (9223372036854775808 : Nat) = 2 ^ 63 from rfl, Nat.testBit_two_pow]
  by_cases hi : 63 = i
  · subst hi
    rw [Nat.testBit_lt_two_pow (by simpa using h)]
    simp
  · simp [hi]
theorem commonholdref_Keyed.xor_add (m : Int) (h0 : 0 ≤ m) (h1 : m < 18446744073709551616) : Go.bits .xor .u64 m 9223372036854775808 = IntKind.u64.wrap (m + 9223372036854775808) := by
  rw [IntKind.wrap_u64 (m + 9223372036854775808)]
  obtain ⟨n, rfl⟩ := Int.eq_ofNat_of_zero_le h0
  show IntKind.u64.wrap ((BitVec.ofInt 64 ((n : Nat) : Int) ^^^ BitVec.ofInt 64 ((9223372036854775808 : Nat) : Int)).toNat : Int) = _
  rw [BitVec.ofInt_natCast, BitVec.ofInt_natCast, BitVec.toNat_xor, BitVec.toNat_ofNat, BitVec.toNat_ofNat, Nat.mod_eq_of_lt (by omega), Nat.mod_eq_of_lt (by omega)]
  by_cases hn : n < 9223372036854775808
  · rw [Nat.xor_comm, ← commonholdref_Keyed.xor63 n hn, IntKind.wrap_u64]
    omega
  · obtain ⟨m, rfl⟩ : ∃ m, n = 9223372036854775808 + m := ⟨n - 9223372036854775808, by omega⟩
    rw [commonholdref_Keyed.xor63 m (by omega), Nat.xor_comm, ← Nat.xor_assoc, Nat.xor_self, Nat.zero_xor, ← commonholdref_Keyed.xor63 m (by omega), IntKind.wrap_u64]
    omega
theorem commonholdref_Keyed.at_ {w : World} {A : Option Addr} {l : List S23} (h : Kd.C k23 w A l.length l) (h0 : 0 < l.length) : ∃ b o, A = some ⟨b, o, none⟩ ∧ ∀ (i : Nat) (hi : i < l.length),
    w.cell? ⟨b, o + i * 3, none⟩ = some (.int .i64 l[i].f0) ∧ w.cell? ⟨b, o + i * 3 + 1, none⟩ = some (.int .i64 l[i].f1) ∧ w.cell? ⟨b, o + i * 3 + 2, none⟩ = some (.string l[i].f2) := by
  obtain ⟨ad, rfl, g0, _⟩ := at_T23 h 0 (by omega) (by omega)
  have hs : ad.spot = none := by
    cases hsp : ad.spot with
    | none => rfl
    | some s =>
      exfalso
      rw [show ad.add ((0 : Int).toNat * 3) = ad from by simp [Addr.add]] at g0
      unfold World.cell? at g0
      split at g0
      · rw [hsp] at g0
        simp at g0
      · cases g0
  obtain ⟨b, o, sp⟩ := ad
  dsimp only at hs
  subst hs
  refine ⟨b, o, rfl, fun i hi => ?_⟩
  obtain ⟨ad, e, g0, g1, g2⟩ := at_T23 h (i : Int) (by omega) (by omega)
  cases e
  have ee : rd_T23 l (i : Int) = l[i] := by simp [rd_T23, List.getD_eq_getElem?_getD, hi]
  have ha : (⟨b, o, none⟩ : Addr).add ((i : Int).toNat * 3) = ⟨b, o + i * 3, none⟩ := by rw [Int.toNat_natCast]; unfold Addr.add; split <;> simp_all
  rw [ee] at g0 g1 g2
  rw [ha] at g0 g1 g2
  exact ⟨g0, g1, g2⟩
set_option maxRecDepth 100000 in
set_option maxHeartbeats 8000000 in
theorem commonholdref_Keyed.calls (k : Nat) (A0 : Option Addr) (c0 : Nat) (l0 : List S23) (r1 : List Int) (r2 : Int) (w : World) (hr0 : Kd.C k23 w A0 l0.length l0) (hc0 : l0.length ≤ c0) (h : commonholdref_Keyed.f k l0 = some (r1, r2)) :
    Calls Tryd.prog 24 #[.slice A0 l0.length c0] w fun e w' => ∃ v0_ : Value, e = .returned (.tuple #[v0_, .int .i64 r2]) ∧ Kd.R (Kd.int .u8) 5 w' w.heap.size (fun _ => True) v0_ r1 ∧ Below w.heap.size w w' := by
  have hm := hr0.2.1
  have HR := Aside0.mk hr0
  clear hr0
  unfold commonholdref_Keyed.f at h
  by_cases hbig : (l0.length : Int) > 14
  · rw [if_pos hbig] at h
    obtain ⟨rfl, rfl⟩ : r1 = [] ∧ r2 = 1 := by simpa [eq_comm] using h
    clear h
    go_enter Tryd.func24, Tryd.ntmps24
    go_wp2
    go_ret2
    exact ⟨_, rfl, Kd.R_nil _ _ _ _ _, Below.refl _ _⟩
  rw [if_neg hbig] at h
  obtain ⟨e0, hf, h⟩ := Option.bind_eq_some_iff.1 h
  have HF := Aside0.mk hf
  have HG := Aside0.mk h
  clear hf h
  go_enter Tryd.func24, Tryd.ntmps24
  go_wp2
  go_loopw [5, 6, 19] (fun _ _ i wr => ∃ j : Nat, j ≤ l0.length ∧ i = .int .i64 j ∧ Aside0 (commonholdref_Keyed.faults k (l0.drop j) = some e0) ∧ Aside0 (Below w.heap.size w wr)) (fun _ _ i _ => l0.length - (intOf i).toNat)
  case atStart => exact ⟨0, by omega, rfl, HF, ⟨Below.refl _ _⟩⟩
  case round =>
    clear HF
    obtain ⟨j, hj, rfl, HS, HB⟩ := hrel
    by_cases hlt : j < l0.length
    · obtain ⟨b, o, rfl, hcs⟩ := commonholdref_Keyed.at_ HR.out (by omega)
      obtain ⟨p0, p1, p2⟩ := hcs j hlt
      have hg := HS.out
      rw [List.drop_eq_getElem_cons hlt, commonholdref_Keyed.faults] at hg
      obtain ⟨c, hck, hg2⟩ := Option.bind_eq_some_iff.1 hg
      clear hg HS hcs
      generalize l0[j] = x at *
      replace p0 := pw_cell_below HB.out p0
      replace p1 := pw_cell_below HB.out p1
      replace p2 := pw_cell_below HB.out p2
      have HCK := Aside0.mk hck
      clear hck
      by_cases hc : c = 0
      · subst hc
        rw [if_pos rfl] at hg2
        have HS := Aside0.mk hg2
        clear hg2
        go_wp2_with (go_at_call 16; refine (commonholdref_ValueFault.calls k x.f0 x.f1 x.f2 0 _ HCK.out).mono ?_; rintro e w1 ⟨rfl, hb⟩; have HB1 := Aside0.mk ((below_alloc HB.out _).trans (hb.mono (below_alloc HB.out _).size)); clear hb)
        go_roundw
        case rel => exact ⟨j + 1, by omega, by go_num, HS, HB1⟩
        case measure => simp [intOf]; omega
      · rw [if_neg hc] at hg2
        obtain rfl := Option.some.inj hg2
        have hh := HG.out
        rw [if_neg hc] at hh
        obtain ⟨rfl, rfl⟩ : r1 = [] ∧ r2 = c := by simpa [eq_comm] using hh
        have hq : (r2 != 0) = true := by simpa using hc
        clear hg2 hh
        go_wp2_with (go_at_call 16; refine (commonholdref_ValueFault.calls k x.f0 x.f1 x.f2 r2 _ HCK.out).mono ?_; rintro e w1 ⟨rfl, hb⟩; have HB1 := Aside0.mk ((below_alloc HB.out _).trans (hb.mono (below_alloc HB.out _).size)); clear hb)
        go_ret2
        exact ⟨_, rfl, Kd.R_nil _ _ _ _ _, HB1.out⟩
    · obtain rfl : j = l0.length := by omega
      have hg := HS.out
      rw [List.drop_length, commonholdref_Keyed.faults] at hg
      obtain rfl := Option.some.inj hg
      clear hg HS
      have hh := HG.out
      rw [if_pos rfl] at hh
      split at hh
      case isFalse => cases hh
      rename_i hlm
      obtain ⟨rfl, rfl⟩ : r1 = commonholdref_Keyed.encs l0 ∧ r2 = 0 := by simpa [eq_comm] using hh
      have LM := Aside0.mk hlm
      clear hh hlm HG
      go_wp2
      go_loopw [7, 9, 10, 11, 12, 13, 32] (fun o _ _ _ _ _ i wr => ∃ j : Nat, j ≤ l0.length ∧ i = .int .i64 j ∧ Aside0 (Kd.R (Kd.int .u8) 5 wr w.heap.size (fun _ => True) o (commonholdref_Keyed.encs (l0.take j))) ∧ Aside0 (Below w.heap.size w wr)) (fun _ _ _ _ _ _ i _ => l0.length - (intOf i).toNat)
      case atStart => exact ⟨0, by omega, rfl, ⟨⟨fun _ _ => trivial, [], World.ownsRow_made wr #[] 0 (below_size HB.out) (Nat.zero_le _) (by simp), Reps.none _ _⟩⟩, ⟨below_alloc HB.out _⟩⟩
      case round =>
        clear HB
        obtain ⟨j, hj, rfl, HO, HB⟩ := hrel
        by_cases hlt : j < l0.length
        · obtain ⟨b, o, rfl, hcs⟩ := commonholdref_Keyed.at_ HR.out (by omega)
          obtain ⟨p0, p1, p2⟩ := hcs j hlt
          clear hcs
          have hes := commonholdref_Keyed.encs_take l0 j hlt
          have hle := commonholdref_Keyed.encs_le l0 (j + 1)
          rw [hes, List.length_append] at hle
          have LX := Aside0.mk (show (commonholdref_Keyed.encs (l0.take j)).length + (key_grow.enc l0[j].f0 l0[j].f1 l0[j].f2).length < 140737488355328 by have h_ := LM.out; omega)
          have HES := Aside0.mk hes
          clear hes hle
          generalize l0[j] = x at *
          generalize commonholdref_Keyed.encs (l0.take j) = ys at *
          replace p0 := pw_cell_below HB.out p0
          replace p1 := pw_cell_below HB.out p1
          replace p2 := pw_cell_below HB.out p2
          by_cases h0 : x.f0 = 0
          · have he : key_grow.enc x.f0 x.f1 x.f2 = [1] := by rw [h0]; rfl
            rw [he] at LX HES
            rw [h0] at p0
            have LY := Aside0.mk (show ys.length + 1 < 140737488355328 from LX.out)
            clear LX he
            go_wp2_with (at_builtin; refine Kd.R_append (Kd.int .u8) (w0 := w) w.heap.size rfl _ _ 34 5 (.int .u8 0) 1 rfl Tryd.underlying34 info5 rfl (by decide) (by omega) u7 (ys) ?np1 _ (fun _ => True) (fun _ => False) rfl ?hx ?aP (fun _ hk => hk.elim) ?aF ?aO ?aB ?aS ?aL ?_; (case aP => exact rfl); (case hx => first | exact rfl | (simp [go_sem]; done)); (case aO => (with_reducible repeat (first | apply Kd.R_alloc | apply Kd.R_drewN | apply Kd.R_drew)); exact HO.out); (case aB => exact (by repeat (first | (with_reducible first | exact HB.out | apply below_alloc | apply pw_below_drewN | apply below_drew1) | exact HB.out))); (case aF => exact (fun _ _ => trivial)); (case aS => exact (below_size (by repeat (first | (with_reducible first | exact HB.out | apply below_alloc | apply pw_below_drewN | apply below_drew1) | exact HB.out)))); (case aL => have := LY.out; omega); intro v1 w1 ho hb hg hat; have n0_ := Aside0.mk hb; have n1_ := Aside0.mk ho; clear HB; clear HO; have HB := n0_; have HO := n1_; clear n0_ n1_; clear ho hb hg hat)
            go_roundw
            case rel => exact ⟨j + 1, by omega, by go_num, ⟨by rw [HES.out]; exact HO.out⟩, HB⟩
            case measure => simp [intOf]; omega
          by_cases h1 : x.f0 = 1
          · have he : key_grow.enc x.f0 x.f1 x.f2 = [(2 + x.f1) % 256] := by rw [h1]; rfl
            rw [he] at LX HES
            rw [h1] at p0
            have LY := Aside0.mk (show ys.length + 1 < 140737488355328 from LX.out)
            clear LX he
            go_wp2_with (at_builtin; refine Kd.R_append (Kd.int .u8) (w0 := w) w.heap.size rfl _ _ 34 5 (.int .u8 0) 1 rfl Tryd.underlying34 info5 rfl (by decide) (by omega) u7 (ys) ?np2 _ (fun _ => True) (fun _ => False) rfl ?hx ?aP (fun _ hk => hk.elim) ?aF ?aO ?aB ?aS ?aL ?_; (case aP => exact rfl); (case hx => first | exact rfl | (simp [go_sem]; done)); (case aO => (with_reducible repeat (first | apply Kd.R_alloc | apply Kd.R_drewN | apply Kd.R_drew)); exact HO.out); (case aB => exact (by repeat (first | (with_reducible first | exact HB.out | apply below_alloc | apply pw_below_drewN | apply below_drew1) | exact HB.out))); (case aF => exact (fun _ _ => trivial)); (case aS => exact (below_size (by repeat (first | (with_reducible first | exact HB.out | apply below_alloc | apply pw_below_drewN | apply below_drew1) | exact HB.out)))); (case aL => have := LY.out; omega); intro v2 w2 ho hb hg hat; have n0_ := Aside0.mk hb; have n1_ := Aside0.mk ho; clear HB; clear HO; have HB := n0_; have HO := n1_; clear n0_ n1_; clear ho hb hg hat)
            go_roundw
            case rel => exact ⟨j + 1, by omega, by go_num, ⟨by rw [HES.out, show (2 + x.f1) % 256 = wrap64 (2 + x.f1) % 256 by unfold wrap64; omega]; exact HO.out⟩, HB⟩
            case measure => simp [intOf]; omega
          by_cases h2 : x.f0 = 2
          · have he : key_grow.enc x.f0 x.f1 x.f2 = 4 :: key_grow.bytes (IntKind.u64.wrap (IntKind.u64.wrap x.f1 + 9223372036854775808)) 8 := by rw [h2, ← commonholdref_Keyed.xor_add _ (by rw [IntKind.wrap_u64]; omega) (by rw [IntKind.wrap_u64]; omega)]; rfl
            rw [he] at LX HES
            rw [h2] at p0
            have LY := Aside0.mk (show ys.length + 9 < 140737488355328 by have h_ := LX.out; rw [List.length_cons, key_grow.bytes_length] at h_; exact h_)
            clear LX he
            have hn0 := wrap_u64_nonneg (IntKind.u64.wrap x.f1 + 9223372036854775808)
            have hn1 : IntKind.u64.wrap (IntKind.u64.wrap x.f1 + 9223372036854775808) < 18446744073709551616 := by rw [IntKind.wrap_u64 (IntKind.u64.wrap x.f1 + 9223372036854775808)]; omega
            go_wp2
            generalize hN : IntKind.u64.wrap (IntKind.u64.wrap x.f1 + 9223372036854775808) = n at *
            go_loopw [10, 12] (fun nn i W => ∃ q : Nat, q ≤ 8 ∧ i = .int .i64 (7 - (q : Int)) ∧ nn = .int .u64 (commonholdref_Keyed.dv n q) ∧ Aside0 (W = (wr.alloc (.cells #[.int .i64 2, .int .i64 x.f1, .string x.f2] 23)).alloc (.cells (commonholdref_Keyed.digs n q) 65))) (fun _ i _ => (intOf i + 1).toNat)
            case atStart => exact ⟨0, by omega, rfl, rfl, ⟨rfl⟩⟩
            case round =>
              obtain ⟨q, hq, rfl, rfl, HW⟩ := hrel
              obtain rfl := HW.out
              clear HW
              have hdq := commonholdref_Keyed.dv_pos hn0 q
              have hq' : q = 0 ∨ q = 1 ∨ q = 2 ∨ q = 3 ∨ q = 4 ∨ q = 5 ∨ q = 6 ∨ q = 7 ∨ q = 8 := by omega
              rcases hq' with rfl | rfl | rfl | rfl | rfl | rfl | rfl | rfl | rfl
              · go_wp2
                go_roundw
                case rel => exact ⟨1, by omega, by go_num, by rw [commonholdref_Keyed.dv_step hn0 hn1], ⟨by simp [go_sem, commonholdref_Keyed.digs]⟩⟩
                case measure => simp [intOf]
              · go_wp2
                go_roundw
                case rel => exact ⟨2, by omega, by go_num, by rw [commonholdref_Keyed.dv_step hn0 hn1], ⟨by simp [go_sem, commonholdref_Keyed.digs]⟩⟩
                case measure => simp [intOf]
              · go_wp2
                go_roundw
                case rel => exact ⟨3, by omega, by go_num, by rw [commonholdref_Keyed.dv_step hn0 hn1], ⟨by simp [go_sem, commonholdref_Keyed.digs]⟩⟩
                case measure => simp [intOf]
              · go_wp2
                go_roundw
                case rel => exact ⟨4, by omega, by go_num, by rw [commonholdref_Keyed.dv_step hn0 hn1], ⟨by simp [go_sem, commonholdref_Keyed.digs]⟩⟩
                case measure => simp [intOf]
              · go_wp2
                go_roundw
                case rel => exact ⟨5, by omega, by go_num, by rw [commonholdref_Keyed.dv_step hn0 hn1], ⟨by simp [go_sem, commonholdref_Keyed.digs]⟩⟩
                case measure => simp [intOf]
              · go_wp2
                go_roundw
                case rel => exact ⟨6, by omega, by go_num, by rw [commonholdref_Keyed.dv_step hn0 hn1], ⟨by simp [go_sem, commonholdref_Keyed.digs]⟩⟩
                case measure => simp [intOf]
              · go_wp2
                go_roundw
                case rel => exact ⟨7, by omega, by go_num, by rw [commonholdref_Keyed.dv_step hn0 hn1], ⟨by simp [go_sem, commonholdref_Keyed.digs]⟩⟩
                case measure => simp [intOf]
              · go_wp2
                go_roundw
                case rel => exact ⟨8, by omega, by go_num, by rw [commonholdref_Keyed.dv_step hn0 hn1], ⟨by simp [go_sem, commonholdref_Keyed.digs]⟩⟩
                case measure => simp [intOf]
              · have HD : ((wr.alloc (.cells #[.int .i64 2, .int .i64 x.f1, .string x.f2] 23)).alloc (.cells (commonholdref_Keyed.digs n 8) 65)).heap[wr.heap.size + 1]? = some (.cells ((key_grow.bytes n 8).map (Value.int .u8)).toArray 65 (0, 0)) := by rw [commonholdref_Keyed.bytes8]; exact commonholdref_Keyed.at_alloc wr _ _
                have HO2 := Aside0.mk (Kd.R_mono (Kd.R_bound (Kd.R_alloc (Kd.R_alloc (Kd.R_mono (Kd.R_bound HO.out) (fun k hk => show k ≠ wr.heap.size + 1 by have := hk.2.2.1; omega)) (.cells #[.int .i64 2, .int .i64 x.f1, .string x.f2] 23)) (.cells (commonholdref_Keyed.digs n 8) 65))) (fun k hk => hk.1))
                have HB2 := Aside0.mk (below_alloc (below_alloc HB.out (.cells #[.int .i64 2, .int .i64 x.f1, .string x.f2] 23)) (.cells (commonholdref_Keyed.digs n 8) 65))
                have GT : wr.heap.size + 1 < ((wr.alloc (.cells #[.int .i64 2, .int .i64 x.f1, .string x.f2] 23)).alloc (.cells (commonholdref_Keyed.digs n 8) 65)).heap.size := by simp
                generalize hW : (wr.alloc (.cells #[.int .i64 2, .int .i64 x.f1, .string x.f2] 23)).alloc (.cells (commonholdref_Keyed.digs n 8) 65) = W at *
                have HDA := Aside0.mk HD
                have GTA := Aside0.mk GT
                clear hW HD GT HO HB
                go_wp2
                go_region_law (first
                  | (refine Kd.R_append_rows_step (Kd.int .u8) (w0 := w) w.heap.size (by simp [Region.wanted]) (.tmp 70) (.tmp 71) 34 5 (.int .u8 0) 1 rfl Tryd.underlying34 info5 rfl (by decide) (by omega) u7 ys [4] (some ⟨W.heap.size, 0, none⟩) 1 1 (fun k_ => k_ ≠ wr.heap.size + 1) (fun _ => False) rfl ?hx ?aO ?aR (fun _ _ h => h) (fun _ h => h.elim) ?aF ?aB ?aS ?aL ?_; (case hx => first | exact rfl | (simp [go_sem]; done)); (case aO => (with_reducible repeat (first | apply Kd.R_alloc | apply Kd.R_drewN | apply Kd.R_drew)); exact HO2.out); (case aR => exact commonholdref_Keyed.lits (cs := [4]) (t := 5) (fr := (0, 0)) (commonholdref_Keyed.at_alloc1 W (.cells #[.int .u8 4] 5))); (case aB => exact (by repeat (first | (with_reducible first | exact HB2.out | apply below_alloc | apply pw_below_drewN | apply below_drew1) | exact HB2.out))); (case aF => intro k_ h_; have h1_ := GTA.out; simp at h_; omega); (case aS => exact below_size (by repeat (first | (with_reducible first | exact HB2.out | apply below_alloc | apply pw_below_drewN | apply below_drew1) | exact HB2.out))); (case aL => have := LY.out; omega); intro v3 w3 ho hb hg hat; have HD3 := Aside0.mk ((hg.block (wr.heap.size + 1) (by have h_ := GTA.out; simp; omega) (fun e_ => HO2.out.1 _ e_.symm rfl)).trans ((commonholdref_Keyed.at_old W (.cells #[.int .u8 4] 5) _ GTA.out).trans HDA.out)); have HO3 := Aside0.mk ho; have HB3 := Aside0.mk hb; clear ho hb hg hat)
                  | (refine Kd.R_append_rows_step (Kd.int .u8) (w0 := w) w.heap.size (by simp [Region.wanted]) (.tmp 72) (.tmp 73) 34 5 (.int .u8 0) 1 rfl Tryd.underlying34 info5 rfl (by decide) (by omega) v3 (ys ++ [4]) (key_grow.bytes n 8) (some ⟨wr.heap.size + 1, 0, none⟩) 8 8 (fun _ => True) (fun _ => False) rfl ?hx ?aO ?aR (fun _ _ h => h) (fun _ h => h.elim) (fun _ _ => trivial) ?aB ?aS ?aL ?_; (case hx => first | exact rfl | (simp [go_sem]; done)); (case aO => first | exact Kd.R_mono HO3.out (fun _ _ => trivial) | exact Kd.R_drew (Kd.R_mono HO3.out (fun _ _ => trivial))); (case aR => exact commonholdref_Keyed.lits HD3.out (by rw [key_grow.bytes_length]; decide)); (case aB => first | exact HB3.out | exact below_drew1 HB3.out); (case aS => first | exact below_size HB3.out | (have h_ := below_size HB3.out; simpa using h_)); (case aL => have := LY.out; simp only [List.length_append, List.length_cons, List.length_nil]; omega); intro v4 w4 ho hb hg hat; have HO4 := Aside0.mk ho; have HB4 := Aside0.mk hb; clear ho hb hg hat))
                go_wp2
                go_roundw
                case rel => exact ⟨j + 1, by omega, by go_num, ⟨by rw [HES.out]; have h_ := HO4.out; rw [List.append_assoc] at h_; exact h_⟩, HB4⟩
                case measure => simp [intOf]; omega
          · have he : key_grow.enc x.f0 x.f1 x.f2 = 5 :: (key_grow.esc (bytesOf x.f2) ++ [0, 1]) := by unfold key_grow.enc; rw [if_neg h0, if_neg h1, if_neg h2]
            rw [he] at LX HES
            have LZ := Aside0.mk (show ys.length + (key_grow.esc (bytesOf x.f2)).length + 3 < 140737488355328 by have h_ := LX.out; rw [List.length_cons, List.length_append] at h_; simp at h_; omega)
            have hs : x.f2.size ≤ 140737488355328 := by
              have h_ := key_grow.esc_ge (bytesOf x.f2)
              rw [bytesOf_length] at h_
              have := LZ.out
              omega
            have q0 : (x.f0 == 0) = false := by simpa using h0
            have q1 : (x.f0 == 1) = false := by simpa using h1
            have q2 : (x.f0 == 2) = false := by simpa using h2
            have HO1 := Aside0.mk (Kd.R_mono (Kd.R_bound HO.out) (fun k hk => show k ≠ wr.heap.size from Nat.ne_of_lt hk.2.2.1))
            clear LX he HO
            have HO := HO1
            clear HO1
            generalize x.f2 = s at *
            go_wp2_with (at_builtin; refine Kd.R_append (Kd.int .u8) (w0 := w) w.heap.size rfl _ _ 34 5 (.int .u8 0) 1 rfl Tryd.underlying34 info5 rfl (by decide) (by omega) u7 (ys) ?np5 _ (fun k_ => k_ ≠ wr.heap.size) (fun _ => False) rfl ?hx ?aP (fun _ hk => hk.elim) ?aF ?aO ?aB ?aS ?aL ?_; (case aP => exact rfl); (case hx => first | exact rfl | (simp [go_sem]; done)); (case aO => (with_reducible repeat (first | apply Kd.R_alloc | apply Kd.R_drewN | apply Kd.R_drew)); exact HO.out); (case aB => exact (by repeat (first | (with_reducible first | exact HB.out | apply below_alloc | apply pw_below_drewN | apply below_drew1) | exact HB.out))); (case aF => exact (fun k_ h_ => by simp at h_; omega)); (case aS => exact (below_size (by repeat (first | (with_reducible first | exact HB.out | apply below_alloc | apply pw_below_drewN | apply below_drew1) | exact HB.out)))); (case aL => have := LZ.out; omega); intro v5 w5 ho hb hg hat; have hx1 : w5.cell? ⟨wr.heap.size, 2, none⟩ = some (.string s) := (hg.cell_far ⟨wr.heap.size, 2, none⟩ (by simp [go_sem]) (fun e_ => HO.out.1 _ e_.symm rfl)).trans (by simp [go_sem]); have GS := Aside0.mk (show wr.heap.size < w5.heap.size by have h_ := hg.size; simp at h_; omega); have n0_ := Aside0.mk hb; have n1_ := Aside0.mk ho; clear HB; clear HO; have HB := n0_; have HO := n1_; clear n0_ n1_; clear ho hb hg hat)
            obtain ⟨wo, rfl⟩ : ∃ wo : World, wo = wr := ⟨_, rfl⟩
            go_loopw [7, 13] (fun o i W => ∃ q : Nat, q ≤ s.size ∧ i = .int .i64 q ∧ W.cell? ⟨wo.heap.size, 2, none⟩ = some (.string s) ∧ Aside0 (Kd.R (Kd.int .u8) 5 W w.heap.size (fun k_ => k_ ≠ wo.heap.size) o (ys ++ [5] ++ key_grow.esc ((bytesOf s).take q))) ∧ Aside0 (Below w.heap.size w W) ∧ Aside0 (wo.heap.size < W.heap.size)) (fun _ i _ => s.size - (intOf i).toNat)
            case atStart => exact ⟨0, by omega, rfl, hx1, ⟨by rw [List.take_zero, show key_grow.esc [] = [] from rfl, List.append_nil]; exact HO.out⟩, HB, GS⟩
            case round =>
              clear HO HB GS hx1
              obtain ⟨q, hq, rfl, hx1, HO, HB, GT⟩ := hrel
              by_cases hlq : q < s.size
              · have hbl : q < (bytesOf s).length := by rw [bytesOf_length]; exact hlq
                have hxc : ∀ h : q < s.size, ((s[q]'h).toNat : Int) = (bytesOf s)[q] := by
                  intro h
                  simp [bytesOf]
                  rfl
                have hes := key_grow.esc_take (bytesOf s) q hbl
                have hle := key_grow.esc_le (bytesOf s) (q + 1)
                generalize (bytesOf s)[q] = y at *
                by_cases hx0 : y = 0
                · subst hx0
                  rw [if_pos rfl] at hes
                  rw [hes, List.length_append] at hle
                  have HE2 := Aside0.mk hes
                  have LY := Aside0.mk (show ys.length + (key_grow.esc ((bytesOf s).take q)).length + 5 < 140737488355328 by have h_ := LZ.out; simp at hle; omega)
                  clear hes hle
                  generalize key_grow.esc ((bytesOf s).take q) = z at *
                  go_wp2_with (at_builtin; refine Kd.R_append_rows (Kd.int .u8) (w0 := w) w.heap.size rfl _ _ 34 5 (.int .u8 0) 1 rfl Tryd.underlying34 info5 rfl (by decide) (by omega) u7 (ys ++ [5] ++ z) [0, 255] _ _ _ (fun k_ => k_ ≠ wo.heap.size) (fun _ => False) rfl rfl ?aO ?aR (fun _ _ h => h) (fun _ h => h.elim) ?aF ?aB ?aS ?aL ?_; (case aO => (with_reducible repeat (first | apply Kd.R_alloc | apply Kd.R_drewN | apply Kd.R_drew)); exact HO.out); (case aR => exact key_grow.lit2 (by simp [go_sem]) (by simp [go_sem])); (case aB => exact (by repeat (first | (with_reducible first | exact HB.out | apply below_alloc | apply pw_below_drewN | apply below_drew1) | exact HB.out))); (case aF => exact (fun k_ h_ => by simp at h_; have := GT.out; omega)); (case aS => exact (below_size (by repeat (first | (with_reducible first | exact HB.out | apply below_alloc | apply pw_below_drewN | apply below_drew1) | exact HB.out)))); (case aL => simp only [List.length_append, List.length_cons, List.length_nil]; have := LY.out; omega); intro v30 w30 ho hb hg hat; have hx2 : w30.cell? ⟨wo.heap.size, 2, none⟩ = some (.string s) := (hg.cell_far ⟨wo.heap.size, 2, none⟩ (by have h_ := GT.out; first | exact h_ | (simp; omega)) (fun e_ => HO.out.1 _ e_.symm rfl)).trans (by first | exact hx1 | exact (World.cell?_alloc_past _ _ _ GT.out).trans hx1); have GT_ := Aside0.mk (Nat.lt_of_lt_of_le GT.out (show wr.heap.size ≤ w30.heap.size by have h_ := hg.size; first | exact h_ | (simp at h_; omega))); clear GT; have GT := GT_; clear GT_; have n0_ := Aside0.mk hb; have n1_ := Aside0.mk ho; clear HB; clear HO; have HB := n0_; have HO := n1_; clear n0_ n1_; clear ho hb hg hat)
                  go_roundw
                  case rel => exact ⟨q + 1, by omega, by go_num, hx2, ⟨by rw [HE2.out]; have h_ := HO.out; rw [List.append_assoc (ys ++ [5])] at h_; exact h_⟩, HB, GT⟩
                  case measure => simp [intOf]; omega
                · rw [if_neg hx0] at hes
                  rw [hes, List.length_append] at hle
                  have HE2 := Aside0.mk hes
                  have LY := Aside0.mk (show ys.length + (key_grow.esc ((bytesOf s).take q)).length + 4 < 140737488355328 by have h_ := LZ.out; simp at hle; omega)
                  clear hes hle
                  generalize key_grow.esc ((bytesOf s).take q) = z at *
                  have hq0 : (y == 0) = false := by simpa using hx0
                  go_wp2_with (at_builtin; refine Kd.R_append (Kd.int .u8) (w0 := w) w.heap.size rfl _ _ 34 5 (.int .u8 0) 1 rfl Tryd.underlying34 info5 rfl (by decide) (by omega) u7 (ys ++ [5] ++ z) ?np6 _ (fun k_ => k_ ≠ wo.heap.size) (fun _ => False) rfl ?hx ?aP (fun _ hk => hk.elim) ?aF ?aO ?aB ?aS ?aL ?_; (case aP => exact rfl); (case hx => first | exact rfl | (simp [go_sem]; done)); (case aO => (with_reducible repeat (first | apply Kd.R_alloc | apply Kd.R_drewN | apply Kd.R_drew)); exact HO.out); (case aB => exact (by repeat (first | (with_reducible first | exact HB.out | apply below_alloc | apply pw_below_drewN | apply below_drew1) | exact HB.out))); (case aF => exact (fun k_ h_ => Nat.ne_of_gt (Nat.lt_of_lt_of_le GT.out h_))); (case aS => exact (below_size (by repeat (first | (with_reducible first | exact HB.out | apply below_alloc | apply pw_below_drewN | apply below_drew1) | exact HB.out)))); (case aL => simp only [List.length_append, List.length_cons, List.length_nil]; have := LY.out; omega); intro v6 w6 ho hb hg hat; have hx2 : w6.cell? ⟨wo.heap.size, 2, none⟩ = some (.string s) := (hg.cell_far ⟨wo.heap.size, 2, none⟩ (by have h_ := GT.out; first | exact h_ | (simp; omega)) (fun e_ => HO.out.1 _ e_.symm rfl)).trans (by first | exact hx1 | exact (World.cell?_alloc_past _ _ _ GT.out).trans hx1); have GT_ := Aside0.mk (Nat.lt_of_lt_of_le GT.out (show wr.heap.size ≤ w6.heap.size by have h_ := hg.size; first | exact h_ | (simp at h_; omega))); clear GT; have GT := GT_; clear GT_; have n0_ := Aside0.mk hb; have n1_ := Aside0.mk ho; clear HB; clear HO; have HB := n0_; have HO := n1_; clear n0_ n1_; clear ho hb hg hat)
                  go_roundw
                  case rel => exact ⟨q + 1, by omega, by go_num, hx2, ⟨by rw [HE2.out]; have h_ := HO.out; rw [List.append_assoc (ys ++ [5])] at h_; exact h_⟩, HB, GT⟩
                  case measure => simp [intOf]; omega
              · obtain rfl : q = s.size := by omega
                rw [show (bytesOf s).take s.size = bytesOf s from by rw [← bytesOf_length, List.take_length]] at HO
                go_wp2_with (at_builtin; refine Kd.R_append_rows (Kd.int .u8) (w0 := w) w.heap.size rfl _ _ 34 5 (.int .u8 0) 1 rfl Tryd.underlying34 info5 rfl (by decide) (by omega) u7 (ys ++ [5] ++ key_grow.esc (bytesOf s)) [0, 1] _ _ _ (fun k_ => k_ ≠ wo.heap.size) (fun _ => False) rfl rfl ?aO ?aR (fun _ _ h => h) (fun _ h => h.elim) ?aF ?aB ?aS ?aL ?_; (case aO => (with_reducible repeat (first | apply Kd.R_alloc | apply Kd.R_drewN | apply Kd.R_drew)); exact HO.out); (case aR => exact key_grow.lit2 (by simp [go_sem]) (by simp [go_sem])); (case aB => exact (by repeat (first | (with_reducible first | exact HB.out | apply below_alloc | apply pw_below_drewN | apply below_drew1) | exact HB.out))); (case aF => exact (fun k_ h_ => by simp at h_; have := GT.out; omega)); (case aS => exact (below_size (by repeat (first | (with_reducible first | exact HB.out | apply below_alloc | apply pw_below_drewN | apply below_drew1) | exact HB.out)))); (case aL => simp only [List.length_append, List.length_cons, List.length_nil]; have := LZ.out; omega); intro v30 w30 ho hb hg hat; have n0_ := Aside0.mk hb; have n1_ := Aside0.mk ho; clear HB; clear HO; have HB := n0_; have HO := n1_; clear n0_ n1_; clear ho hb hg hat)
                go_roundw
                case rel => exact ⟨j + 1, by omega, by go_num, ⟨by rw [HES.out]; have h_ := Kd.R_mono HO.out (fun _ _ => trivial); rw [List.append_assoc, List.append_assoc] at h_; exact h_⟩, HB⟩
                case measure => simp [intOf]; omega
        · obtain rfl : j = l0.length := by omega
          rw [List.take_length] at HO
          go_wp2
          go_ret2
          exact ⟨_, rfl, HO.out, HB.out⟩

/-! ### commonholdlaw_sameBytes: function 25 -/
def commonholdlaw_sameBytes.l0 : Nat → List Int → List Int → Int → Option (Bool)
  | 0, _, _, _ => none
  | k + 1, x0, x1, x5 => if x5 < (x0.length : Int) then (if 0 ≤ x5 then (if x5 < (x1.length : Int) then (if (rd x0 x5) = (rd x1 x5) then (commonholdlaw_sameBytes.l0 k x0 x1 (wrap64 (x5 + 1))) else (some false)) else (none)) else (none)) else (some true)
def commonholdlaw_sameBytes.f (k : Nat) (l0 : List Int) (l1 : List Int) : Option (Bool) := if (l0.length : Int) = (l1.length : Int) then (commonholdlaw_sameBytes.l0 k l0 l1 0) else (some false)
theorem commonholdlaw_sameBytes.mono_l : ∀ k, (∀ y0 y1 y2, LeO (commonholdlaw_sameBytes.l0 k y0 y1 y2) (commonholdlaw_sameBytes.l0 (k + 1) y0 y1 y2))
  | 0 => fun _ _ _ r h => by simp [commonholdlaw_sameBytes.l0] at h
  | k + 1 => by
    have ih0 := commonholdlaw_sameBytes.mono_l k
    · intro y0 y1 y2
      unfold commonholdlaw_sameBytes.l0
      repeat' first
      | (with_reducible exact ih0 _ _ _)
      | (with_reducible exact LeO.refl _)
      | (with_reducible exact LeO.none _)
      | (with_reducible refine LeO.ite ?_ ?_)
      | (with_reducible refine LeO.bind ?_ (fun _ => ?_))
      | exact ih0 _ _ _
      | exact LeO.none _
      | refine LeO.ite ?_ ?_
      | refine LeO.bind ?_ (fun _ => ?_)
theorem commonholdlaw_sameBytes.mono : ∀ a0 a1 k, LeO (commonholdlaw_sameBytes.f k a0 a1) (commonholdlaw_sameBytes.f (k + 1) a0 a1) := by
  intro a0 a1 k
  have ih0 := commonholdlaw_sameBytes.mono_l k
  unfold commonholdlaw_sameBytes.f
  repeat' first
      | (with_reducible exact ih0 _ _ _)
      | (with_reducible exact LeO.refl _)
      | (with_reducible exact LeO.none _)
      | (with_reducible refine LeO.ite ?_ ?_)
      | (with_reducible refine LeO.bind ?_ (fun _ => ?_))
      | exact ih0 _ _ _
      | exact LeO.none _
      | refine LeO.ite ?_ ?_
      | refine LeO.bind ?_ (fun _ => ?_)
set_option maxHeartbeats 8000000 in
set_option maxRecDepth 100000 in
theorem commonholdlaw_sameBytes.calls (k : Nat) (A0 : Option Addr) (c0 : Nat) (l0 : List Int) (A1 : Option Addr) (c1 : Nat) (l1 : List Int) (r : Bool) (w : World) (hr0 : Kd.C (Kd.int .u8) w A0 l0.length l0) (hc0 : l0.length ≤ c0) (hr1 : Kd.C (Kd.int .u8) w A1 l1.length l1) (hc1 : l1.length ≤ c1) (h : commonholdlaw_sameBytes.f k l0 l1 = some r) :
    Calls Tryd.prog 25 #[.slice A0 l0.length c0, .slice A1 l1.length c1] w fun e w' => e = .returned (.bool r) ∧ Drawn0 w w' := by
  have HR0 := Aside0.mk hr0
  have HC0 := Aside0.mk hc0
  clear hr0 hc0
  have HR1 := Aside0.mk hr1
  have HC1 := Aside0.mk hc1
  clear hr1 hc1
  have H : (if (l0.length : Int) = (l1.length : Int) then (commonholdlaw_sameBytes.l0 k l0 l1 0) else (some false)) = some r := h
  clear h
  by_cases c3 : (l0.length : Int) = (l1.length : Int)
  · rw [if_pos c3] at H
    have c3b0 : ((l0.length : Int) == (l1.length : Int)) = true := beq_iff_eq.mpr c3
    have c3b1 : ((l0.length : Int) != (l1.length : Int)) = false := bne_eq_false_iff_eq.mpr c3
    have c3b2 : (l0.length == l1.length) = true := by first | simpa using c3 | (simp at c3 ⊢; omega)
    clear c3
    have H' := Aside0.mk H
    clear H
    go_enter Tryd.func25, Tryd.ntmps25
    go_wp2
    repeat (go_quiet (fail); try go_wp2)
    go_loopg [5] k (fun kq v5 w' => ∃ (x5_1 : Int), v5 = .int .i64 x5_1 ∧ Aside0 (commonholdlaw_sameBytes.l0 kq l0 l1 x5_1 = some r) ∧ Aside0 (kq ≤ k) ∧ Drawn0 w w')
    case atStart => exact ⟨(0), (by first | rfl | (simp; done) | (simp [*]; done)), H', ⟨Nat.le_refl _⟩, by repeat (first | exact Drawn0.refl _ | apply Drawn0.step)⟩
    case round =>
      clear H'
      try clear c1
      try clear c2
      try clear p2
      try clear c3
      try clear c3b0
      try clear c3b1
      try clear c3b2
      obtain ⟨x5_1, rfl, HA, HK1, ⟨m1, rfl⟩⟩ := hrel
      cases gk with
      | zero => exact absurd HA.out (by simp [commonholdlaw_sameBytes.l0])
      | succ k1 =>
        have H := HA.out
        clear HA
        simp only [commonholdlaw_sameBytes.l0] at H
        by_cases c4 : x5_1 < (l0.length : Int)
        · rw [if_pos c4] at H
          have c4b0 : decide (x5_1 < (l0.length : Int)) = true := decide_eq_true c4
          clear c4
          by_cases c5 : 0 ≤ x5_1
          · rw [if_pos c5] at H
            have c5b0 : decide (0 ≤ x5_1) = true := decide_eq_true c5
            clear c5
            by_cases c6 : x5_1 < (l1.length : Int)
            · rw [if_pos c6] at H
              have c6b0 : decide (x5_1 < (l1.length : Int)) = true := decide_eq_true c6
              clear c6
              by_cases c7 : (rd l0 x5_1) = (rd l1 x5_1)
              · rw [if_pos c7] at H
                have c7b0 : ((rd l0 x5_1) == (rd l1 x5_1)) = true := beq_iff_eq.mpr c7
                have c7b1 : ((rd l0 x5_1) != (rd l1 x5_1)) = false := bne_eq_false_iff_eq.mpr c7
                clear c7
                have H' := Aside0.mk H
                clear H
                have p108 : 0 ≤ (x5_1 : Int) := of_decide_eq_true (by first | (with_reducible assumption) | assumption)
                have q108 : x5_1 < (l0.length : Int) := of_decide_eq_true (by first | (with_reducible assumption) | assumption)
                obtain ⟨ad108, e108, hx108_0⟩ := Kd.at_int HR0.out x5_1 p108 q108
                cases e108
                replace p108 := eq_true p108
                replace q108 := eq_true q108
                have p109 : 0 ≤ (x5_1 : Int) := of_decide_eq_true (by first | (with_reducible assumption) | assumption)
                have q109 : x5_1 < (l1.length : Int) := of_decide_eq_true (by first | (with_reducible assumption) | assumption)
                obtain ⟨ad109, e109, hx109_0⟩ := Kd.at_int HR1.out x5_1 p109 q109
                cases e109
                replace p109 := eq_true p109
                replace q109 := eq_true q109
                go_wp2
                repeat (go_quiet (fail); try go_wp2)
                go_roundg k1
                case measure => have := HK1.out; omega
                case rel => exact ⟨(wrap64 (x5_1 + 1)), (by first | rfl | (simp; done) | (simp [*]; done)), H', ⟨by have := HK1.out; omega⟩, by repeat (first | exact Drawn0.refl _ | apply Drawn0.step)⟩
              · rw [if_neg c7] at H
                have c7b0 : ((rd l0 x5_1) == (rd l1 x5_1)) = false := beq_eq_false_iff_ne.mpr c7
                have c7b1 : ((rd l0 x5_1) != (rd l1 x5_1)) = true := bne_iff_ne.mpr c7
                obtain rfl := Option.some.inj H
                have p108 : 0 ≤ (x5_1 : Int) := of_decide_eq_true (by first | (with_reducible assumption) | assumption)
                have q108 : x5_1 < (l0.length : Int) := of_decide_eq_true (by first | (with_reducible assumption) | assumption)
                obtain ⟨ad108, e108, hx108_0⟩ := Kd.at_int HR0.out x5_1 p108 q108
                cases e108
                replace p108 := eq_true p108
                replace q108 := eq_true q108
                have p109 : 0 ≤ (x5_1 : Int) := of_decide_eq_true (by first | (with_reducible assumption) | assumption)
                have q109 : x5_1 < (l1.length : Int) := of_decide_eq_true (by first | (with_reducible assumption) | assumption)
                obtain ⟨ad109, e109, hx109_0⟩ := Kd.at_int HR1.out x5_1 p109 q109
                cases e109
                replace p109 := eq_true p109
                replace q109 := eq_true q109
                go_wp2
                repeat (go_quiet (fail); try go_wp2)
                go_ret
                exact ⟨by first | rfl | (simp; done) | (simp [*]; done), by repeat (first | exact Drawn0.refl _ | apply Drawn0.step)⟩
            · rw [if_neg c6] at H
              exact absurd H (by simp)
          · rw [if_neg c5] at H
            exact absurd H (by simp)
        · rw [if_neg c4] at H
          have c4b0 : decide (x5_1 < (l0.length : Int)) = false := decide_eq_false c4
          clear c4
          obtain rfl := Option.some.inj H
          go_wp2
          repeat (go_quiet (fail); try go_wp2)
          go_ret
          exact ⟨by first | rfl | (simp; done) | (simp [*]; done), by repeat (first | exact Drawn0.refl _ | apply Drawn0.step)⟩
  · rw [if_neg c3] at H
    have c3b0 : ((l0.length : Int) == (l1.length : Int)) = false := beq_eq_false_iff_ne.mpr c3
    have c3b1 : ((l0.length : Int) != (l1.length : Int)) = true := bne_iff_ne.mpr c3
    have c3b2 : (l0.length == l1.length) = false := by first | simpa using c3 | (simp at c3 ⊢; omega)
    obtain rfl := Option.some.inj H
    go_enter Tryd.func25, Tryd.ntmps25
    go_wp2
    repeat (go_quiet (fail); try go_wp2)
    go_ret
    exact ⟨by first | rfl | (simp; done) | (simp [*]; done), by repeat (first | exact Drawn0.refl _ | apply Drawn0.step)⟩

/-! ### commonholdlaw_KeyEncodes: function 7 -/
def commonholdlaw_KeyEncodes.f (k : Nat) (l0 : List (S23)) : Option (Bool) := if ([] : List (S23)).length + l0.length < 4398046511104 then ((key_Encode.f k (([] : List (S23)) ++ l0)).bind fun bt113 => ((commonholdref_Keyed.f k l0).bind fun bt117 => ((commonholdlaw_sameBytes.f k bt113.1 bt117.1).bind fun t121 => (if t121 = true then (some (bt113.2 == bt117.2)) else (some false))))) else (none)
theorem commonholdlaw_KeyEncodes.mono : ∀ a0 k, LeO (commonholdlaw_KeyEncodes.f k a0) (commonholdlaw_KeyEncodes.f (k + 1) a0) := by
  intro a0 k
  unfold commonholdlaw_KeyEncodes.f
  repeat' first
      | (with_reducible exact commonholdlaw_sameBytes.mono _ _ _)
      | (with_reducible exact commonholdref_Keyed.mono _ _)
      | (with_reducible exact key_Encode.mono _ _)
      | (with_reducible exact LeO.refl _)
      | (with_reducible exact LeO.none _)
      | (with_reducible refine LeO.ite ?_ ?_)
      | (with_reducible refine LeO.bind ?_ (fun _ => ?_))
      | exact commonholdlaw_sameBytes.mono _ _ _
      | exact commonholdref_Keyed.mono _ _
      | exact key_Encode.mono _ _
      | exact LeO.none _
      | refine LeO.ite ?_ ?_
      | refine LeO.bind ?_ (fun _ => ?_)
set_option maxHeartbeats 8000000 in
set_option maxRecDepth 100000 in
theorem commonholdlaw_KeyEncodes.calls (k : Nat) (A0 : Option Addr) (c0 : Nat) (l0 : List (S23)) (r : Bool) (w : World) (hr0 : Kd.C k23 w A0 l0.length l0) (hc0 : l0.length ≤ c0) (hL : LD w) (h : commonholdlaw_KeyEncodes.f k l0 = some r) :
    Calls Tryd.prog 7 #[.slice A0 l0.length c0] w fun e w' => e = .returned (.bool r) ∧ Below w.heap.size w w' := by
  have HLD := Aside0.mk hL
  clear hL
  have HR0 := Aside0.mk hr0
  have HC0 := Aside0.mk hc0
  clear hr0 hc0
  have HB := Aside0.mk (Below.refl w.heap.size w)
  have H : (if ([] : List (S23)).length + l0.length < 4398046511104 then ((key_Encode.f k (([] : List (S23)) ++ l0)).bind fun bt113 => ((commonholdref_Keyed.f k l0).bind fun bt117 => ((commonholdlaw_sameBytes.f k bt113.1 bt117.1).bind fun t121 => (if t121 = true then (some (bt113.2 == bt117.2)) else (some false))))) else (none)) = some r := h
  clear h
  by_cases c2 : ([] : List (S23)).length + l0.length < 4398046511104
  · rw [if_pos c2] at H
    have LMc2 := Aside0.mk c2
    clear c2
    obtain ⟨y110, hy110⟩ : ∃ y_ : List (S23), y_ = (([] : List (S23)) ++ l0) := ⟨_, rfl⟩
    replace H : ((key_Encode.f k y110).bind fun bt113 => ((commonholdref_Keyed.f k l0).bind fun bt117 => ((commonholdlaw_sameBytes.f k bt113.1 bt117.1).bind fun t121 => (if t121 = true then (some (bt113.2 == bt117.2)) else (some false))))) = some r := by first | (rw [hy110]; with_reducible exact H) | (have H2_ := (Option.bind_some _ _).symm.trans H; rw [hy110]; with_reducible exact H2_) | (have H2_ := (Option.bind_some _ _).symm.trans H; with_reducible exact H2_) | with_reducible exact H | (rw [hy110]; exact H) | exact H
    have Ny110 := Aside0.mk hy110
    clear hy110
    replace H := Option.bind_eq_some_iff.mp H
    obtain ⟨⟨t113, t114⟩, A30, H⟩ := H
    replace H : ((commonholdref_Keyed.f k l0).bind fun bt117 => ((commonholdlaw_sameBytes.f k t113 bt117.1).bind fun t121 => (if t121 = true then (some (t114 == bt117.2)) else (some false)))) = some r := H
    have A3 := Aside0.mk A30
    clear A30
    replace H := Option.bind_eq_some_iff.mp H
    obtain ⟨⟨t117, t118⟩, A40, H⟩ := H
    replace H : ((commonholdlaw_sameBytes.f k t113 t117).bind fun t121 => (if t121 = true then (some (t114 == t118)) else (some false))) = some r := H
    have A4 := Aside0.mk A40
    clear A40
    replace H := Option.bind_eq_some_iff.mp H
    obtain ⟨t121, A50, H⟩ := H
    replace H : (if t121 = true then (some (t114 == t118)) else (some false)) = some r := H
    have A5 := Aside0.mk A50
    clear A50
    by_cases c6 : t121 = true
    · subst c6
      have H1 : (some (t114 == t118)) = some r := by rw [if_pos rfl] at H; exact H
      clear H
      have H := H1
      clear H1
      obtain rfl := Option.some.inj H
      go_enter Tryd.func7, Tryd.ntmps7
      go_wp2_with (first | ((with_reducible refine gate_builtin (b := .append) (xs := #[.const (.slice none 0 0), .tmp 8]) rfl ?_); at_builtin; refine Kd.R_append_rows k23 (w0 := w) w.heap.size rfl (.const (.slice none 0 0)) (.tmp 8) 33 23 (.agg #[(.int .i64 0), (.int .i64 0), (.string ⟨#[]⟩)]) 32 rfl Tryd.underlying33 info23 rfl (by decide) (by omega) (.slice none 0 0) ([] : List (S23)) l0 _ _ _ (fun _ => True) (fun _ => False) rfl rfl ?aO ?aR (fun _ _ h => h) (fun _ h => h.elim) ?aF ?aB ?aS ?aL ?_; (case aR => repeat (first | exact HR0.out | (with_reducible refine Kd.C_alloc ?_ _) | (with_reducible refine Kd.C_drewN ?_ _) | (with_reducible refine Kd.C_drew ?_))); (case aB => exact (by repeat (first | (with_reducible first | exact HB.out | apply below_alloc | apply pw_below_drewN | apply below_drew1) | exact HB.out))); (case aF => exact (fun _ _ => trivial)); (case aO => exact ((Kd.R_nil _ _ _ _ (fun _ => True)))); (case aS => exact (below_size (by repeat (first | (with_reducible first | exact HB.out | apply below_alloc | apply pw_below_drewN | apply below_drew1) | exact HB.out)))); (case aL => have := LMc2.out; omega); intro v111 w7 ho hb hg hat; rw [← Ny110.out] at ho; have n0_ := Aside0.mk (hb); have n1_ := Aside0.mk (ho); clear HB; have HB := n0_; have HO112 := n1_; clear n0_ n1_; clear ho hb hg hat; obtain ⟨Ao8, co8, eo8⟩ := Kd.R_slice HO112.out; subst eo8) | ((with_reducible refine gate_callee (f := 23) rfl ?_); refine goesL_ (some 10) rfl rfl Tryd.func23 (by kernel_rfl) rfl #[.slice Ao8 y110.length co8] rfl (by (try simp only [List.map_toArray, List.map_cons, List.map_nil]); first | done | rfl | (simp only [List.length_drop, List.length_take]; rfl)) ?_; (with_reducible refine (key_Encode.calls k _ _ y110 t113 t114 _ ?side1 ?side2 ?side3 A3.out).mono ?_); (case side1 => repeat (first | exact (Kd.R_reads' HO112.out).2.2 | (with_reducible refine Kd.C_alloc ?_ _) | (with_reducible refine Kd.C_drewN ?_ _) | (with_reducible refine Kd.C_drew ?_))); (case side2 => exact (Kd.R_reads' HO112.out).2.1); (case side3 => exact LD.below HLD.out (by first | (with_reducible exact Below.refl _ _) | ((repeat (first | (with_reducible exact Below.refl _ _) | (with_reducible apply below_alloc) | (with_reducible apply pw_below_drewN) | (with_reducible apply below_drew1))); done) | exact (by repeat (first | (with_reducible first | exact HB.out | apply below_alloc | apply pw_below_drewN | apply below_drew1) | exact HB.out)))); rintro e w9 ⟨v115, rfl, ho0, hb⟩; refine ⟨_, rfl, ?_⟩; have n0_ := Aside0.mk (Kd.R_below (by (with_reducible repeat (first | apply Kd.R_alloc | apply Kd.R_drewN | apply Kd.R_drew)); exact HO112.out) hb); have n1_ := Aside0.mk (Kd.R_lower ho0 (below_size (by repeat (first | (with_reducible first | exact HB.out | apply below_alloc | apply pw_below_drewN | apply below_drew1) | exact HB.out)))); have n2_ := Aside0.mk (below_step (by repeat (first | (with_reducible first | exact HB.out | apply below_alloc | apply pw_below_drewN | apply below_drew1) | exact HB.out)) hb); clear HO112; clear HB; have HO112 := n0_; have HO116 := n1_; have HB := n2_; clear n0_ n1_ n2_; (try clear hb); (try clear hb2); (try clear hk); (try clear hi); (try clear ho0)) | ((with_reducible refine gate_callee (f := 24) rfl ?_); refine goesL_ (some 15) rfl rfl Tryd.func24 (by kernel_rfl) rfl #[.slice A0 l0.length c0] rfl (by (try simp only [List.map_toArray, List.map_cons, List.map_nil]); first | done | rfl | (simp only [List.length_drop, List.length_take]; rfl)) ?_; (with_reducible refine (commonholdref_Keyed.calls k _ _ l0 t117 t118 _ ?side1 ?side2 A4.out).mono ?_); (case side1 => repeat (first | exact (Kd.C_below HR0.out HB.out) | (with_reducible refine Kd.C_alloc ?_ _) | (with_reducible refine Kd.C_drewN ?_ _) | (with_reducible refine Kd.C_drew ?_))); (case side2 => exact HC0.out); rintro e w10 ⟨v119, rfl, ho0, hb⟩; refine ⟨_, rfl, ?_⟩; have n0_ := Aside0.mk (Kd.R_below (by (with_reducible repeat (first | apply Kd.R_alloc | apply Kd.R_drewN | apply Kd.R_drew)); exact HO112.out) hb); have n1_ := Aside0.mk (Kd.R_elder' (by (with_reducible repeat (first | apply Kd.R_alloc | apply Kd.R_drewN | apply Kd.R_drew)); exact HO116.out) (Kd.R_base ho0) hb); have n2_ := Aside0.mk (Kd.R_lower (Kd.R_new' ho0 (Kd.R_lt (by (with_reducible repeat (first | apply Kd.R_alloc | apply Kd.R_drewN | apply Kd.R_drew)); exact HO116.out))) (below_size (by repeat (first | (with_reducible first | exact HB.out | apply below_alloc | apply pw_below_drewN | apply below_drew1) | exact HB.out)))); have n3_ := Aside0.mk (below_step (by repeat (first | (with_reducible first | exact HB.out | apply below_alloc | apply pw_below_drewN | apply below_drew1) | exact HB.out)) hb); clear HO112; clear HO116; clear HB; have HO112 := n0_; have HO116 := n1_; have HO120 := n2_; have HB := n3_; clear n0_ n1_ n2_ n3_; (try clear hb); (try clear hb2); (try clear hk); (try clear hi); (try clear ho0); obtain ⟨Ao11, co11, eo11⟩ := Kd.R_slice HO116.out; subst eo11; obtain ⟨Ao12, co12, eo12⟩ := Kd.R_slice HO120.out; subst eo12) | ((with_reducible refine gate_callee (f := 25) rfl ?_); refine goesL_ (some 20) rfl rfl Tryd.func25 (by kernel_rfl) rfl #[.slice Ao11 t113.length co11, .slice Ao12 t117.length co12] rfl (by (try simp only [List.map_toArray, List.map_cons, List.map_nil]); first | done | rfl | (simp only [List.length_drop, List.length_take]; rfl)) ?_; (with_reducible refine (commonholdlaw_sameBytes.calls k _ _ t113 _ _ t117 true _ ?side1 ?side2 ?side3 ?side4 A5.out).mono ?_); (case side1 => repeat (first | exact (Kd.R_reads' HO116.out).2.2 | (with_reducible refine Kd.C_alloc ?_ _) | (with_reducible refine Kd.C_drewN ?_ _) | (with_reducible refine Kd.C_drew ?_))); (case side2 => exact (Kd.R_reads' HO116.out).2.1); (case side3 => repeat (first | exact (Kd.R_reads' HO120.out).2.2 | (with_reducible refine Kd.C_alloc ?_ _) | (with_reducible refine Kd.C_drewN ?_ _) | (with_reducible refine Kd.C_drew ?_))); (case side4 => exact (Kd.R_reads' HO120.out).2.1); rintro e w' ⟨rfl, ⟨nd, rfl⟩⟩; refine ⟨_, rfl, ?_⟩))
      go_ret
      exact ⟨by first | rfl | (simp [errW_none, errW_some] <;> rfl) | (simp [*, errW_none, errW_some] <;> rfl), by repeat (first | (with_reducible first | exact HB.out | apply below_alloc | apply pw_below_drewN | apply below_drew1) | exact HB.out)⟩
    · replace c6 := Bool.eq_false_iff.mpr c6
      subst c6
      have H1 : (some false) = some r := by rw [if_neg (show ¬ (false = true) by decide)] at H; exact H
      clear H
      have H := H1
      clear H1
      obtain rfl := Option.some.inj H
      go_enter Tryd.func7, Tryd.ntmps7
      go_wp2_with (first | ((with_reducible refine gate_builtin (b := .append) (xs := #[.const (.slice none 0 0), .tmp 8]) rfl ?_); at_builtin; refine Kd.R_append_rows k23 (w0 := w) w.heap.size rfl (.const (.slice none 0 0)) (.tmp 8) 33 23 (.agg #[(.int .i64 0), (.int .i64 0), (.string ⟨#[]⟩)]) 32 rfl Tryd.underlying33 info23 rfl (by decide) (by omega) (.slice none 0 0) ([] : List (S23)) l0 _ _ _ (fun _ => True) (fun _ => False) rfl rfl ?aO ?aR (fun _ _ h => h) (fun _ h => h.elim) ?aF ?aB ?aS ?aL ?_; (case aR => repeat (first | exact HR0.out | (with_reducible refine Kd.C_alloc ?_ _) | (with_reducible refine Kd.C_drewN ?_ _) | (with_reducible refine Kd.C_drew ?_))); (case aB => exact (by repeat (first | (with_reducible first | exact HB.out | apply below_alloc | apply pw_below_drewN | apply below_drew1) | exact HB.out))); (case aF => exact (fun _ _ => trivial)); (case aO => exact ((Kd.R_nil _ _ _ _ (fun _ => True)))); (case aS => exact (below_size (by repeat (first | (with_reducible first | exact HB.out | apply below_alloc | apply pw_below_drewN | apply below_drew1) | exact HB.out)))); (case aL => have := LMc2.out; omega); intro v111 w13 ho hb hg hat; rw [← Ny110.out] at ho; have n0_ := Aside0.mk (hb); have n1_ := Aside0.mk (ho); clear HB; have HB := n0_; have HO112 := n1_; clear n0_ n1_; clear ho hb hg hat; obtain ⟨Ao14, co14, eo14⟩ := Kd.R_slice HO112.out; subst eo14) | ((with_reducible refine gate_callee (f := 23) rfl ?_); refine goesL_ (some 10) rfl rfl Tryd.func23 (by kernel_rfl) rfl #[.slice Ao14 y110.length co14] rfl (by (try simp only [List.map_toArray, List.map_cons, List.map_nil]); first | done | rfl | (simp only [List.length_drop, List.length_take]; rfl)) ?_; (with_reducible refine (key_Encode.calls k _ _ y110 t113 t114 _ ?side1 ?side2 ?side3 A3.out).mono ?_); (case side1 => repeat (first | exact (Kd.R_reads' HO112.out).2.2 | (with_reducible refine Kd.C_alloc ?_ _) | (with_reducible refine Kd.C_drewN ?_ _) | (with_reducible refine Kd.C_drew ?_))); (case side2 => exact (Kd.R_reads' HO112.out).2.1); (case side3 => exact LD.below HLD.out (by first | (with_reducible exact Below.refl _ _) | ((repeat (first | (with_reducible exact Below.refl _ _) | (with_reducible apply below_alloc) | (with_reducible apply pw_below_drewN) | (with_reducible apply below_drew1))); done) | exact (by repeat (first | (with_reducible first | exact HB.out | apply below_alloc | apply pw_below_drewN | apply below_drew1) | exact HB.out)))); rintro e w15 ⟨v115, rfl, ho0, hb⟩; refine ⟨_, rfl, ?_⟩; have n0_ := Aside0.mk (Kd.R_below (by (with_reducible repeat (first | apply Kd.R_alloc | apply Kd.R_drewN | apply Kd.R_drew)); exact HO112.out) hb); have n1_ := Aside0.mk (Kd.R_lower ho0 (below_size (by repeat (first | (with_reducible first | exact HB.out | apply below_alloc | apply pw_below_drewN | apply below_drew1) | exact HB.out)))); have n2_ := Aside0.mk (below_step (by repeat (first | (with_reducible first | exact HB.out | apply below_alloc | apply pw_below_drewN | apply below_drew1) | exact HB.out)) hb); clear HO112; clear HB; have HO112 := n0_; have HO116 := n1_; have HB := n2_; clear n0_ n1_ n2_; (try clear hb); (try clear hb2); (try clear hk); (try clear hi); (try clear ho0)) | ((with_reducible refine gate_callee (f := 24) rfl ?_); refine goesL_ (some 15) rfl rfl Tryd.func24 (by kernel_rfl) rfl #[.slice A0 l0.length c0] rfl (by (try simp only [List.map_toArray, List.map_cons, List.map_nil]); first | done | rfl | (simp only [List.length_drop, List.length_take]; rfl)) ?_; (with_reducible refine (commonholdref_Keyed.calls k _ _ l0 t117 t118 _ ?side1 ?side2 A4.out).mono ?_); (case side1 => repeat (first | exact (Kd.C_below HR0.out HB.out) | (with_reducible refine Kd.C_alloc ?_ _) | (with_reducible refine Kd.C_drewN ?_ _) | (with_reducible refine Kd.C_drew ?_))); (case side2 => exact HC0.out); rintro e w16 ⟨v119, rfl, ho0, hb⟩; refine ⟨_, rfl, ?_⟩; have n0_ := Aside0.mk (Kd.R_below (by (with_reducible repeat (first | apply Kd.R_alloc | apply Kd.R_drewN | apply Kd.R_drew)); exact HO112.out) hb); have n1_ := Aside0.mk (Kd.R_elder' (by (with_reducible repeat (first | apply Kd.R_alloc | apply Kd.R_drewN | apply Kd.R_drew)); exact HO116.out) (Kd.R_base ho0) hb); have n2_ := Aside0.mk (Kd.R_lower (Kd.R_new' ho0 (Kd.R_lt (by (with_reducible repeat (first | apply Kd.R_alloc | apply Kd.R_drewN | apply Kd.R_drew)); exact HO116.out))) (below_size (by repeat (first | (with_reducible first | exact HB.out | apply below_alloc | apply pw_below_drewN | apply below_drew1) | exact HB.out)))); have n3_ := Aside0.mk (below_step (by repeat (first | (with_reducible first | exact HB.out | apply below_alloc | apply pw_below_drewN | apply below_drew1) | exact HB.out)) hb); clear HO112; clear HO116; clear HB; have HO112 := n0_; have HO116 := n1_; have HO120 := n2_; have HB := n3_; clear n0_ n1_ n2_ n3_; (try clear hb); (try clear hb2); (try clear hk); (try clear hi); (try clear ho0); obtain ⟨Ao17, co17, eo17⟩ := Kd.R_slice HO116.out; subst eo17; obtain ⟨Ao18, co18, eo18⟩ := Kd.R_slice HO120.out; subst eo18) | ((with_reducible refine gate_callee (f := 25) rfl ?_); refine goesL_ (some 20) rfl rfl Tryd.func25 (by kernel_rfl) rfl #[.slice Ao17 t113.length co17, .slice Ao18 t117.length co18] rfl (by (try simp only [List.map_toArray, List.map_cons, List.map_nil]); first | done | rfl | (simp only [List.length_drop, List.length_take]; rfl)) ?_; (with_reducible refine (commonholdlaw_sameBytes.calls k _ _ t113 _ _ t117 false _ ?side1 ?side2 ?side3 ?side4 A5.out).mono ?_); (case side1 => repeat (first | exact (Kd.R_reads' HO116.out).2.2 | (with_reducible refine Kd.C_alloc ?_ _) | (with_reducible refine Kd.C_drewN ?_ _) | (with_reducible refine Kd.C_drew ?_))); (case side2 => exact (Kd.R_reads' HO116.out).2.1); (case side3 => repeat (first | exact (Kd.R_reads' HO120.out).2.2 | (with_reducible refine Kd.C_alloc ?_ _) | (with_reducible refine Kd.C_drewN ?_ _) | (with_reducible refine Kd.C_drew ?_))); (case side4 => exact (Kd.R_reads' HO120.out).2.1); rintro e w' ⟨rfl, ⟨nd, rfl⟩⟩; refine ⟨_, rfl, ?_⟩))
      go_ret
      exact ⟨by first | rfl | (simp [errW_none, errW_some] <;> rfl) | (simp [*, errW_none, errW_some] <;> rfl), by repeat (first | (with_reducible first | exact HB.out | apply below_alloc | apply pw_below_drewN | apply below_drew1) | exact HB.out)⟩
  · rw [if_neg c2] at H
    exact absurd H (by simp)

def gd23 (x_ : S23) : Prop := (fun n_ : Int => (Lit.int .i64 n_).wf = true) x_.f0 ∧ (fun n_ : Int => (Lit.int .i64 n_).wf = true) x_.f1 ∧ (fun s_ : ByteArray => s_.size ≤ 9223372036854775807) x_.f2
def zd23 (x_ : S23) : Prop := (fun _ : Int => True) x_.f0 ∧ (fun _ : Int => True) x_.f1 ∧ (fun s_ : ByteArray => s_.size ≤ 140737488351232) x_.f2
def bd23 (x_ : S23) : Nat := ((fun _ : Int => 1) x_.f0 + ((fun _ : Int => 1) x_.f1 + (fun s_ : ByteArray => s_.size + 1) x_.f2)) + 1
/-- THE ONE PURE STATEMENT of commonholdlaw_KeyEncodes. -/
def commonholdlaw_KeyEncodes.Pure : Prop := ∀ (a0 : List (S23)), (fun xs_ : List (S23) => xs_.length ≤ 9223372036854775807 ∧ ∀ x_ ∈ xs_, gd23 x_) a0 → (fun xs_ : List (S23) => xs_.length * 32 ≤ 140737488351232 ∧ ∀ x_ ∈ xs_, zd23 x_) a0 → ∃ k, commonholdlaw_KeyEncodes.f k a0 = some true

end Go.Proofs.YtdepkigheacdnaaDoor.PKeyEncodes
