-- Written by wip/pp of this repo (over the kit's print, with additions of this session); Lean checks every line.
import Derived.Test.YtdepkigheacdnaaDoorPRowSpansx0
import Derived.Test.YtdepkigheacdnaaDoorPRowSpansx2
import Derived.Test.YtdepkigheacdnaaDoorPRowSpansx5
namespace Go.Proofs.YtdepkigheacdnaaDoor.PRowSpans
open Go.RowKit Go.Proofs.YtdepkigheacdnaaDoorW.PrintWords Go.Proofs.YtdepkigheacdnaaDoorW.PrintLast Go.Proofs.YtdepkigheacdnaaDoorW.PrintMore
attribute [local go_sem] max2_int min2_int max_two min_two max_three min_three max_four min_four   -- for this text's walks alone
set_option linter.unusedVariables false
set_option linter.unusedSimpArgs false

/-! ### commonholdref_Keyed: function 24, by hand -/
-- HAND rounds=1 making=1 after=49 imports=Derived.Laws.Cover3,Derived.Deep.RegionLaw
-- INFO 5
def commonholdref_Keyed.faults (k : Nat) : List S23 → Option Int
  | [] => some 0
  | x :: r => (commonholdref_ValueFault.f k x.f0 x.f1 x.f2).bind fun e => if e = 0 then commonholdref_Keyed.faults k r else some e
def commonholdref_Keyed.encs (l : List S23) : List Int := l.flatMap fun x => key_grow.enc x.f0 x.f1 x.f2
def commonholdref_Keyed.f (k : Nat) (l : List S23) : Option (List Int × Int) := if (l.length : Int) > 14 then some ([], 1) else (commonholdref_Keyed.faults k l).bind fun e => if e = 0 then (if (commonholdref_Keyed.encs l).length < 140737488355328 then some (commonholdref_Keyed.encs l, 0) else none) else some ([], e)
theorem commonholdref_Keyed.mono_faults : ∀ (l : List S23) (k : Nat), LeO (commonholdref_Keyed.faults k l) (commonholdref_Keyed.faults (k + 1) l)
  | [], _ => LeO.refl _
  | x :: r, k => by
    intro q h
    unfold commonholdref_Keyed.faults at h ⊢
    obtain ⟨e, he, h⟩ := Option.bind_eq_some_iff.1 h
    rw [commonholdref_ValueFault.mono _ _ _ _ _ he, Option.bind_some]
    split at h
    · rename_i h0
      rw [if_pos h0]
      exact commonholdref_Keyed.mono_faults r k _ h
    · rename_i h0
      rw [if_neg h0]
      exact h
theorem commonholdref_Keyed.mono : ∀ a0 k, LeO (commonholdref_Keyed.f k a0) (commonholdref_Keyed.f (k + 1) a0) := by
  intro l k
  unfold commonholdref_Keyed.f
  split
  · exact LeO.refl _
  · intro q h
    obtain ⟨e, he, h⟩ := Option.bind_eq_some_iff.1 h
    rw [commonholdref_Keyed.mono_faults _ _ _ he, Option.bind_some]
    exact h
theorem commonholdref_Keyed.encs_take (l : List S23) (j : Nat) (h : j < l.length) : commonholdref_Keyed.encs (l.take (j + 1)) = commonholdref_Keyed.encs (l.take j) ++ key_grow.enc l[j].f0 l[j].f1 l[j].f2 := by
  rw [List.take_succ_eq_append_getElem h, commonholdref_Keyed.encs, List.flatMap_append]
  simp [commonholdref_Keyed.encs]
theorem commonholdref_Keyed.encs_le (l : List S23) (j : Nat) : (commonholdref_Keyed.encs (l.take j)).length ≤ (commonholdref_Keyed.encs l).length := by
  have h : (commonholdref_Keyed.encs (l.take j) ++ commonholdref_Keyed.encs (l.drop j)).length = (commonholdref_Keyed.encs l).length := by
    unfold commonholdref_Keyed.encs
    rw [← List.flatMap_append, List.take_append_drop]
  rw [List.length_append] at h
  omega
/-- What the division leaves behind j rounds. -/
def commonholdref_Keyed.dv (n : Int) : Nat → Int
  | 0 => n
  | j + 1 => commonholdref_Keyed.dv n j / 256
theorem commonholdref_Keyed.dv_at (n : Int) : ∀ j, commonholdref_Keyed.dv n j = n / 256 ^ j
  | 0 => by simp [commonholdref_Keyed.dv]
  | j + 1 => by
    rw [commonholdref_Keyed.dv, commonholdref_Keyed.dv_at n j, Int.ediv_ediv_of_nonneg (Int.pow_nonneg (by omega)), Int.pow_succ]
theorem commonholdref_Keyed.dv_pos {n : Int} (h : 0 ≤ n) (j : Nat) : 0 ≤ commonholdref_Keyed.dv n j := by
  rw [commonholdref_Keyed.dv_at]
  exact Int.ediv_nonneg h (Int.pow_nonneg (by omega))
theorem commonholdref_Keyed.dv_step {n : Int} (h : 0 ≤ n) (h1 : n < 18446744073709551616) (j : Nat) : IntKind.u64.wrap ((commonholdref_Keyed.dv n j).tdiv 256) = commonholdref_Keyed.dv n (j + 1) := by
  have hp := commonholdref_Keyed.dv_pos h j
  have hl : commonholdref_Keyed.dv n j ≤ n := by
    rw [commonholdref_Keyed.dv_at]
    exact Int.ediv_le_self _ h
  rw [Int.tdiv_eq_ediv_of_nonneg hp, IntKind.wrap_u64, commonholdref_Keyed.dv]
  omega
/-- A block's cells, read as a row. -/
theorem commonholdref_Keyed.lits {w : World} {b t : Nat} {fr : Nat × Nat} {cs : List Int} (h : w.heap[b]? = some (.cells (cs.map (Value.int .u8)).toArray t fr)) (hl : cs.length ≤ 9223372036854775807 := by simp) :
    ReadsRow ((Kd.int .u8).K w) (Kd.int .u8).sz w (some ⟨b, 0, none⟩) cs.length cs := by
  refine ⟨rfl, hl, fun _ => ⟨_, rfl, fun j q hq => ⟨[.int .u8 q], rfl, rfl, fun i u hu => ?_⟩⟩⟩
  obtain rfl : i = 0 := by
    rcases i with _ | i
    · rfl
    · simp at hu
  obtain rfl : Value.int .u8 q = u := by simpa using hu
  rw [show (⟨b, 0, none⟩ : Addr).add (j * (Kd.int .u8).sz + 0) = ⟨b, j, none⟩ from by rw [add_plain]; show (⟨_, j * 1 + 0, none⟩ : Addr) = _; simp]
  simp [World.cell?, h, hq]
def commonholdref_Keyed.digs (n : Int) : Nat → Array Value
  | 0 => #[.int .u8 0, .int .u8 0, .int .u8 0, .int .u8 0, .int .u8 0, .int .u8 0, .int .u8 0, .int .u8 0]
  | 1 => #[.int .u8 0, .int .u8 0, .int .u8 0, .int .u8 0, .int .u8 0, .int .u8 0, .int .u8 0, .int .u8 (commonholdref_Keyed.dv n 0 % 256)]
  | 2 => #[.int .u8 0, .int .u8 0, .int .u8 0, .int .u8 0, .int .u8 0, .int .u8 0, .int .u8 (commonholdref_Keyed.dv n 1 % 256), .int .u8 (commonholdref_Keyed.dv n 0 % 256)]
  | 3 => #[.int .u8 0, .int .u8 0, .int .u8 0, .int .u8 0, .int .u8 0, .int .u8 (commonholdref_Keyed.dv n 2 % 256), .int .u8 (commonholdref_Keyed.dv n 1 % 256), .int .u8 (commonholdref_Keyed.dv n 0 % 256)]
  | 4 => #[.int .u8 0, .int .u8 0, .int .u8 0, .int .u8 0, .int .u8 (commonholdref_Keyed.dv n 3 % 256), .int .u8 (commonholdref_Keyed.dv n 2 % 256), .int .u8 (commonholdref_Keyed.dv n 1 % 256), .int .u8 (commonholdref_Keyed.dv n 0 % 256)]
  | 5 => #[.int .u8 0, .int .u8 0, .int .u8 0, .int .u8 (commonholdref_Keyed.dv n 4 % 256), .int .u8 (commonholdref_Keyed.dv n 3 % 256), .int .u8 (commonholdref_Keyed.dv n 2 % 256), .int .u8 (commonholdref_Keyed.dv n 1 % 256), .int .u8 (commonholdref_Keyed.dv n 0 % 256)]
  | 6 => #[.int .u8 0, .int .u8 0, .int .u8 (commonholdref_Keyed.dv n 5 % 256), .int .u8 (commonholdref_Keyed.dv n 4 % 256), .int .u8 (commonholdref_Keyed.dv n 3 % 256), .int .u8 (commonholdref_Keyed.dv n 2 % 256), .int .u8 (commonholdref_Keyed.dv n 1 % 256), .int .u8 (commonholdref_Keyed.dv n 0 % 256)]
  | 7 => #[.int .u8 0, .int .u8 (commonholdref_Keyed.dv n 6 % 256), .int .u8 (commonholdref_Keyed.dv n 5 % 256), .int .u8 (commonholdref_Keyed.dv n 4 % 256), .int .u8 (commonholdref_Keyed.dv n 3 % 256), .int .u8 (commonholdref_Keyed.dv n 2 % 256), .int .u8 (commonholdref_Keyed.dv n 1 % 256), .int .u8 (commonholdref_Keyed.dv n 0 % 256)]
  | _ => #[.int .u8 (commonholdref_Keyed.dv n 7 % 256), .int .u8 (commonholdref_Keyed.dv n 6 % 256), .int .u8 (commonholdref_Keyed.dv n 5 % 256), .int .u8 (commonholdref_Keyed.dv n 4 % 256), .int .u8 (commonholdref_Keyed.dv n 3 % 256), .int .u8 (commonholdref_Keyed.dv n 2 % 256), .int .u8 (commonholdref_Keyed.dv n 1 % 256), .int .u8 (commonholdref_Keyed.dv n 0 % 256)]
theorem commonholdref_Keyed.bytes8 (n : Int) : key_grow.bytes n 8 = [commonholdref_Keyed.dv n 7 % 256, commonholdref_Keyed.dv n 6 % 256, commonholdref_Keyed.dv n 5 % 256, commonholdref_Keyed.dv n 4 % 256, commonholdref_Keyed.dv n 3 % 256, commonholdref_Keyed.dv n 2 % 256, commonholdref_Keyed.dv n 1 % 256, commonholdref_Keyed.dv n 0 % 256] := by
  simp only [key_grow.bytes, commonholdref_Keyed.dv_at]
  simp [List.range_succ, key_grow.byte]
theorem commonholdref_Keyed.at_alloc (w : World) (o1 o2 : Obj) : ((w.alloc o1).alloc o2).heap[w.heap.size + 1]? = some o2 := by
  have h : ((w.heap.push o1).push o2)[w.heap.size + 1]? = some o2 := by
    rw [show w.heap.size + 1 = (w.heap.push o1).size by simp, Array.getElem?_push_size]
  exact h
theorem commonholdref_Keyed.at_old (w : World) (o : Obj) (j : Nat) (hj : j < w.heap.size) : (w.alloc o).heap[j]? = w.heap[j]? := by
  have h : (w.heap.push o)[j]? = w.heap[j]? := by
    rw [Array.getElem?_push, if_neg (by omega)]
  exact h
theorem commonholdref_Keyed.at_alloc1 (w : World) (o1 : Obj) : (w.alloc o1).heap[w.heap.size]? = some o1 := by
  have h : (w.heap.push o1)[w.heap.size]? = some o1 := by simp
  exact h
theorem commonholdref_Keyed.xor63 (m : Nat) (h : m < 9223372036854775808) : 9223372036854775808 + m = 9223372036854775808 ^^^ m := by
  have e := Nat.two_pow_add_eq_or_of_lt (i := 63) (b := m) (by simpa using h)
  have e1 := e 1
  rw [show (2 : Nat) ^ 63 = 9223372036854775808 from rfl, Nat.mul_one] at e1
  rw [e1]
  apply Nat.eq_of_testBit_eq
  intro i
  rw [Nat.testBit_or, Nat.testBit_xor, show (9223372036854775808 : Nat) = 2 ^ 63 from rfl, Nat.testBit_two_pow]
  by_cases hi : 63 = i
  · subst hi
    rw [Nat.testBit_lt_two_pow (by simpa using h)]
    simp
  · simp [hi]
theorem commonholdref_Keyed.xor_add (m : Int) (h0 : 0 ≤ m) (h1 : m < 18446744073709551616) : Go.bits .xor .u64 m 9223372036854775808 = IntKind.u64.wrap (m + 9223372036854775808) := by
  rw [IntKind.wrap_u64 (m + 9223372036854775808)]
  obtain ⟨n, rfl⟩ := Int.eq_ofNat_of_zero_le h0
  show IntKind.u64.wrap ((BitVec.ofInt 64 ((n : Nat) : Int) ^^^ BitVec.ofInt 64 ((9223372036854775808 : Nat) : Int)).toNat : Int) = _
  rw [BitVec.ofInt_natCast, BitVec.ofInt_natCast, BitVec.toNat_xor, BitVec.toNat_ofNat, BitVec.toNat_ofNat, Nat.mod_eq_of_lt (by omega), Nat.mod_eq_of_lt (by omega)]
  by_cases hn : n < 9223372036854775808
  · rw [Nat.xor_comm, ← commonholdref_Keyed.xor63 n hn, IntKind.wrap_u64]
    omega
  · obtain ⟨m, rfl⟩ : ∃ m, n = 9223372036854775808 + m := ⟨n - 9223372036854775808, by omega⟩
    rw [commonholdref_Keyed.xor63 m (by omega), Nat.xor_comm, ← Nat.xor_assoc, Nat.xor_self, Nat.zero_xor, ← commonholdref_Keyed.xor63 m (by omega), IntKind.wrap_u64]
    omega
theorem commonholdref_Keyed.at_ {w : World} {A : Option Addr} {l : List S23} (h : Kd.C k23 w A l.length l) (h0 : 0 < l.length) : ∃ b o, A = some ⟨b, o, none⟩ ∧ ∀ (i : Nat) (hi : i < l.length),
    w.cell? ⟨b, o + i * 3, none⟩ = some (.int .i64 l[i].f0) ∧ w.cell? ⟨b, o + i * 3 + 1, none⟩ = some (.int .i64 l[i].f1) ∧ w.cell? ⟨b, o + i * 3 + 2, none⟩ = some (.string l[i].f2) := by
  obtain ⟨ad, rfl, g0, _⟩ := at_T23 h 0 (by omega) (by omega)
  have hs : ad.spot = none := by
    cases hsp : ad.spot with
    | none => rfl
    | some s =>
      exfalso
      rw [show ad.add ((0 : Int).toNat * 3) = ad from by simp [Addr.add]] at g0
      unfold World.cell? at g0
      split at g0
      · rw [hsp] at g0
        simp at g0
      · cases g0
  obtain ⟨b, o, sp⟩ := ad
  dsimp only at hs
  subst hs
  refine ⟨b, o, rfl, fun i hi => ?_⟩
  obtain ⟨ad, e, g0, g1, g2⟩ := at_T23 h (i : Int) (by omega) (by omega)
  cases e
  have ee : rd_T23 l (i : Int) = l[i] := by simp [rd_T23, List.getD_eq_getElem?_getD, hi]
  have ha : (⟨b, o, none⟩ : Addr).add ((i : Int).toNat * 3) = ⟨b, o + i * 3, none⟩ := by rw [Int.toNat_natCast]; unfold Addr.add; split <;> simp_all
  rw [ee] at g0 g1 g2
  rw [ha] at g0 g1 g2
  exact ⟨g0, g1, g2⟩
set_option maxRecDepth 100000 in
set_option maxHeartbeats 8000000 in
theorem commonholdref_Keyed.calls (k : Nat) (A0 : Option Addr) (c0 : Nat) (l0 : List S23) (r1 : List Int) (r2 : Int) (w : World) (hr0 : Kd.C k23 w A0 l0.length l0) (hc0 : l0.length ≤ c0) (h : commonholdref_Keyed.f k l0 = some (r1, r2)) :
    Calls Tryd.prog 24 #[.slice A0 l0.length c0] w fun e w' => ∃ v0_ : Value, e = .returned (.tuple #[v0_, .int .i64 r2]) ∧ Kd.R (Kd.int .u8) 5 w' w.heap.size (fun _ => True) v0_ r1 ∧ Below w.heap.size w w' := by
  have hm := hr0.2.1
  have HR := Aside0.mk hr0
  clear hr0
  unfold commonholdref_Keyed.f at h
  by_cases hbig : (l0.length : Int) > 14
  · rw [if_pos hbig] at h
    obtain ⟨rfl, rfl⟩ : r1 = [] ∧ r2 = 1 := by simpa [eq_comm] using h
    clear h
    go_enter Tryd.func24, Tryd.ntmps24
    go_wp2
    go_ret2
    exact ⟨_, rfl, Kd.R_nil _ _ _ _ _, Below.refl _ _⟩
  rw [if_neg hbig] at h
  obtain ⟨e0, hf, h⟩ := Option.bind_eq_some_iff.1 h
  have HF := Aside0.mk hf
  have HG := Aside0.mk h
  clear hf h
  go_enter Tryd.func24, Tryd.ntmps24
  go_wp2
  go_loopw [5, 6, 19] (fun _ _ i wr => ∃ j : Nat, j ≤ l0.length ∧ i = .int .i64 j ∧ Aside0 (commonholdref_Keyed.faults k (l0.drop j) = some e0) ∧ Aside0 (Below w.heap.size w wr)) (fun _ _ i _ => l0.length - (intOf i).toNat)
  case atStart => exact ⟨0, by omega, rfl, HF, ⟨Below.refl _ _⟩⟩
  case round =>
    clear HF
    obtain ⟨j, hj, rfl, HS, HB⟩ := hrel
    by_cases hlt : j < l0.length
    · obtain ⟨b, o, rfl, hcs⟩ := commonholdref_Keyed.at_ HR.out (by omega)
      obtain ⟨p0, p1, p2⟩ := hcs j hlt
      have hg := HS.out
      rw [List.drop_eq_getElem_cons hlt, commonholdref_Keyed.faults] at hg
      obtain ⟨c, hck, hg2⟩ := Option.bind_eq_some_iff.1 hg
      clear hg HS hcs
      generalize l0[j] = x at *
      replace p0 := pw_cell_below HB.out p0
      replace p1 := pw_cell_below HB.out p1
      replace p2 := pw_cell_below HB.out p2
      have HCK := Aside0.mk hck
      clear hck
      by_cases hc : c = 0
      · subst hc
        rw [if_pos rfl] at hg2
        have HS := Aside0.mk hg2
        clear hg2
        go_wp2_with (go_at_call 16; refine (commonholdref_ValueFault.calls k x.f0 x.f1 x.f2 0 _ HCK.out).mono ?_; rintro e w1 ⟨rfl, hb⟩; have HB1 := Aside0.mk ((below_alloc HB.out _).trans (hb.mono (below_alloc HB.out _).size)); clear hb)
        go_roundw
        case rel => exact ⟨j + 1, by omega, by go_num, HS, HB1⟩
        case measure => simp [intOf]; omega
      · rw [if_neg hc] at hg2
        obtain rfl := Option.some.inj hg2
        have hh := HG.out
        rw [if_neg hc] at hh
        obtain ⟨rfl, rfl⟩ : r1 = [] ∧ r2 = c := by simpa [eq_comm] using hh
        have hq : (r2 != 0) = true := by simpa using hc
        clear hg2 hh
        go_wp2_with (go_at_call 16; refine (commonholdref_ValueFault.calls k x.f0 x.f1 x.f2 r2 _ HCK.out).mono ?_; rintro e w1 ⟨rfl, hb⟩; have HB1 := Aside0.mk ((below_alloc HB.out _).trans (hb.mono (below_alloc HB.out _).size)); clear hb)
        go_ret2
        exact ⟨_, rfl, Kd.R_nil _ _ _ _ _, HB1.out⟩
    · obtain rfl : j = l0.length := by omega
      have hg := HS.out
      rw [List.drop_length, commonholdref_Keyed.faults] at hg
      obtain rfl := Option.some.inj hg
      clear hg HS
      have hh := HG.out
      rw [if_pos rfl] at hh
      split at hh
      case isFalse => cases hh
      rename_i hlm
      obtain ⟨rfl, rfl⟩ : r1 = commonholdref_Keyed.encs l0 ∧ r2 = 0 := by simpa [eq_comm] using hh
      have LM := Aside0.mk hlm
      clear hh hlm HG
      go_wp2
      go_loopw [7, 9, 10, 11, 12, 13, 32] (fun o _ _ _ _ _ i wr => ∃ j : Nat, j ≤ l0.length ∧ i = .int .i64 j ∧ Aside0 (Kd.R (Kd.int .u8) 5 wr w.heap.size (fun _ => True) o (commonholdref_Keyed.encs (l0.take j))) ∧ Aside0 (Below w.heap.size w wr)) (fun _ _ _ _ _ _ i _ => l0.length - (intOf i).toNat)
      case atStart => exact ⟨0, by omega, rfl, ⟨⟨fun _ _ => trivial, [], World.ownsRow_made wr #[] 0 (below_size HB.out) (Nat.zero_le _) (by simp), Reps.none _ _⟩⟩, ⟨below_alloc HB.out _⟩⟩
      case round =>
        clear HB
        obtain ⟨j, hj, rfl, HO, HB⟩ := hrel
        by_cases hlt : j < l0.length
        · obtain ⟨b, o, rfl, hcs⟩ := commonholdref_Keyed.at_ HR.out (by omega)
          obtain ⟨p0, p1, p2⟩ := hcs j hlt
          clear hcs
          have hes := commonholdref_Keyed.encs_take l0 j hlt
          have hle := commonholdref_Keyed.encs_le l0 (j + 1)
          rw [hes, List.length_append] at hle
          have LX := Aside0.mk (show (commonholdref_Keyed.encs (l0.take j)).length + (key_grow.enc l0[j].f0 l0[j].f1 l0[j].f2).length < 140737488355328 by have h_ := LM.out; omega)
          have HES := Aside0.mk hes
          clear hes hle
          generalize l0[j] = x at *
          generalize commonholdref_Keyed.encs (l0.take j) = ys at *
          replace p0 := pw_cell_below HB.out p0
          replace p1 := pw_cell_below HB.out p1
          replace p2 := pw_cell_below HB.out p2
          by_cases h0 : x.f0 = 0
          · have he : key_grow.enc x.f0 x.f1 x.f2 = [1] := by rw [h0]; rfl
            rw [he] at LX HES
            rw [h0] at p0
            have LY := Aside0.mk (show ys.length + 1 < 140737488355328 from LX.out)
            clear LX he
            go_wp2_with (at_builtin; refine Kd.R_append (Kd.int .u8) (w0 := w) w.heap.size rfl _ _ 34 5 (.int .u8 0) 1 rfl Tryd.underlying34 info5 rfl (by decide) (by omega) u7 (ys) ?np1 _ (fun _ => True) (fun _ => False) rfl ?hx ?aP (fun _ hk => hk.elim) ?aF ?aO ?aB ?aS ?aL ?_; (case aP => exact rfl); (case hx => first | exact rfl | (simp [go_sem]; done)); (case aO => (with_reducible repeat (first | apply Kd.R_alloc | apply Kd.R_drewN | apply Kd.R_drew)); exact HO.out); (case aB => exact (by repeat (first | (with_reducible first | exact HB.out | apply below_alloc | apply pw_below_drewN | apply below_drew1) | exact HB.out))); (case aF => exact (fun _ _ => trivial)); (case aS => exact (below_size (by repeat (first | (with_reducible first | exact HB.out | apply below_alloc | apply pw_below_drewN | apply below_drew1) | exact HB.out)))); (case aL => have := LY.out; omega); intro v1 w1 ho hb hg hat; have n0_ := Aside0.mk hb; have n1_ := Aside0.mk ho; clear HB; clear HO; have HB := n0_; have HO := n1_; clear n0_ n1_; clear ho hb hg hat)
            go_roundw
            case rel => exact ⟨j + 1, by omega, by go_num, ⟨by rw [HES.out]; exact HO.out⟩, HB⟩
            case measure => simp [intOf]; omega
          by_cases h1 : x.f0 = 1
          · have he : key_grow.enc x.f0 x.f1 x.f2 = [(2 + x.f1) % 256] := by rw [h1]; rfl
            rw [he] at LX HES
            rw [h1] at p0
            have LY := Aside0.mk (show ys.length + 1 < 140737488355328 from LX.out)
            clear LX he
            go_wp2_with (at_builtin; refine Kd.R_append (Kd.int .u8) (w0 := w) w.heap.size rfl _ _ 34 5 (.int .u8 0) 1 rfl Tryd.underlying34 info5 rfl (by decide) (by omega) u7 (ys) ?np2 _ (fun _ => True) (fun _ => False) rfl ?hx ?aP (fun _ hk => hk.elim) ?aF ?aO ?aB ?aS ?aL ?_; (case aP => exact rfl); (case hx => first | exact rfl | (simp [go_sem]; done)); (case aO => (with_reducible repeat (first | apply Kd.R_alloc | apply Kd.R_drewN | apply Kd.R_drew)); exact HO.out); (case aB => exact (by repeat (first | (with_reducible first | exact HB.out | apply below_alloc | apply pw_below_drewN | apply below_drew1) | exact HB.out))); (case aF => exact (fun _ _ => trivial)); (case aS => exact (below_size (by repeat (first | (with_reducible first | exact HB.out | apply below_alloc | apply pw_below_drewN | apply below_drew1) | exact HB.out)))); (case aL => have := LY.out; omega); intro v2 w2 ho hb hg hat; have n0_ := Aside0.mk hb; have n1_ := Aside0.mk ho; clear HB; clear HO; have HB := n0_; have HO := n1_; clear n0_ n1_; clear ho hb hg hat)
            go_roundw
            case rel => exact ⟨j + 1, by omega, by go_num, ⟨by rw [HES.out, show (2 + x.f1) % 256 = wrap64 (2 + x.f1) % 256 by unfold wrap64; omega]; exact HO.out⟩, HB⟩
            case measure => simp [intOf]; omega
          by_cases h2 : x.f0 = 2
          · have he : key_grow.enc x.f0 x.f1 x.f2 = 4 :: key_grow.bytes (IntKind.u64.wrap (IntKind.u64.wrap x.f1 + 9223372036854775808)) 8 := by rw [h2, ← commonholdref_Keyed.xor_add _ (by rw [IntKind.wrap_u64]; omega) (by rw [IntKind.wrap_u64]; omega)]; rfl
            rw [he] at LX HES
            rw [h2] at p0
            have LY := Aside0.mk (show ys.length + 9 < 140737488355328 by have h_ := LX.out; rw [List.length_cons, key_grow.bytes_length] at h_; exact h_)
            clear LX he
            have hn0 := wrap_u64_nonneg (IntKind.u64.wrap x.f1 + 9223372036854775808)
            have hn1 : IntKind.u64.wrap (IntKind.u64.wrap x.f1 + 9223372036854775808) < 18446744073709551616 := by rw [IntKind.wrap_u64 (IntKind.u64.wrap x.f1 + 9223372036854775808)]; omega
            go_wp2
            generalize hN : IntKind.u64.wrap (IntKind.u64.wrap x.f1 + 9223372036854775808) = n at *
            go_loopw [10, 12] (fun nn i W => ∃ q : Nat, q ≤ 8 ∧ i = .int .i64 (7 - (q : Int)) ∧ nn = .int .u64 (commonholdref_Keyed.dv n q) ∧ Aside0 (W = (wr.alloc (.cells #[.int .i64 2, .int .i64 x.f1, .string x.f2] 23)).alloc (.cells (commonholdref_Keyed.digs n q) 65))) (fun _ i _ => (intOf i + 1).toNat)
            case atStart => exact ⟨0, by omega, rfl, rfl, ⟨rfl⟩⟩
            case round =>
              obtain ⟨q, hq, rfl, rfl, HW⟩ := hrel
              obtain rfl := HW.out
              clear HW
              have hdq := commonholdref_Keyed.dv_pos hn0 q
              have hq' : q = 0 ∨ q = 1 ∨ q = 2 ∨ q = 3 ∨ q = 4 ∨ q = 5 ∨ q = 6 ∨ q = 7 ∨ q = 8 := by omega
              rcases hq' with rfl | rfl | rfl | rfl | rfl | rfl | rfl | rfl | rfl
              · go_wp2
                go_roundw
                case rel => exact ⟨1, by omega, by go_num, by rw [commonholdref_Keyed.dv_step hn0 hn1], ⟨by simp [go_sem, commonholdref_Keyed.digs]⟩⟩
                case measure => simp [intOf]
              · go_wp2
                go_roundw
                case rel => exact ⟨2, by omega, by go_num, by rw [commonholdref_Keyed.dv_step hn0 hn1], ⟨by simp [go_sem, commonholdref_Keyed.digs]⟩⟩
                case measure => simp [intOf]
              · go_wp2
                go_roundw
                case rel => exact ⟨3, by omega, by go_num, by rw [commonholdref_Keyed.dv_step hn0 hn1], ⟨by simp [go_sem, commonholdref_Keyed.digs]⟩⟩
                case measure => simp [intOf]
              · go_wp2
                go_roundw
                case rel => exact ⟨4, by omega, by go_num, by rw [commonholdref_Keyed.dv_step hn0 hn1], ⟨by simp [go_sem, commonholdref_Keyed.digs]⟩⟩
                case measure => simp [intOf]
              · go_wp2
                go_roundw
                case rel => exact ⟨5, by omega, by go_num, by rw [commonholdref_Keyed.dv_step hn0 hn1], ⟨by simp [go_sem, commonholdref_Keyed.digs]⟩⟩
                case measure => simp [intOf]
              · go_wp2
                go_roundw
                case rel => exact ⟨6, by omega, by go_num, by rw [commonholdref_Keyed.dv_step hn0 hn1], ⟨by simp [go_sem, commonholdref_Keyed.digs]⟩⟩
                case measure => simp [intOf]
              · go_wp2
                go_roundw
                case rel => exact ⟨7, by omega, by go_num, by rw [commonholdref_Keyed.dv_step hn0 hn1], ⟨by simp [go_sem, commonholdref_Keyed.digs]⟩⟩
                case measure => simp [intOf]
              · go_wp2
                go_roundw
                case rel => exact ⟨8, by omega, by go_num, by rw [commonholdref_Keyed.dv_step hn0 hn1], ⟨by simp [go_sem, commonholdref_Keyed.digs]⟩⟩
                case measure => simp [intOf]
              · have HD : ((wr.alloc (.cells #[.int .i64 2, .int .i64 x.f1, .string x.f2] 23)).alloc (.cells (commonholdref_Keyed.digs n 8) 65)).heap[wr.heap.size + 1]? = some (.cells ((key_grow.bytes n 8).map (Value.int .u8)).toArray 65 (0, 0)) := by rw [commonholdref_Keyed.bytes8]; exact commonholdref_Keyed.at_alloc wr _ _
                have HO2 := Aside0.mk (Kd.R_mono (Kd.R_bound (Kd.R_alloc (Kd.R_alloc (Kd.R_mono (Kd.R_bound HO.out) (fun k hk => show k ≠ wr.heap.size + 1 by have := hk.2.2.1; omega)) (.cells #[.int .i64 2, .int .i64 x.f1, .string x.f2] 23)) (.cells (commonholdref_Keyed.digs n 8) 65))) (fun k hk => hk.1))
                have HB2 := Aside0.mk (below_alloc (below_alloc HB.out (.cells #[.int .i64 2, .int .i64 x.f1, .string x.f2] 23)) (.cells (commonholdref_Keyed.digs n 8) 65))
                have GT : wr.heap.size + 1 < ((wr.alloc (.cells #[.int .i64 2, .int .i64 x.f1, .string x.f2] 23)).alloc (.cells (commonholdref_Keyed.digs n 8) 65)).heap.size := by simp
                generalize hW : (wr.alloc (.cells #[.int .i64 2, .int .i64 x.f1, .string x.f2] 23)).alloc (.cells (commonholdref_Keyed.digs n 8) 65) = W at *
                have HDA := Aside0.mk HD
                have GTA := Aside0.mk GT
                clear hW HD GT HO HB
                go_wp2
                go_region_law (first
                  | (refine Kd.R_append_rows_step (Kd.int .u8) (w0 := w) w.heap.size (by simp [Region.wanted]) (.tmp 70) (.tmp 71) 34 5 (.int .u8 0) 1 rfl Tryd.underlying34 info5 rfl (by decide) (by omega) u7 ys [4] (some ⟨W.heap.size, 0, none⟩) 1 1 (fun k_ => k_ ≠ wr.heap.size + 1) (fun _ => False) rfl ?hx ?aO ?aR (fun _ _ h => h) (fun _ h => h.elim) ?aF ?aB ?aS ?aL ?_; (case hx => first | exact rfl | (simp [go_sem]; done)); (case aO => (with_reducible repeat (first | apply Kd.R_alloc | apply Kd.R_drewN | apply Kd.R_drew)); exact HO2.out); (case aR => exact commonholdref_Keyed.lits (cs := [4]) (t := 5) (fr := (0, 0)) (commonholdref_Keyed.at_alloc1 W (.cells #[.int .u8 4] 5))); (case aB => exact (by repeat (first | (with_reducible first | exact HB2.out | apply below_alloc | apply pw_below_drewN | apply below_drew1) | exact HB2.out))); (case aF => intro k_ h_; have h1_ := GTA.out; simp at h_; omega); (case aS => exact below_size (by repeat (first | (with_reducible first | exact HB2.out | apply below_alloc | apply pw_below_drewN | apply below_drew1) | exact HB2.out))); (case aL => have := LY.out; omega); intro v3 w3 ho hb hg hat; have HD3 := Aside0.mk ((hg.block (wr.heap.size + 1) (by have h_ := GTA.out; simp; omega) (fun e_ => HO2.out.1 _ e_.symm rfl)).trans ((commonholdref_Keyed.at_old W (.cells #[.int .u8 4] 5) _ GTA.out).trans HDA.out)); have HO3 := Aside0.mk ho; have HB3 := Aside0.mk hb; clear ho hb hg hat)
                  | (refine Kd.R_append_rows_step (Kd.int .u8) (w0 := w) w.heap.size (by simp [Region.wanted]) (.tmp 72) (.tmp 73) 34 5 (.int .u8 0) 1 rfl Tryd.underlying34 info5 rfl (by decide) (by omega) v3 (ys ++ [4]) (key_grow.bytes n 8) (some ⟨wr.heap.size + 1, 0, none⟩) 8 8 (fun _ => True) (fun _ => False) rfl ?hx ?aO ?aR (fun _ _ h => h) (fun _ h => h.elim) (fun _ _ => trivial) ?aB ?aS ?aL ?_; (case hx => first | exact rfl | (simp [go_sem]; done)); (case aO => first | exact Kd.R_mono HO3.out (fun _ _ => trivial) | exact Kd.R_drew (Kd.R_mono HO3.out (fun _ _ => trivial))); (case aR => exact commonholdref_Keyed.lits HD3.out (by rw [key_grow.bytes_length]; decide)); (case aB => first | exact HB3.out | exact below_drew1 HB3.out); (case aS => first | exact below_size HB3.out | (have h_ := below_size HB3.out; simpa using h_)); (case aL => have := LY.out; simp only [List.length_append, List.length_cons, List.length_nil]; omega); intro v4 w4 ho hb hg hat; have HO4 := Aside0.mk ho; have HB4 := Aside0.mk hb; clear ho hb hg hat))
                go_wp2
                go_roundw
                case rel => exact ⟨j + 1, by omega, by go_num, ⟨by rw [HES.out]; have h_ := HO4.out; rw [List.append_assoc] at h_; exact h_⟩, HB4⟩
                case measure => simp [intOf]; omega
          · have he : key_grow.enc x.f0 x.f1 x.f2 = 5 :: (key_grow.esc (bytesOf x.f2) ++ [0, 1]) := by unfold key_grow.enc; rw [if_neg h0, if_neg h1, if_neg h2]
            rw [he] at LX HES
            have LZ := Aside0.mk (show ys.length + (key_grow.esc (bytesOf x.f2)).length + 3 < 140737488355328 by have h_ := LX.out; rw [List.length_cons, List.length_append] at h_; simp at h_; omega)
            have hs : x.f2.size ≤ 140737488355328 := by
              have h_ := key_grow.esc_ge (bytesOf x.f2)
              rw [bytesOf_length] at h_
              have := LZ.out
              omega
            have q0 : (x.f0 == 0) = false := by simpa using h0
            have q1 : (x.f0 == 1) = false := by simpa using h1
            have q2 : (x.f0 == 2) = false := by simpa using h2
            have HO1 := Aside0.mk (Kd.R_mono (Kd.R_bound HO.out) (fun k hk => show k ≠ wr.heap.size from Nat.ne_of_lt hk.2.2.1))
            clear LX he HO
            have HO := HO1
            clear HO1
            generalize x.f2 = s at *
            go_wp2_with (at_builtin; refine Kd.R_append (Kd.int .u8) (w0 := w) w.heap.size rfl _ _ 34 5 (.int .u8 0) 1 rfl Tryd.underlying34 info5 rfl (by decide) (by omega) u7 (ys) ?np5 _ (fun k_ => k_ ≠ wr.heap.size) (fun _ => False) rfl ?hx ?aP (fun _ hk => hk.elim) ?aF ?aO ?aB ?aS ?aL ?_; (case aP => exact rfl); (case hx => first | exact rfl | (simp [go_sem]; done)); (case aO => (with_reducible repeat (first | apply Kd.R_alloc | apply Kd.R_drewN | apply Kd.R_drew)); exact HO.out); (case aB => exact (by repeat (first | (with_reducible first | exact HB.out | apply below_alloc | apply pw_below_drewN | apply below_drew1) | exact HB.out))); (case aF => exact (fun k_ h_ => by simp at h_; omega)); (case aS => exact (below_size (by repeat (first | (with_reducible first | exact HB.out | apply below_alloc | apply pw_below_drewN | apply below_drew1) | exact HB.out)))); (case aL => have := LZ.out; omega); intro v5 w5 ho hb hg hat; have hx1 : w5.cell? ⟨wr.heap.size, 2, none⟩ = some (.string s) := (hg.cell_far ⟨wr.heap.size, 2, none⟩ (by simp [go_sem]) (fun e_ => HO.out.1 _ e_.symm rfl)).trans (by simp [go_sem]); have GS := Aside0.mk (show wr.heap.size < w5.heap.size by have h_ := hg.size; simp at h_; omega); have n0_ := Aside0.mk hb; have n1_ := Aside0.mk ho; clear HB; clear HO; have HB := n0_; have HO := n1_; clear n0_ n1_; clear ho hb hg hat)
            obtain ⟨wo, rfl⟩ : ∃ wo : World, wo = wr := ⟨_, rfl⟩
            go_loopw [7, 13] (fun o i W => ∃ q : Nat, q ≤ s.size ∧ i = .int .i64 q ∧ W.cell? ⟨wo.heap.size, 2, none⟩ = some (.string s) ∧ Aside0 (Kd.R (Kd.int .u8) 5 W w.heap.size (fun k_ => k_ ≠ wo.heap.size) o (ys ++ [5] ++ key_grow.esc ((bytesOf s).take q))) ∧ Aside0 (Below w.heap.size w W) ∧ Aside0 (wo.heap.size < W.heap.size)) (fun _ i _ => s.size - (intOf i).toNat)
            case atStart => exact ⟨0, by omega, rfl, hx1, ⟨by rw [List.take_zero, show key_grow.esc [] = [] from rfl, List.append_nil]; exact HO.out⟩, HB, GS⟩
            case round =>
              clear HO HB GS hx1
              obtain ⟨q, hq, rfl, hx1, HO, HB, GT⟩ := hrel
              by_cases hlq : q < s.size
              · have hbl : q < (bytesOf s).length := by rw [bytesOf_length]; exact hlq
                have hxc : ∀ h : q < s.size, ((s[q]'h).toNat : Int) = (bytesOf s)[q] := by
                  intro h
                  simp [bytesOf]
                  rfl
                have hes := key_grow.esc_take (bytesOf s) q hbl
                have hle := key_grow.esc_le (bytesOf s) (q + 1)
                generalize (bytesOf s)[q] = y at *
                by_cases hx0 : y = 0
                · subst hx0
                  rw [if_pos rfl] at hes
                  rw [hes, List.length_append] at hle
                  have HE2 := Aside0.mk hes
                  have LY := Aside0.mk (show ys.length + (key_grow.esc ((bytesOf s).take q)).length + 5 < 140737488355328 by have h_ := LZ.out; simp at hle; omega)
                  clear hes hle
                  generalize key_grow.esc ((bytesOf s).take q) = z at *
                  go_wp2_with (at_builtin; refine Kd.R_append_rows (Kd.int .u8) (w0 := w) w.heap.size rfl _ _ 34 5 (.int .u8 0) 1 rfl Tryd.underlying34 info5 rfl (by decide) (by omega) u7 (ys ++ [5] ++ z) [0, 255] _ _ _ (fun k_ => k_ ≠ wo.heap.size) (fun _ => False) rfl rfl ?aO ?aR (fun _ _ h => h) (fun _ h => h.elim) ?aF ?aB ?aS ?aL ?_; (case aO => (with_reducible repeat (first | apply Kd.R_alloc | apply Kd.R_drewN | apply Kd.R_drew)); exact HO.out); (case aR => exact key_grow.lit2 (by simp [go_sem]) (by simp [go_sem])); (case aB => exact (by repeat (first | (with_reducible first | exact HB.out | apply below_alloc | apply pw_below_drewN | apply below_drew1) | exact HB.out))); (case aF => exact (fun k_ h_ => by simp at h_; have := GT.out; omega)); (case aS => exact (below_size (by repeat (first | (with_reducible first | exact HB.out | apply below_alloc | apply pw_below_drewN | apply below_drew1) | exact HB.out)))); (case aL => simp only [List.length_append, List.length_cons, List.length_nil]; have := LY.out; omega); intro v30 w30 ho hb hg hat; have hx2 : w30.cell? ⟨wo.heap.size, 2, none⟩ = some (.string s) := (hg.cell_far ⟨wo.heap.size, 2, none⟩ (by have h_ := GT.out; first | exact h_ | (simp; omega)) (fun e_ => HO.out.1 _ e_.symm rfl)).trans (by first | exact hx1 | exact (World.cell?_alloc_past _ _ _ GT.out).trans hx1); have GT_ := Aside0.mk (Nat.lt_of_lt_of_le GT.out (show wr.heap.size ≤ w30.heap.size by have h_ := hg.size; first | exact h_ | (simp at h_; omega))); clear GT; have GT := GT_; clear GT_; have n0_ := Aside0.mk hb; have n1_ := Aside0.mk ho; clear HB; clear HO; have HB := n0_; have HO := n1_; clear n0_ n1_; clear ho hb hg hat)
                  go_roundw
                  case rel => exact ⟨q + 1, by omega, by go_num, hx2, ⟨by rw [HE2.out]; have h_ := HO.out; rw [List.append_assoc (ys ++ [5])] at h_; exact h_⟩, HB, GT⟩
                  case measure => simp [intOf]; omega
                · rw [if_neg hx0] at hes
                  rw [hes, List.length_append] at hle
                  have HE2 := Aside0.mk hes
                  have LY := Aside0.mk (show ys.length + (key_grow.esc ((bytesOf s).take q)).length + 4 < 140737488355328 by have h_ := LZ.out; simp at hle; omega)
                  clear hes hle
                  generalize key_grow.esc ((bytesOf s).take q) = z at *
                  have hq0 : (y == 0) = false := by simpa using hx0
                  go_wp2_with (at_builtin; refine Kd.R_append (Kd.int .u8) (w0 := w) w.heap.size rfl _ _ 34 5 (.int .u8 0) 1 rfl Tryd.underlying34 info5 rfl (by decide) (by omega) u7 (ys ++ [5] ++ z) ?np6 _ (fun k_ => k_ ≠ wo.heap.size) (fun _ => False) rfl ?hx ?aP (fun _ hk => hk.elim) ?aF ?aO ?aB ?aS ?aL ?_; (case aP => exact rfl); (case hx => first | exact rfl | (simp [go_sem]; done)); (case aO => (with_reducible repeat (first | apply Kd.R_alloc | apply Kd.R_drewN | apply Kd.R_drew)); exact HO.out); (case aB => exact (by repeat (first | (with_reducible first | exact HB.out | apply below_alloc | apply pw_below_drewN | apply below_drew1) | exact HB.out))); (case aF => exact (fun k_ h_ => Nat.ne_of_gt (Nat.lt_of_lt_of_le GT.out h_))); (case aS => exact (below_size (by repeat (first | (with_reducible first | exact HB.out | apply below_alloc | apply pw_below_drewN | apply below_drew1) | exact HB.out)))); (case aL => simp only [List.length_append, List.length_cons, List.length_nil]; have := LY.out; omega); intro v6 w6 ho hb hg hat; have hx2 : w6.cell? ⟨wo.heap.size, 2, none⟩ = some (.string s) := (hg.cell_far ⟨wo.heap.size, 2, none⟩ (by have h_ := GT.out; first | exact h_ | (simp; omega)) (fun e_ => HO.out.1 _ e_.symm rfl)).trans (by first | exact hx1 | exact (World.cell?_alloc_past _ _ _ GT.out).trans hx1); have GT_ := Aside0.mk (Nat.lt_of_lt_of_le GT.out (show wr.heap.size ≤ w6.heap.size by have h_ := hg.size; first | exact h_ | (simp at h_; omega))); clear GT; have GT := GT_; clear GT_; have n0_ := Aside0.mk hb; have n1_ := Aside0.mk ho; clear HB; clear HO; have HB := n0_; have HO := n1_; clear n0_ n1_; clear ho hb hg hat)
                  go_roundw
                  case rel => exact ⟨q + 1, by omega, by go_num, hx2, ⟨by rw [HE2.out]; have h_ := HO.out; rw [List.append_assoc (ys ++ [5])] at h_; exact h_⟩, HB, GT⟩
                  case measure => simp [intOf]; omega
              · obtain rfl : q = s.size := by omega
                rw [show (bytesOf s).take s.size = bytesOf s from by rw [← bytesOf_length, List.take_length]] at HO
                go_wp2_with (at_builtin; refine Kd.R_append_rows (Kd.int .u8) (w0 := w) w.heap.size rfl _ _ 34 5 (.int .u8 0) 1 rfl Tryd.underlying34 info5 rfl (by decide) (by omega) u7 (ys ++ [5] ++ key_grow.esc (bytesOf s)) [0, 1] _ _ _ (fun k_ => k_ ≠ wo.heap.size) (fun _ => False) rfl rfl ?aO ?aR (fun _ _ h => h) (fun _ h => h.elim) ?aF ?aB ?aS ?aL ?_; (case aO => (with_reducible repeat (first | apply Kd.R_alloc | apply Kd.R_drewN | apply Kd.R_drew)); exact HO.out); (case aR => exact key_grow.lit2 (by simp [go_sem]) (by simp [go_sem])); (case aB => exact (by repeat (first | (with_reducible first | exact HB.out | apply below_alloc | apply pw_below_drewN | apply below_drew1) | exact HB.out))); (case aF => exact (fun k_ h_ => by simp at h_; have := GT.out; omega)); (case aS => exact (below_size (by repeat (first | (with_reducible first | exact HB.out | apply below_alloc | apply pw_below_drewN | apply below_drew1) | exact HB.out)))); (case aL => simp only [List.length_append, List.length_cons, List.length_nil]; have := LZ.out; omega); intro v30 w30 ho hb hg hat; have n0_ := Aside0.mk hb; have n1_ := Aside0.mk ho; clear HB; clear HO; have HB := n0_; have HO := n1_; clear n0_ n1_; clear ho hb hg hat)
                go_roundw
                case rel => exact ⟨j + 1, by omega, by go_num, ⟨by rw [HES.out]; have h_ := Kd.R_mono HO.out (fun _ _ => trivial); rw [List.append_assoc, List.append_assoc] at h_; exact h_⟩, HB⟩
                case measure => simp [intOf]; omega
        · obtain rfl : j = l0.length := by omega
          rw [List.take_length] at HO
          go_wp2
          go_ret2
          exact ⟨_, rfl, HO.out, HB.out⟩

/-! ### commonholdref_Behind: function 85 -/
def commonholdref_Behind.l0 : Nat → List Int → Int → List Int → Int → Int → Option (List Int × Int)
  | 0, _, _, _, _, _ => none
  | k + 1, x0, x4, x11, x12, x13 => if x13 < x12 then (if 0 ≤ x13 then (if x13 < (x11.length : Int) then (if (rd x11 x13) = 255 then (commonholdref_Behind.l0 k x0 x4 x11 x12 (wrap64 (x13 + 1))) else (commonholdref_Behind.l0 k x0 (wrap64 (x13 + 1)) x11 x12 (wrap64 (x13 + 1)))) else (none)) else (none)) else (if x4 = 0 then (some (([] : List Int), 6)) else ((some (([] : List Int) : List Int)).bind fun y135 => (if 0 ≤ (wrap64 (x4 - 1)) then (if (wrap64 (x4 - 1)) ≤ (x0.length : Int) then (if y135.length + (x0.take ((wrap64 (x4 - 1)) : Int).toNat).length < 140737488355328 then ((some (y135 ++ (x0.take ((wrap64 (x4 - 1)) : Int).toNat) : List Int)).bind fun y139 => (if (wrap64 (x4 - 1)) < (x0.length : Int) then (if y139.length < 140737488355328 then (some ((y139 ++ [((rd x0 (wrap64 (x4 - 1))) + 1) % 256]), 0)) else (none)) else (none))) else (none)) else (none)) else (none))))
def commonholdref_Behind.f (k : Nat) (l0 : List Int) : Option (List Int × Int) := if (l0.length : Int) > 1200 then (some (([] : List Int), 1)) else (commonholdref_Behind.l0 k l0 0 l0 (l0.length : Int) 0)
theorem commonholdref_Behind.mono_l : ∀ k, (∀ y0 y1 y2 y3 y4, LeO (commonholdref_Behind.l0 k y0 y1 y2 y3 y4) (commonholdref_Behind.l0 (k + 1) y0 y1 y2 y3 y4))
  | 0 => fun _ _ _ _ _ r h => by simp [commonholdref_Behind.l0] at h
  | k + 1 => by
    have ih0 := commonholdref_Behind.mono_l k
    · intro y0 y1 y2 y3 y4
      unfold commonholdref_Behind.l0
      repeat' first
      | (with_reducible exact ih0 _ _ _ _ _)
      | (with_reducible exact LeO.refl _)
      | (with_reducible exact LeO.none _)
      | (with_reducible refine LeO.ite ?_ ?_)
      | (with_reducible refine LeO.bind ?_ (fun _ => ?_))
      | exact ih0 _ _ _ _ _
      | exact LeO.none _
      | refine LeO.ite ?_ ?_
      | refine LeO.bind ?_ (fun _ => ?_)
theorem commonholdref_Behind.mono : ∀ a0 k, LeO (commonholdref_Behind.f k a0) (commonholdref_Behind.f (k + 1) a0) := by
  intro a0 k
  have ih0 := commonholdref_Behind.mono_l k
  unfold commonholdref_Behind.f
  repeat' first
      | (with_reducible exact ih0 _ _ _ _ _)
      | (with_reducible exact LeO.refl _)
      | (with_reducible exact LeO.none _)
      | (with_reducible refine LeO.ite ?_ ?_)
      | (with_reducible refine LeO.bind ?_ (fun _ => ?_))
      | exact ih0 _ _ _ _ _
      | exact LeO.none _
      | refine LeO.ite ?_ ?_
      | refine LeO.bind ?_ (fun _ => ?_)
set_option maxHeartbeats 8000000 in
set_option maxRecDepth 100000 in
theorem commonholdref_Behind.calls (k : Nat) (A0 : Option Addr) (c0 : Nat) (l0 : List Int) (r1 : List Int) (r2 : Int) (w : World) (hr0 : Kd.C (Kd.int .u8) w A0 l0.length l0) (hc0 : l0.length ≤ c0) (h : commonholdref_Behind.f k l0 = some (r1, r2)) :
    Calls Tryd.prog 85 #[.slice A0 l0.length c0] w fun e w' => ∃ v0_ : Value, e = .returned (.tuple #[v0_, .int .i64 r2]) ∧ Kd.R (Kd.int .u8) 5 w' w.heap.size (fun _ => True) v0_ r1 ∧ Below w.heap.size w w' := by
  have HR0 := Aside0.mk hr0
  have HC0 := Aside0.mk hc0
  clear hr0 hc0
  have HB := Aside0.mk (Below.refl w.heap.size w)
  have H : (if (l0.length : Int) > 1200 then (some (([] : List Int), 1)) else (commonholdref_Behind.l0 k l0 0 l0 (l0.length : Int) 0)) = some (r1, r2) := h
  clear h
  by_cases c2 : (l0.length : Int) > 1200
  · rw [if_pos c2] at H
    have c2b0 : decide (1200 < (l0.length : Int)) = true := decide_eq_true c2
    have c2b1 : decide (1200 < l0.length) = true := decide_eq_true (by omega)
    clear c2
    simp only [Option.some.injEq, Prod.mk.injEq] at H
    obtain ⟨rfl, rfl⟩ := H
    go_enter Tryd.func85, Tryd.ntmps85
    go_wp2
    go_ret2
    exact ⟨_, by first | rfl | (simp [errW_none, errW_some] <;> rfl) | (simp [*, errW_none, errW_some] <;> rfl), by first | exact Kd.R_nil _ _ _ _ _ | exact Kd.N_nil _ _ _ _ _ | exact Kd.V_nil _ _ _ _ _ | exact Kd.Q_nil _ _ _ _ _ | exact Kd.S_nil _ _ _ _ _, by repeat (first | (with_reducible first | exact HB.out | apply below_alloc | apply pw_below_drewN | apply below_drew1) | exact HB.out)⟩
  · rw [if_neg c2] at H
    have c2b0 : decide (1200 < (l0.length : Int)) = false := decide_eq_false c2
    have c2b1 : decide (1200 < l0.length) = false := decide_eq_false (by omega)
    clear c2
    have H' := Aside0.mk H
    clear H
    go_enter Tryd.func85, Tryd.ntmps85
    go_wp2
    go_loopg [4, 13] k (fun kq v4 v13 w' => ∃ (x4_1 : Int) (x13_1 : Int), v4 = .int .i64 x4_1 ∧ v13 = .int .i64 x13_1 ∧ Aside0 (commonholdref_Behind.l0 kq l0 x4_1 l0 (l0.length : Int) x13_1 = some (r1, r2)) ∧ Aside0 (kq ≤ k) ∧ Aside0 (Below w.heap.size w w'))
    case atStart => exact ⟨(0), (0), (by first | rfl | (simp; done) | (simp [*]; done)), (by first | rfl | (simp; done) | (simp [*]; done)), H', ⟨Nat.le_refl _⟩, ⟨by repeat (first | (with_reducible first | exact HB.out | apply below_alloc | apply pw_below_drewN | apply below_drew1) | exact HB.out)⟩⟩
    case round =>
      clear H'
      try clear c2
      try clear c2b0
      try clear c2b1
      try clear p2
      obtain ⟨x4_1, x13_1, rfl, rfl, HA, HK1, HB⟩ := hrel
      cases gk with
      | zero => exact absurd HA.out (by simp [commonholdref_Behind.l0])
      | succ k1 =>
        have H := HA.out
        clear HA
        simp only [commonholdref_Behind.l0] at H
        by_cases c3 : x13_1 < (l0.length : Int)
        · rw [if_pos c3] at H
          have c3b0 : decide (x13_1 < (l0.length : Int)) = true := decide_eq_true c3
          clear c3
          by_cases c4 : 0 ≤ x13_1
          · rw [if_pos c4] at H
            have c4b0 : decide (0 ≤ x13_1) = true := decide_eq_true c4
            clear c4
            by_cases c5 : x13_1 < (l0.length : Int)
            · rw [if_pos c5] at H
              have c5b0 : decide (x13_1 < (l0.length : Int)) = true := decide_eq_true c5
              clear c5
              by_cases c6 : (rd l0 x13_1) = 255
              · rw [if_pos c6] at H
                have c6b0 : ((rd l0 x13_1) == 255) = true := beq_iff_eq.mpr c6
                have c6b1 : ((rd l0 x13_1) != 255) = false := bne_eq_false_iff_eq.mpr c6
                clear c6
                have H' := Aside0.mk H
                clear H
                have p134 : 0 ≤ (x13_1 : Int) := of_decide_eq_true (by first | (with_reducible assumption) | assumption)
                have q134 : x13_1 < (l0.length : Int) := of_decide_eq_true (by first | (with_reducible assumption) | assumption)
                obtain ⟨ad134, e134, hx134_0⟩ := Kd.at_int HR0.out x13_1 p134 q134
                cases e134
                replace hx134_0 := (HB.out.cell (World.block_lt_of_cell? w _ hx134_0)).trans hx134_0
                replace p134 := eq_true p134
                replace q134 := eq_true q134
                go_wp2
                go_roundg k1
                case measure => have := HK1.out; omega
                case rel => exact ⟨(x4_1), (wrap64 (x13_1 + 1)), (by first | rfl | (simp; done) | (simp [*]; done)), (by first | rfl | (simp; done) | (simp [*]; done)), H', ⟨by have := HK1.out; omega⟩, ⟨by repeat (first | (with_reducible first | exact HB.out | apply below_alloc | apply pw_below_drewN | apply below_drew1) | exact HB.out)⟩⟩
              · rw [if_neg c6] at H
                have c6b0 : ((rd l0 x13_1) == 255) = false := beq_eq_false_iff_ne.mpr c6
                have c6b1 : ((rd l0 x13_1) != 255) = true := bne_iff_ne.mpr c6
                have H' := Aside0.mk H
                clear H
                have p134 : 0 ≤ (x13_1 : Int) := of_decide_eq_true (by first | (with_reducible assumption) | assumption)
                have q134 : x13_1 < (l0.length : Int) := of_decide_eq_true (by first | (with_reducible assumption) | assumption)
                obtain ⟨ad134, e134, hx134_0⟩ := Kd.at_int HR0.out x13_1 p134 q134
                cases e134
                replace hx134_0 := (HB.out.cell (World.block_lt_of_cell? w _ hx134_0)).trans hx134_0
                replace p134 := eq_true p134
                replace q134 := eq_true q134
                go_wp2
                go_roundg k1
                case measure => have := HK1.out; omega
                case rel => exact ⟨(wrap64 (x13_1 + 1)), (wrap64 (x13_1 + 1)), (by first | rfl | (simp; done) | (simp [*]; done)), (by first | rfl | (simp; done) | (simp [*]; done)), H', ⟨by have := HK1.out; omega⟩, ⟨by repeat (first | (with_reducible first | exact HB.out | apply below_alloc | apply pw_below_drewN | apply below_drew1) | exact HB.out)⟩⟩
            · rw [if_neg c5] at H
              exact absurd H (by simp)
          · rw [if_neg c4] at H
            exact absurd H (by simp)
        · rw [if_neg c3] at H
          have c3b0 : decide (x13_1 < (l0.length : Int)) = false := decide_eq_false c3
          clear c3
          by_cases c7 : x4_1 = 0
          · rw [if_pos c7] at H
            have c7b0 : (x4_1 == 0) = true := beq_iff_eq.mpr c7
            have c7b1 : (x4_1 != 0) = false := bne_eq_false_iff_eq.mpr c7
            clear c7
            simp only [Option.some.injEq, Prod.mk.injEq] at H
            obtain ⟨rfl, rfl⟩ := H
            go_wp2
            go_ret2
            exact ⟨_, by first | rfl | (simp [errW_none, errW_some] <;> rfl) | (simp [*, errW_none, errW_some] <;> rfl), by first | exact Kd.R_nil _ _ _ _ _ | exact Kd.N_nil _ _ _ _ _ | exact Kd.V_nil _ _ _ _ _ | exact Kd.Q_nil _ _ _ _ _ | exact Kd.S_nil _ _ _ _ _, by repeat (first | (with_reducible first | exact HB.out | apply below_alloc | apply pw_below_drewN | apply below_drew1) | exact HB.out)⟩
          · rw [if_neg c7] at H
            have c7b0 : (x4_1 == 0) = false := beq_eq_false_iff_ne.mpr c7
            have c7b1 : (x4_1 != 0) = true := bne_iff_ne.mpr c7
            obtain ⟨y135, hy135⟩ : ∃ y_ : List Int, y_ = (([] : List Int)) := ⟨_, rfl⟩
            replace H : (if 0 ≤ (wrap64 (x4_1 - 1)) then (if (wrap64 (x4_1 - 1)) ≤ (l0.length : Int) then (if y135.length + (l0.take ((wrap64 (x4_1 - 1)) : Int).toNat).length < 140737488355328 then ((some (y135 ++ (l0.take ((wrap64 (x4_1 - 1)) : Int).toNat) : List Int)).bind fun y139 => (if (wrap64 (x4_1 - 1)) < (l0.length : Int) then (if y139.length < 140737488355328 then (some ((y139 ++ [((rd l0 (wrap64 (x4_1 - 1))) + 1) % 256]), 0)) else (none)) else (none))) else (none)) else (none)) else (none)) = some (r1, r2) := by first | (rw [hy135]; with_reducible exact H) | (have H2_ := (Option.bind_some _ _).symm.trans H; rw [hy135]; with_reducible exact H2_) | (have H2_ := (Option.bind_some _ _).symm.trans H; with_reducible exact H2_) | with_reducible exact H | (rw [hy135]; exact H) | exact H
            have Ny135 := Aside0.mk hy135
            clear hy135
            obtain ⟨ji8, hji8⟩ : ∃ j_ : Int, (wrap64 (x4_1 - 1)) = j_ := ⟨_, rfl⟩
            replace H : (if 0 ≤ (ji8) then (if (ji8) ≤ (l0.length : Int) then (if y135.length + (l0.take ((ji8) : Int).toNat).length < 140737488355328 then ((some (y135 ++ (l0.take ((ji8) : Int).toNat) : List Int)).bind fun y139 => (if (ji8) < (l0.length : Int) then (if y139.length < 140737488355328 then (some ((y139 ++ [((rd l0 (ji8)) + 1) % 256]), 0)) else (none)) else (none))) else (none)) else (none)) else (none)) = some (r1, r2) := by first | (rw [hji8] at H; exact H) | (simp only [hji8] at H ⊢; exact H)
            have hji8w : (IntKind.i64.wrap (x4_1 - 1)) = ji8 := (i64_w _).trans hji8
            by_cases c9 : 0 ≤ (ji8)
            · rw [if_pos c9] at H
              have c9b0 := eq_true c9
              have c9b1 : decide (0 ≤ (ji8)) = true := decide_eq_true c9
              clear c9
              by_cases c10 : (ji8) ≤ (l0.length : Int)
              · rw [if_pos c10] at H
                have c10b0 := eq_true c10
                have c10b1 : decide ((ji8) ≤ (l0.length : Int)) = true := decide_eq_true c10
                clear c10
                by_cases c11 : y135.length + (l0.take ((ji8) : Int).toNat).length < 140737488355328
                · rw [if_pos c11] at H
                  have LMc11 := Aside0.mk c11
                  clear c11
                  obtain ⟨y139, hy139⟩ : ∃ y_ : List Int, y_ = (y135 ++ (l0.take ((ji8) : Int).toNat)) := ⟨_, rfl⟩
                  replace H : (if (ji8) < (l0.length : Int) then (if y139.length < 140737488355328 then (some ((y139 ++ [((rd l0 (ji8)) + 1) % 256]), 0)) else (none)) else (none)) = some (r1, r2) := by first | (rw [hy139]; with_reducible exact H) | (have H2_ := (Option.bind_some _ _).symm.trans H; rw [hy139]; with_reducible exact H2_) | (have H2_ := (Option.bind_some _ _).symm.trans H; with_reducible exact H2_) | with_reducible exact H | (rw [hy139]; exact H) | exact H
                  have Ny139 := Aside0.mk hy139
                  clear hy139
                  by_cases c12 : (ji8) < (l0.length : Int)
                  · rw [if_pos c12] at H
                    have c12b0 : decide ((ji8) < (l0.length : Int)) = true := decide_eq_true c12
                    clear c12
                    by_cases c13 : y139.length < 140737488355328
                    · rw [if_pos c13] at H
                      have LMc13 := Aside0.mk c13
                      clear c13
                      obtain ⟨y143, hy143⟩ : ∃ y_ : List Int, y_ = (y139 ++ [((rd l0 (ji8)) + 1) % 256]) := ⟨_, rfl⟩
                      replace H : (some (y143, 0)) = some (r1, r2) := by first | (rw [hy143]; with_reducible exact H) | (have H2_ := (Option.bind_some _ _).symm.trans H; rw [hy143]; with_reducible exact H2_) | (have H2_ := (Option.bind_some _ _).symm.trans H; with_reducible exact H2_) | with_reducible exact H | (rw [hy143]; exact H) | exact H
                      have Ny143 := Aside0.mk hy143
                      clear hy143
                      simp only [Option.some.injEq, Prod.mk.injEq] at H
                      obtain ⟨rfl, rfl⟩ := H
                      go_wp2_with (first | ((with_reducible refine gate_dst (N := 25) rfl ?_); refine Kd.R_lit (Kd.int .u8) _ 5 ?hg (N := 25) ?hd (xs := ([] : List Int)) (inner := []) (ok := fun _ => True) (okp := fun _ => True) ?hr ?hp (fun _ hk => hk) trivial (Below.refl _ _) (Nat.le_refl _) (by simp) ?_; (case hd => rfl); (case hg => rfl); (case hr => first | (go_simp; done) | (go_simp; rfl)); (case hp => exact (Reps.none _ _)); intro v136 w14 ho15 hb hg_ hnew_; clear hg_ hnew_; (first | rw [← Ny135.out] at ho15 | (simp only [Int.reduceToNat] at ho15; rw [← Ny135.out] at ho15)); have n0_ := Aside0.mk (Kd.R_lower ho15 (below_size (by repeat (first | (with_reducible first | exact HB.out | apply below_alloc | apply pw_below_drewN | apply below_drew1) | exact HB.out)))); have n1_ := Aside0.mk (below_step (by repeat (first | (with_reducible first | exact HB.out | apply below_alloc | apply pw_below_drewN | apply below_drew1) | exact HB.out)) hb); clear HB; have HO137 := n0_; have HB := n1_; clear n0_ n1_; clear hb ho15; obtain ⟨i016, hi016, _, hsz16, _⟩ := info_parts info5; obtain ⟨hcut16, hA16, hC16⟩ := print_take_of (P := Tryd.prog) (Value.int .u8) 0 34 5 .i64 Tryd.underlying34 hi016 hsz16 A0 c0 l0 (ji8) (of_decide_eq_true (by first | (with_reducible assumption) | assumption)) (of_decide_eq_true (by first | (with_reducible assumption) | assumption)) HC0.out; have HR138 := Aside0.mk (Kd.C_of_reads (h1 := fun _ => rfl) (hA16 _ (Kd.reads_of_C HR0.out))); have HC138 := Aside0.mk hC16; clear hA16 hC16 hi016 hsz16) | ((with_reducible refine gate_builtin (b := .append) (xs := #[.tmp 25, .tmp 29]) rfl ?_); at_builtin; refine Kd.R_append_rows (Kd.int .u8) (w0 := w) w.heap.size rfl (.tmp 25) (.tmp 29) 34 5 (.int .u8 0) 1 rfl Tryd.underlying34 info5 rfl (by decide) (by omega) v136 y135 (l0.take ((ji8) : Int).toNat) _ _ _ (fun _ => True) (fun _ => False) rfl rfl ?aO ?aR (fun _ _ h => h) (fun _ h => h.elim) ?aF ?aB ?aS ?aL ?_; (case aR => first | (refine Eq.mp (congrArg (fun n_ => Kd.C (Kd.int .u8) _ _ n_ (l0.take ((ji8) : Int).toNat)) (show (l0.take ((ji8) : Int).toNat).length = (ji8).toNat from (by rw [List.length_take]; have h_ : ((ji8) : Int) ≤ (l0.length : Int) := of_decide_eq_true (by first | (with_reducible assumption) | assumption); omega))) ?_; repeat (first | exact (Kd.C_below HR138.out HB.out) | (with_reducible refine Kd.C_alloc ?_ _) | (with_reducible refine Kd.C_drewN ?_ _) | (with_reducible refine Kd.C_drew ?_)); done) | (rw [← show (l0.take ((ji8) : Int).toNat).length = (ji8).toNat from (by rw [List.length_take]; have h_ : ((ji8) : Int) ≤ (l0.length : Int) := of_decide_eq_true (by first | (with_reducible assumption) | assumption); omega)]; repeat (first | exact (Kd.C_below HR138.out HB.out) | (with_reducible refine Kd.C_alloc ?_ _) | (with_reducible refine Kd.C_drewN ?_ _) | (with_reducible refine Kd.C_drew ?_)); done) | (repeat (first | exact (Kd.C_below HR138.out HB.out) | (with_reducible refine Kd.C_alloc ?_ _) | (with_reducible refine Kd.C_drewN ?_ _) | (with_reducible refine Kd.C_drew ?_)))); (case aB => exact (by repeat (first | (with_reducible first | exact HB.out | apply below_alloc | apply pw_below_drewN | apply below_drew1) | exact HB.out))); (case aF => exact (fun _ _ => trivial)); (case aO => exact (by (with_reducible repeat (first | apply Kd.R_alloc | apply Kd.R_drewN | apply Kd.R_drew)); exact HO137.out)); (case aS => exact (below_size (by repeat (first | (with_reducible first | exact HB.out | apply below_alloc | apply pw_below_drewN | apply below_drew1) | exact HB.out)))); (case aL => have := LMc11.out; have hlx_ := (show (l0.take ((ji8) : Int).toNat).length = (ji8).toNat from (by rw [List.length_take]; have h_ : ((ji8) : Int) ≤ (l0.length : Int) := of_decide_eq_true (by first | (with_reducible assumption) | assumption); omega)); omega); intro v140 w17 ho hb hg hat; rw [← Ny139.out] at ho; have n0_ := Aside0.mk (hb); have n1_ := Aside0.mk (ho); clear HB; clear HO137; have HB := n0_; have HO141 := n1_; clear n0_ n1_; clear ho hb hg hat; have p142 : 0 ≤ ((ji8) : Int) := of_decide_eq_true (by first | (with_reducible assumption) | assumption); have q142 : (ji8) < (l0.length : Int) := of_decide_eq_true (by first | (with_reducible assumption) | assumption); obtain ⟨ad142, e142, hx142_0⟩ := Kd.at_int HR0.out (ji8) p142 q142; cases e142; replace hx142_0 := (HB.out.cell (World.block_lt_of_cell? w _ hx142_0)).trans hx142_0; replace p142 := eq_true p142; replace q142 := eq_true q142) | ((with_reducible refine gate_builtin (b := .append) (xs := #[.tmp 31, .tmp 38]) rfl ?_); at_builtin; refine Kd.R_append (Kd.int .u8) (w0 := w) w.heap.size rfl (.tmp 31) (.tmp 38) 34 5 (.int .u8 0) 1 rfl Tryd.underlying34 info5 rfl (by decide) (by omega) v140 y139 (((rd l0 (ji8)) + 1) % 256) [.int .u8 (((rd l0 (ji8)) + 1) % 256)] (fun _ => True) (fun _ => False) rfl rfl ?aP (fun _ hk => hk.elim) ?aF ?aO ?aB ?aS ?aL ?_; (case aP => exact rfl); (case aB => exact (by repeat (first | (with_reducible first | exact HB.out | apply below_alloc | apply pw_below_drewN | apply below_drew1) | exact HB.out))); (case aF => exact (fun _ _ => trivial)); (case aO => exact (by (with_reducible repeat (first | apply Kd.R_alloc | apply Kd.R_drewN | apply Kd.R_drew)); exact HO141.out)); (case aS => exact (below_size (by repeat (first | (with_reducible first | exact HB.out | apply below_alloc | apply pw_below_drewN | apply below_drew1) | exact HB.out)))); (case aL => have := LMc13.out; omega); intro v144 w18 ho hb hg hat; rw [← Ny143.out] at ho; have n0_ := Aside0.mk (hb); have n1_ := Aside0.mk (ho); clear HB; clear HO141; have HB := n0_; have HO145 := n1_; clear n0_ n1_; clear ho hb hg hat))
                      go_ret2
                      exact ⟨_, by first | rfl | (simp [errW_none, errW_some] <;> rfl) | (simp only [← hji8]; first | rfl | (simp [errW_none, errW_some] <;> rfl)) | (simp [*, errW_none, errW_some] <;> rfl), by (with_reducible repeat (first | apply Kd.R_alloc | apply Kd.R_drewN | apply Kd.R_drew)); exact HO145.out, by repeat (first | (with_reducible first | exact HB.out | apply below_alloc | apply pw_below_drewN | apply below_drew1) | exact HB.out)⟩
                    · rw [if_neg c13] at H
                      exact absurd H (by simp)
                  · rw [if_neg c12] at H
                    exact absurd H (by simp)
                · rw [if_neg c11] at H
                  exact absurd H (by simp)
              · rw [if_neg c10] at H
                exact absurd H (by simp)
            · rw [if_neg c9] at H
              exact absurd H (by simp)

/-! ### commonholdref_prefixRange: function 66 -/
def commonholdref_prefixRange.f (k : Nat) (l0 : List (S23)) : Option (List Int × List Int) := (commonholdref_Keyed.f k l0).bind fun bt147 => ((commonholdref_Behind.f k bt147.1).bind fun bt151 => (some (bt147.1, bt151.1)))
theorem commonholdref_prefixRange.mono : ∀ a0 k, LeO (commonholdref_prefixRange.f k a0) (commonholdref_prefixRange.f (k + 1) a0) := by
  intro a0 k
  unfold commonholdref_prefixRange.f
  repeat' first
      | (with_reducible exact commonholdref_Behind.mono _ _)
      | (with_reducible exact commonholdref_Keyed.mono _ _)
      | (with_reducible exact LeO.refl _)
      | (with_reducible exact LeO.none _)
      | (with_reducible refine LeO.ite ?_ ?_)
      | (with_reducible refine LeO.bind ?_ (fun _ => ?_))
      | exact commonholdref_Behind.mono _ _
      | exact commonholdref_Keyed.mono _ _
      | exact LeO.none _
      | refine LeO.ite ?_ ?_
      | refine LeO.bind ?_ (fun _ => ?_)
set_option maxHeartbeats 8000000 in
set_option maxRecDepth 100000 in
theorem commonholdref_prefixRange.calls (k : Nat) (A0 : Option Addr) (c0 : Nat) (l0 : List (S23)) (r1 : List Int) (r2 : List Int) (w : World) (hr0 : Kd.C k23 w A0 l0.length l0) (hc0 : l0.length ≤ c0) (h : commonholdref_prefixRange.f k l0 = some (r1, r2)) :
    Calls Tryd.prog 66 #[.slice A0 l0.length c0] w fun e w' => ∃ v0_ v1_ : Value, e = .returned (.agg #[v0_, v1_]) ∧ Kd.R (Kd.int .u8) 5 w' w.heap.size (fun k_ => some k_ ≠ (v1_ : Value).ownBlock) v0_ r1 ∧ Kd.R (Kd.int .u8) 5 w' w.heap.size (fun k_ => some k_ ≠ (v0_ : Value).ownBlock) v1_ r2 ∧ Below w.heap.size w w' := by
  have hu56 := Tryd.underlying56
  have HR0 := Aside0.mk hr0
  have HC0 := Aside0.mk hc0
  clear hr0 hc0
  have HB := Aside0.mk (Below.refl w.heap.size w)
  have H : ((commonholdref_Keyed.f k l0).bind fun bt147 => ((commonholdref_Behind.f k bt147.1).bind fun bt151 => (some (bt147.1, bt151.1)))) = some (r1, r2) := h
  clear h
  replace H := Option.bind_eq_some_iff.mp H
  obtain ⟨⟨t147, t148⟩, A20, H⟩ := H
  replace H : ((commonholdref_Behind.f k t147).bind fun bt151 => (some (t147, bt151.1))) = some (r1, r2) := H
  have A2 := Aside0.mk A20
  clear A20
  replace H := Option.bind_eq_some_iff.mp H
  obtain ⟨⟨t151, t152⟩, A30, H⟩ := H
  replace H : (some (t147, t151)) = some (r1, r2) := H
  have A3 := Aside0.mk A30
  clear A30
  simp only [Option.some.injEq, Prod.mk.injEq] at H
  obtain ⟨rfl, rfl⟩ := H
  go_enter Tryd.func66, Tryd.ntmps66
  go_wp2_with (first | ((with_reducible refine gate_dst (N := 2) rfl ?_); refine box_event ?hg (N := 2) ?hd (cs := #[.slice none 0 0, .slice none 0 0]) (t := 56) ?hr ?_; (case hd => rfl); (case hg => rfl); (case hr => first | (go_simp; done) | (go_simp; rfl)); intro gb146 hg w4 hbox hb; have n0_ := Aside0.mk (below_step (by repeat (first | (with_reducible first | exact HB.out | apply below_alloc | apply pw_below_drewN | apply below_drew1) | exact HB.out)) hb); have n1_ := Aside0.mk (hbox); have n2_ := Aside0.mk ((by rw [hg]; exact (below_size (by repeat (first | (with_reducible first | exact HB.out | apply below_alloc | apply pw_below_drewN | apply below_drew1) | exact HB.out))) : w.heap.size ≤ gb146)); have n3_ := Aside0.mk ((by rw [hg]; exact (below_size (by repeat (first | (with_reducible first | exact HB.out | apply below_alloc | apply pw_below_drewN | apply below_drew1) | exact HB.out))) : w.heap.size ≤ gb146)); clear HB; have HB := n0_; have BK146 := n1_; have GW146 := n2_; have GE146 := n3_; clear n0_ n1_ n2_ n3_; clear hb hbox hg) | ((with_reducible refine gate_callee (f := 24) rfl ?_); refine goesL_ (some 9) rfl rfl Tryd.func24 (by kernel_rfl) rfl #[.slice A0 l0.length c0] rfl (by (try simp only [List.map_toArray, List.map_cons, List.map_nil]); first | done | rfl | (simp only [List.length_drop, List.length_take]; rfl)) ?_; (with_reducible refine (commonholdref_Keyed.calls k _ _ l0 t147 t148 _ ?side1 ?side2 A2.out).mono ?_); (case side1 => repeat (first | exact (Kd.C_below HR0.out HB.out) | (with_reducible refine Kd.C_alloc ?_ _) | (with_reducible refine Kd.C_drewN ?_ _) | (with_reducible refine Kd.C_drew ?_))); (case side2 => exact HC0.out); rintro e w5 ⟨v149, rfl, ho0, hb⟩; refine ⟨_, rfl, ?_⟩; have n0_ := Aside0.mk (Kd.R_lower ho0 (below_size (by repeat (first | (with_reducible first | exact HB.out | apply below_alloc | apply pw_below_drewN | apply below_drew1 | refine below_set ?_ GE146.out) | exact HB.out)))); have n1_ := Aside0.mk (blk_below (g := gb146) (o := .cells #[.slice none 0 0, .slice none 0 0] 56 (0, 0)) (by (with_reducible repeat (first | refine blk_drewN ?_ _ | refine blk_drew ?_ | refine blk_alloc ?_ _)); exact BK146.out) hb); have n2_ := Aside0.mk (below_step (by repeat (first | (with_reducible first | exact HB.out | apply below_alloc | apply pw_below_drewN | apply below_drew1 | refine below_set ?_ GE146.out) | exact HB.out)) hb); clear BK146; clear HB; have HO150 := n0_; have BK146 := n1_; have HB := n2_; clear n0_ n1_ n2_; (try clear hb); (try clear hb2); (try clear hk); (try clear hi); (try clear ho0); obtain ⟨Ao6, co6, eo6⟩ := Kd.R_slice HO150.out; subst eo6) | ((with_reducible refine gate_callee (f := 85) rfl ?_); refine goesL_ (some 14) rfl rfl Tryd.func85 (by kernel_rfl) rfl #[.slice Ao6 t147.length co6] rfl (by (try simp only [List.map_toArray, List.map_cons, List.map_nil]); first | done | rfl | (simp only [List.length_drop, List.length_take]; rfl)) ?_; (with_reducible refine (commonholdref_Behind.calls k _ _ t147 t151 t152 _ ?side1 ?side2 A3.out).mono ?_); (case side1 => repeat (first | exact (Kd.R_reads' HO150.out).2.2 | (with_reducible refine Kd.C_alloc ?_ _) | (with_reducible refine Kd.C_drewN ?_ _) | (with_reducible refine Kd.C_drew ?_))); (case side2 => exact (Kd.R_reads' HO150.out).2.1); rintro e w7 ⟨v153, rfl, ho0, hb⟩; refine ⟨_, rfl, ?_⟩; have n0_ := Aside0.mk (Kd.R_elder' (by (with_reducible repeat (first | apply Kd.R_alloc | apply Kd.R_drewN | apply Kd.R_drew)); exact HO150.out) (Kd.R_base ho0) hb); have n1_ := Aside0.mk (Kd.R_lower (Kd.R_new' ho0 (Kd.R_lt (by (with_reducible repeat (first | apply Kd.R_alloc | apply Kd.R_drewN | apply Kd.R_drew)); exact HO150.out))) (below_size (by repeat (first | (with_reducible first | exact HB.out | apply below_alloc | apply pw_below_drewN | apply below_drew1 | refine below_set ?_ GE146.out) | exact HB.out)))); have n2_ := Aside0.mk (blk_below (g := gb146) (o := .cells #[.slice none 0 0, .slice none 0 0] 56 (0, 0)) (by (with_reducible repeat (first | refine blk_drewN ?_ _ | refine blk_drew ?_ | refine blk_alloc ?_ _)); exact BK146.out) hb); have n3_ := Aside0.mk (below_step (by repeat (first | (with_reducible first | exact HB.out | apply below_alloc | apply pw_below_drewN | apply below_drew1 | refine below_set ?_ GE146.out) | exact HB.out)) hb); clear HO150; clear BK146; clear HB; have HO150 := n0_; have HO154 := n1_; have BK146 := n2_; have HB := n3_; clear n0_ n1_ n2_ n3_; (try clear hb); (try clear hb2); (try clear hk); (try clear hi); (try clear ho0); obtain ⟨Ao8, co8, eo8⟩ := Kd.R_slice HO154.out; subst eo8; have hcz9_0 : w7.cell? ⟨gb146, 0, none⟩ = some (.slice none 0 0) := (blk_cell BK146.out 0).trans rfl; have hcz9_1 : w7.cell? ⟨gb146, 1, none⟩ = some (.slice none 0 0) := (blk_cell BK146.out 1).trans rfl; have hfz9_0 := blk_frozen BK146.out 0; have hfz9_1 := blk_frozen BK146.out 1))
  refine bodyPost_ret (results_cell_row rfl _ _ gb146 56 #[.slice Ao6 t147.length co6, .slice Ao8 t151.length co8] (0, 0) _ rfl (by (with_reducible repeat (first | refine blk_drewN ?_ _ | refine blk_drew ?_ | refine blk_alloc ?_ _)); refine blk_put (cs := #[.slice Ao6 t147.length co6, .slice none 0 0]) ?_ 1 _ rfl; (with_reducible repeat (first | refine blk_drewN ?_ _ | refine blk_drew ?_ | refine blk_alloc ?_ _)); refine blk_put (cs := #[.slice none 0 0, .slice none 0 0]) ?_ 0 _ rfl; (with_reducible repeat (first | refine blk_drewN ?_ _ | refine blk_drew ?_ | refine blk_alloc ?_ _)); exact BK146.out) Tryd.underlying56 rfl (by kernel_rfl)) rfl ?_
  exact ⟨_, _, by first | rfl | (simp [errW_none, errW_some] <;> rfl) | (simp [*, errW_none, errW_some] <;> rfl), by (with_reducible repeat (first | apply Kd.R_alloc | apply Kd.R_drewN | apply Kd.R_drew)); exact Kd.R_mono (Kd.R_far (p := ⟨gb146, 1, none⟩) (Kd.R_far (p := ⟨gb146, 0, none⟩) (Kd.R_types HO150.out BK146.out (by decide)) (fun _ hk => hk.2) (.slice Ao6 t147.length co6)) (fun _ hk => hk.2) (.slice Ao8 t151.length co8)) (fun _ hk => hk.1.2), by (with_reducible repeat (first | apply Kd.R_alloc | apply Kd.R_drewN | apply Kd.R_drew)); exact Kd.R_mono (Kd.R_far (p := ⟨gb146, 1, none⟩) (Kd.R_far (p := ⟨gb146, 0, none⟩) (Kd.R_types HO154.out BK146.out (by decide)) (fun _ hk => hk.2) (.slice Ao6 t147.length co6)) (fun _ hk => hk.2) (.slice Ao8 t151.length co8)) (fun _ hk => hk.1.2), by repeat (first | (with_reducible first | exact HB.out | apply below_alloc | apply pw_below_drewN | apply below_drew1 | refine below_set ?_ GE146.out) | exact HB.out)⟩

/-! ### commonholdref_whole: function 67 -/
def commonholdref_whole.f (a0 : Int) : Option (Int × Int × ByteArray) := some (2, a0, (⟨#[]⟩ : ByteArray))
set_option maxHeartbeats 8000000 in
set_option maxRecDepth 100000 in
theorem commonholdref_whole.calls (a0 : Int) (r1 : Int) (r2 : Int) (r3 : ByteArray) (w : World) (h : commonholdref_whole.f a0 = some (r1, r2, r3)) :
    Calls Tryd.prog 67 #[.int .i64 a0] w fun e w' => e = .returned (.agg #[.int .i64 r1, .int .i64 r2, .string r3]) ∧ Below w.heap.size w w' := by
  have hu23 := Tryd.underlying23
  have HB := Aside0.mk (Below.refl w.heap.size w)
  have H : (some (2, a0, (⟨#[]⟩ : ByteArray))) = some (r1, r2, r3) := h
  clear h
  simp only [Option.some.injEq, Prod.mk.injEq] at H
  obtain ⟨rfl, rfl, rfl⟩ := H
  go_enter Tryd.func67, Tryd.ntmps67
  go_wp2_with (first | ((with_reducible refine gate_dst (N := 2) rfl ?_); refine box_event ?hg (N := 2) ?hd (cs := #[.int .i64 0, .int .i64 0, .string (⟨#[]⟩ : ByteArray)]) (t := 23) ?hr ?_; (case hd => rfl); (case hg => rfl); (case hr => first | (go_simp; done) | (go_simp; rfl)); intro gb155 hg w2 hbox hb; have n0_ := Aside0.mk (below_step (by repeat (first | (with_reducible first | exact HB.out | apply below_alloc | apply pw_below_drewN | apply below_drew1) | exact HB.out)) hb); have n1_ := Aside0.mk (hbox); have n2_ := Aside0.mk ((by rw [hg]; exact (below_size (by repeat (first | (with_reducible first | exact HB.out | apply below_alloc | apply pw_below_drewN | apply below_drew1) | exact HB.out))) : w.heap.size ≤ gb155)); have n3_ := Aside0.mk ((by rw [hg]; exact (below_size (by repeat (first | (with_reducible first | exact HB.out | apply below_alloc | apply pw_below_drewN | apply below_drew1) | exact HB.out))) : w.heap.size ≤ gb155)); clear HB; have HB := n0_; have BK155 := n1_; have GW155 := n2_; have GE155 := n3_; clear n0_ n1_ n2_ n3_; clear hb hbox hg; have hcz3_0 : w2.cell? ⟨gb155, 0, none⟩ = some (.int .i64 0) := (blk_cell BK155.out 0).trans rfl; have hcz3_1 : w2.cell? ⟨gb155, 1, none⟩ = some (.int .i64 0) := (blk_cell BK155.out 1).trans rfl; have hcz3_2 : w2.cell? ⟨gb155, 2, none⟩ = some (.string (⟨#[]⟩ : ByteArray)) := (blk_cell BK155.out 2).trans rfl; have hfz3_0 := blk_frozen BK155.out 0; have hfz3_1 := blk_frozen BK155.out 1; have hfz3_2 := blk_frozen BK155.out 2))
  refine bodyPost_ret (results_cell_row rfl _ _ gb155 23 #[.int .i64 2, .int .i64 a0, .string (⟨#[]⟩ : ByteArray)] (0, 0) _ rfl (by (with_reducible repeat (first | refine blk_drewN ?_ _ | refine blk_drew ?_ | refine blk_alloc ?_ _)); refine blk_put (cs := #[.int .i64 2, .int .i64 a0, .string (⟨#[]⟩ : ByteArray)]) ?_ 2 _ rfl; (with_reducible repeat (first | refine blk_drewN ?_ _ | refine blk_drew ?_ | refine blk_alloc ?_ _)); refine blk_put (cs := #[.int .i64 2, .int .i64 0, .string (⟨#[]⟩ : ByteArray)]) ?_ 1 _ rfl; (with_reducible repeat (first | refine blk_drewN ?_ _ | refine blk_drew ?_ | refine blk_alloc ?_ _)); refine blk_put (cs := #[.int .i64 0, .int .i64 0, .string (⟨#[]⟩ : ByteArray)]) ?_ 0 _ rfl; (with_reducible repeat (first | refine blk_drewN ?_ _ | refine blk_drew ?_ | refine blk_alloc ?_ _)); exact BK155.out) Tryd.underlying23 rfl (by kernel_rfl)) rfl ?_
  exact ⟨by first | rfl | (simp [errW_none, errW_some] <;> rfl) | (simp [*, errW_none, errW_some] <;> rfl), by repeat (first | (with_reducible first | exact HB.out | apply below_alloc | apply pw_below_drewN | apply below_drew1 | refine below_set ?_ GE155.out) | exact HB.out)⟩

/-! ### commonholdref_SpanOf: function 41 -/
def commonholdref_SpanOf.j0 : Nat → Int → Int → Bool → Option (List Int × List Int × Int)
  | 0, _, _, _ => none
  | k + 1, x0, x1, x19 => if x19 = true then (some (([] : List Int), ([] : List Int), 2)) else ((commonholdref_whole.f x0).bind fun bt157 => ((commonholdref_whole.f x1).bind fun bt160 => ((commonholdref_prefixRange.f k (([(⟨bt157.1, bt157.2.1, bt157.2.2⟩ : S23), (⟨bt160.1, bt160.2.1, bt160.2.2⟩ : S23)] : List (S23)))).bind fun bt166 => (some (bt166.1, bt166.2, 0)))))
def commonholdref_SpanOf.f (k : Nat) (a0 : Int) (a1 : Int) : Option (List Int × List Int × Int) := if a0 < 0 then (commonholdref_SpanOf.j0 k a0 a1 true) else (if a0 > 3 then (commonholdref_SpanOf.j0 k a0 a1 true) else (if a1 < 0 then (commonholdref_SpanOf.j0 k a0 a1 true) else (commonholdref_SpanOf.j0 k a0 a1 (decide (a1 > 2)))))
theorem commonholdref_SpanOf.mono_l : ∀ k, (∀ y0 y1 y2, LeO (commonholdref_SpanOf.j0 k y0 y1 y2) (commonholdref_SpanOf.j0 (k + 1) y0 y1 y2))
  | 0 => fun _ _ _ r h => by simp [commonholdref_SpanOf.j0] at h
  | k + 1 => by
    have ih0 := commonholdref_SpanOf.mono_l k
    · intro y0 y1 y2
      unfold commonholdref_SpanOf.j0
      repeat' first
      | (with_reducible exact ih0 _ _ _)
      | (with_reducible exact commonholdref_prefixRange.mono _ _)
      | (with_reducible exact LeO.refl _)
      | (with_reducible exact LeO.none _)
      | (with_reducible refine LeO.ite ?_ ?_)
      | (with_reducible refine LeO.bind ?_ (fun _ => ?_))
      | exact ih0 _ _ _
      | exact commonholdref_prefixRange.mono _ _
      | exact LeO.none _
      | refine LeO.ite ?_ ?_
      | refine LeO.bind ?_ (fun _ => ?_)
theorem commonholdref_SpanOf.mono : ∀ a0 a1 k, LeO (commonholdref_SpanOf.f k a0 a1) (commonholdref_SpanOf.f (k + 1) a0 a1) := by
  intro a0 a1 k
  have ih0 := commonholdref_SpanOf.mono_l k
  unfold commonholdref_SpanOf.f
  repeat' first
      | (with_reducible exact ih0 _ _ _)
      | (with_reducible exact commonholdref_prefixRange.mono _ _)
      | (with_reducible exact LeO.refl _)
      | (with_reducible exact LeO.none _)
      | (with_reducible refine LeO.ite ?_ ?_)
      | (with_reducible refine LeO.bind ?_ (fun _ => ?_))
      | exact ih0 _ _ _
      | exact commonholdref_prefixRange.mono _ _
      | exact LeO.none _
      | refine LeO.ite ?_ ?_
      | refine LeO.bind ?_ (fun _ => ?_)
set_option maxHeartbeats 8000000 in
set_option maxRecDepth 100000 in
theorem commonholdref_SpanOf.calls (k : Nat) (a0 : Int) (a1 : Int) (r1 : List Int) (r2 : List Int) (r3 : Int) (w : World) (h : commonholdref_SpanOf.f k a0 a1 = some (r1, r2, r3)) :
    Calls Tryd.prog 41 #[.int .i64 a0, .int .i64 a1] w fun e w' => ∃ v0_ v1_ : Value, e = .returned (.tuple #[.agg #[v0_, v1_], .int .i64 r3]) ∧ Kd.R (Kd.int .u8) 5 w' w.heap.size (fun k_ => some k_ ≠ (v1_ : Value).ownBlock) v0_ r1 ∧ Kd.R (Kd.int .u8) 5 w' w.heap.size (fun k_ => some k_ ≠ (v0_ : Value).ownBlock) v1_ r2 ∧ Below w.heap.size w w' := by
  have hu56 := Tryd.underlying56
  have HB := Aside0.mk (Below.refl w.heap.size w)
  have H : (if a0 < 0 then (commonholdref_SpanOf.j0 k a0 a1 true) else (if a0 > 3 then (commonholdref_SpanOf.j0 k a0 a1 true) else (if a1 < 0 then (commonholdref_SpanOf.j0 k a0 a1 true) else (commonholdref_SpanOf.j0 k a0 a1 (decide (a1 > 2)))))) = some (r1, r2, r3) := h
  clear h
  have HC3 := Aside0.mk H
  clear H
  go_enter Tryd.func41, Tryd.ntmps41
  go_upto_region 1 with (first | ((with_reducible refine gate_dst (N := 4) rfl ?_); refine box_event ?hg (N := 4) ?hd (cs := #[.slice none 0 0, .slice none 0 0]) (t := 56) ?hr ?_; (case hd => rfl); (case hg => rfl); (case hr => first | (go_simp; done) | (go_simp; rfl)); intro gb156 hg w4 hbox hb; have n0_ := Aside0.mk (below_step (by repeat (first | (with_reducible first | exact HB.out | apply below_alloc | apply pw_below_drewN | apply below_drew1) | exact HB.out)) hb); have n1_ := Aside0.mk (hbox); have n2_ := Aside0.mk ((by rw [hg]; exact (below_size (by repeat (first | (with_reducible first | exact HB.out | apply below_alloc | apply pw_below_drewN | apply below_drew1) | exact HB.out))) : w.heap.size ≤ gb156)); have n3_ := Aside0.mk ((by rw [hg]; exact (below_size (by repeat (first | (with_reducible first | exact HB.out | apply below_alloc | apply pw_below_drewN | apply below_drew1) | exact HB.out))) : w.heap.size ≤ gb156)); clear HB; have HB := n0_; have BK156 := n1_; have GW156 := n2_; have GE156 := n3_; clear n0_ n1_ n2_ n3_; clear hb hbox hg))
  (try simp only [Act.put, List.setIfInBounds_toArray, List.set_cons_zero, List.set_cons_succ])
  go_cut [19] (fun v19 wc => ∃ (kq : Nat) (x19_2 : Bool), v19 = .bool x19_2 ∧ Aside0 (commonholdref_SpanOf.j0 kq a0 a1 x19_2 = some (r1, r2, r3)) ∧ Aside0 (kq ≤ k) ∧ Aside0 (wc.heap[gb156]? = some (.cells #[(.slice none 0 0), (.slice none 0 0)] 56 (0, 0))) ∧ Aside0 (Below w.heap.size w wc))
  case first =>
    have H := HC3.out
    clear HC3
    by_cases c5 : a0 < 0
    · rw [if_pos c5] at H
      have c5b0 : decide (a0 < 0) = true := decide_eq_true c5
      clear c5
      (first | rw [c5b0] | (simp only [i64_w, i32_w]; rw [c5b0]) | skip)
      have H' := Aside0.mk H
      clear H
      go_wp2
      go_meet
      case rel => exact ⟨_, (true), (by first | rfl | (simp; done) | (simp [*]; done)), H', ⟨by first | omega | exact Nat.le_refl _⟩, ⟨by (with_reducible repeat (first | refine blk_drewN ?_ _ | refine blk_drew ?_ | refine blk_alloc ?_ _)); exact BK156.out⟩, ⟨by repeat (first | (with_reducible first | exact HB.out | apply below_alloc | apply pw_below_drewN | apply below_drew1 | refine below_set ?_ GE156.out) | exact HB.out)⟩⟩
    · rw [if_neg c5] at H
      have c5b0 : decide (a0 < 0) = false := decide_eq_false c5
      clear c5
      (first | rw [c5b0] | (simp only [i64_w, i32_w]; rw [c5b0]) | skip)
      by_cases c6 : a0 > 3
      · rw [if_pos c6] at H
        have c6b0 : decide (3 < a0) = true := decide_eq_true c6
        clear c6
        have H' := Aside0.mk H
        clear H
        go_wp2
        go_meet
        case rel => exact ⟨_, (true), (by first | rfl | (simp; done) | (simp [*]; done)), H', ⟨by first | omega | exact Nat.le_refl _⟩, ⟨by (with_reducible repeat (first | refine blk_drewN ?_ _ | refine blk_drew ?_ | refine blk_alloc ?_ _)); exact BK156.out⟩, ⟨by repeat (first | (with_reducible first | exact HB.out | apply below_alloc | apply pw_below_drewN | apply below_drew1 | refine below_set ?_ GE156.out) | exact HB.out)⟩⟩
      · rw [if_neg c6] at H
        have c6b0 : decide (3 < a0) = false := decide_eq_false c6
        clear c6
        by_cases c7 : a1 < 0
        · rw [if_pos c7] at H
          have c7b0 : decide (a1 < 0) = true := decide_eq_true c7
          clear c7
          have H' := Aside0.mk H
          clear H
          go_wp2
          go_meet
          case rel => exact ⟨_, (true), (by first | rfl | (simp; done) | (simp [*]; done)), H', ⟨by first | omega | exact Nat.le_refl _⟩, ⟨by (with_reducible repeat (first | refine blk_drewN ?_ _ | refine blk_drew ?_ | refine blk_alloc ?_ _)); exact BK156.out⟩, ⟨by repeat (first | (with_reducible first | exact HB.out | apply below_alloc | apply pw_below_drewN | apply below_drew1 | refine below_set ?_ GE156.out) | exact HB.out)⟩⟩
        · rw [if_neg c7] at H
          have c7b0 : decide (a1 < 0) = false := decide_eq_false c7
          clear c7
          have H' := Aside0.mk H
          clear H
          go_wp2
          go_meet
          case rel => exact ⟨_, (decide (a1 > 2)), (by first | rfl | (simp; done) | (simp [*]; done)), H', ⟨by first | omega | exact Nat.le_refl _⟩, ⟨by (with_reducible repeat (first | refine blk_drewN ?_ _ | refine blk_drew ?_ | refine blk_alloc ?_ _)); exact BK156.out⟩, ⟨by repeat (first | (with_reducible first | exact HB.out | apply below_alloc | apply pw_below_drewN | apply below_drew1 | refine below_set ?_ GE156.out) | exact HB.out)⟩⟩
  case rest =>
    clear HC3
    try clear p2
    try clear c4
    try clear c5
    try clear c5b0
    try clear c6
    try clear c6b0
    try clear c7
    try clear c7b0
    obtain ⟨kq, x19_2, rfl, HA, HJ2, BK156, HB⟩ := hcut
    cases kq with
    | zero => exact absurd HA.out (by simp [commonholdref_SpanOf.j0])
    | succ kj2 =>
      have H := HA.out
      clear HA
      simp only [commonholdref_SpanOf.j0] at H
      by_cases c8 : x19_2 = true
      · subst c8
        have H1 : (some (([] : List Int), ([] : List Int), 2)) = some (r1, r2, r3) := by rw [if_pos rfl] at H; exact H
        clear H
        have H := H1
        clear H1
        simp only [Option.some.injEq, Prod.mk.injEq] at H
        obtain ⟨rfl, rfl, rfl⟩ := H
        have hcz9_0 : wc.cell? ⟨gb156, 0, none⟩ = some (.slice none 0 0) := (blk_cell BK156.out 0).trans rfl
        have hcz9_1 : wc.cell? ⟨gb156, 1, none⟩ = some (.slice none 0 0) := (blk_cell BK156.out 1).trans rfl
        have hfz9_0 := blk_frozen BK156.out 0
        have hfz9_1 := blk_frozen BK156.out 1
        go_wp2
        refine bodyPost_ret (results_ct rfl _ _ gb156 56 #[.slice none 0 0, .slice none 0 0] (0, 0) _ rfl (by (with_reducible repeat (first | refine blk_drewN ?_ _ | refine blk_drew ?_ | refine blk_alloc ?_ _)); refine blk_put (cs := #[.slice none 0 0, .slice none 0 0]) ?_ 1 _ rfl; (with_reducible repeat (first | refine blk_drewN ?_ _ | refine blk_drew ?_ | refine blk_alloc ?_ _)); refine blk_put (cs := #[.slice none 0 0, .slice none 0 0]) ?_ 0 _ rfl; (with_reducible repeat (first | refine blk_drewN ?_ _ | refine blk_drew ?_ | refine blk_alloc ?_ _)); exact BK156.out) Tryd.underlying56 rfl (by kernel_rfl)) rfl ?_
        exact ⟨_, _, by first | rfl | (simp [errW_none, errW_some] <;> rfl) | (simp [*, errW_none, errW_some] <;> rfl), by first | exact Kd.R_nil _ _ _ _ _ | exact Kd.N_nil _ _ _ _ _ | exact Kd.V_nil _ _ _ _ _ | exact Kd.Q_nil _ _ _ _ _ | exact Kd.S_nil _ _ _ _ _, by first | exact Kd.R_nil _ _ _ _ _ | exact Kd.N_nil _ _ _ _ _ | exact Kd.V_nil _ _ _ _ _ | exact Kd.Q_nil _ _ _ _ _ | exact Kd.S_nil _ _ _ _ _, by repeat (first | (with_reducible first | exact HB.out | apply below_alloc | apply pw_below_drewN | apply below_drew1 | refine below_set ?_ GE156.out) | exact HB.out)⟩
      · replace c8 := Bool.eq_false_iff.mpr c8
        subst c8
        have H1 : ((commonholdref_whole.f a0).bind fun bt157 => ((commonholdref_whole.f a1).bind fun bt160 => ((commonholdref_prefixRange.f kj2 (([(⟨bt157.1, bt157.2.1, bt157.2.2⟩ : S23), (⟨bt160.1, bt160.2.1, bt160.2.2⟩ : S23)] : List (S23)))).bind fun bt166 => (some (bt166.1, bt166.2, 0))))) = some (r1, r2, r3) := by rw [if_neg (show ¬ (false = true) by decide)] at H; exact H
        clear H
        have H := H1
        clear H1
        replace H := Option.bind_eq_some_iff.mp H
        obtain ⟨⟨t157, t158, t159⟩, A100, H⟩ := H
        replace H : ((commonholdref_whole.f a1).bind fun bt160 => ((commonholdref_prefixRange.f kj2 (([(⟨t157, t158, t159⟩ : S23), (⟨bt160.1, bt160.2.1, bt160.2.2⟩ : S23)] : List (S23)))).bind fun bt166 => (some (bt166.1, bt166.2, 0)))) = some (r1, r2, r3) := H
        have A10 := Aside0.mk A100
        clear A100
        replace H := Option.bind_eq_some_iff.mp H
        obtain ⟨⟨t160, t161, t162⟩, A110, H⟩ := H
        replace H : ((commonholdref_prefixRange.f kj2 (([(⟨t157, t158, t159⟩ : S23), (⟨t160, t161, t162⟩ : S23)] : List (S23)))).bind fun bt166 => (some (bt166.1, bt166.2, 0))) = some (r1, r2, r3) := H
        have A11 := Aside0.mk A110
        clear A110
        obtain ⟨y163, hy163⟩ : ∃ y_ : List (S23), y_ = (([(⟨t157, t158, t159⟩ : S23), (⟨t160, t161, t162⟩ : S23)] : List (S23))) := ⟨_, rfl⟩
        replace H : ((commonholdref_prefixRange.f kj2 y163).bind fun bt166 => (some (bt166.1, bt166.2, 0))) = some (r1, r2, r3) := by first | (rw [hy163]; with_reducible exact H) | (have H2_ := (Option.bind_some _ _).symm.trans H; rw [hy163]; with_reducible exact H2_) | (have H2_ := (Option.bind_some _ _).symm.trans H; with_reducible exact H2_) | with_reducible exact H | (rw [hy163]; exact H) | exact H
        have Ny163 := Aside0.mk hy163
        clear hy163
        replace H := Option.bind_eq_some_iff.mp H
        obtain ⟨⟨t166, t169⟩, A120, H⟩ := H
        replace H : (some (t166, t169, 0)) = some (r1, r2, r3) := H
        have A12 := Aside0.mk A120
        clear A120
        simp only [Option.some.injEq, Prod.mk.injEq] at H
        obtain ⟨rfl, rfl, rfl⟩ := H
        go_wp2_with (first | ((with_reducible refine gate_callee (f := 67) rfl ?_); refine goesL_ (some 22) rfl rfl Tryd.func67 (by kernel_rfl) rfl #[.int .i64 a0] rfl (by (try simp only [List.map_toArray, List.map_cons, List.map_nil]); first | done | rfl | (simp only [List.length_drop, List.length_take]; rfl)) ?_; (with_reducible refine (commonholdref_whole.calls a0 t157 t158 t159 _ A10.out).mono ?_); rintro e w13 ⟨rfl, hb⟩; refine ⟨_, rfl, ?_⟩; have n0_ := Aside0.mk (blk_below (g := gb156) (o := .cells #[.slice none 0 0, .slice none 0 0] 56 (0, 0)) (by (with_reducible repeat (first | refine blk_drewN ?_ _ | refine blk_drew ?_ | refine blk_alloc ?_ _)); exact BK156.out) hb); have n1_ := Aside0.mk (below_step (by repeat (first | (with_reducible first | exact HB.out | apply below_alloc | apply pw_below_drewN | apply below_drew1 | refine below_set ?_ GE156.out) | exact HB.out)) hb); clear BK156; clear HB; have BK156 := n0_; have HB := n1_; clear n0_ n1_; (try clear hb); (try clear hb2); (try clear hk); (try clear hi)) | ((with_reducible refine gate_callee (f := 67) rfl ?_); refine goesL_ (some 24) rfl rfl Tryd.func67 (by kernel_rfl) rfl #[.int .i64 a1] rfl (by (try simp only [List.map_toArray, List.map_cons, List.map_nil]); first | done | rfl | (simp only [List.length_drop, List.length_take]; rfl)) ?_; (with_reducible refine (commonholdref_whole.calls a1 t160 t161 t162 _ A11.out).mono ?_); rintro e w14 ⟨rfl, hb⟩; refine ⟨_, rfl, ?_⟩; have n0_ := Aside0.mk (blk_below (g := gb156) (o := .cells #[.slice none 0 0, .slice none 0 0] 56 (0, 0)) (by (with_reducible repeat (first | refine blk_drewN ?_ _ | refine blk_drew ?_ | refine blk_alloc ?_ _)); exact BK156.out) hb); have n1_ := Aside0.mk (below_step (by repeat (first | (with_reducible first | exact HB.out | apply below_alloc | apply pw_below_drewN | apply below_drew1 | refine below_set ?_ GE156.out) | exact HB.out)) hb); clear BK156; clear HB; have BK156 := n0_; have HB := n1_; clear n0_ n1_; (try clear hb); (try clear hb2); (try clear hk); (try clear hi)) | ((with_reducible refine gate_dst (N := 25) rfl ?_); refine Kd.R_lit k23 _ 23 ?hg (N := 25) ?hd (xs := ([(⟨t157, t158, t159⟩ : S23), (⟨t160, t161, t162⟩ : S23)] : List (S23))) (inner := [.int .i64 t157, .int .i64 t158, .string t159, .int .i64 t160, .int .i64 t161, .string t162]) (ok := fun _ => True) (okp := fun _ => True) ?hr ?hp (fun _ hk => hk) trivial (Below.refl _ _) (Nat.le_refl _) (by simp) ?_; (case hd => rfl); (case hg => rfl); (case hr => first | (go_simp; done) | (go_simp; rfl)); (case hp => exact (Reps.c3 (show Kd.M k23 _ _ _ (⟨t157, t158, t159⟩ : S23) [.int .i64 t157, .int .i64 t158, .string t159] from (k23_mkM _ _ _ (⟨t157, t158, t159⟩ : S23) )) (Reps.c3 (show Kd.M k23 _ _ _ (⟨t160, t161, t162⟩ : S23) [.int .i64 t160, .int .i64 t161, .string t162] from (k23_mkM _ _ _ (⟨t160, t161, t162⟩ : S23) )) (Reps.none _ _)))); intro v164 w15 ho16 hb hg_ hnew_; clear hg_ hnew_; (first | rw [← Ny163.out] at ho16 | (simp only [Int.reduceToNat] at ho16; rw [← Ny163.out] at ho16)); have n0_ := Aside0.mk (Kd.R_lower ho16 (below_size (by repeat (first | (with_reducible first | exact HB.out | apply below_alloc | apply pw_below_drewN | apply below_drew1 | refine below_set ?_ GE156.out) | exact HB.out)))); have n1_ := Aside0.mk (blk_below (g := gb156) (o := .cells #[.slice none 0 0, .slice none 0 0] 56 (0, 0)) (by (with_reducible repeat (first | refine blk_drewN ?_ _ | refine blk_drew ?_ | refine blk_alloc ?_ _)); exact BK156.out) hb); have n2_ := Aside0.mk (below_step (by repeat (first | (with_reducible first | exact HB.out | apply below_alloc | apply pw_below_drewN | apply below_drew1 | refine below_set ?_ GE156.out) | exact HB.out)) hb); clear BK156; clear HB; have HO165 := n0_; have BK156 := n1_; have HB := n2_; clear n0_ n1_ n2_; clear hb ho16; obtain ⟨Ao17, co17, eo17⟩ := Kd.R_slice HO165.out; subst eo17) | ((with_reducible refine gate_callee (f := 66) rfl ?_); refine goesL_ (some 26) rfl rfl Tryd.func66 (by kernel_rfl) rfl #[.slice Ao17 y163.length co17] rfl (by (try simp only [List.map_toArray, List.map_cons, List.map_nil]); first | done | rfl | (simp only [List.length_drop, List.length_take]; rfl)) ?_; (with_reducible refine (commonholdref_prefixRange.calls kj2 _ _ y163 t166 t169 _ ?side1 ?side2 A12.out).mono ?_); (case side1 => repeat (first | exact (Kd.R_reads' HO165.out).2.2 | (with_reducible refine Kd.C_alloc ?_ _) | (with_reducible refine Kd.C_drewN ?_ _) | (with_reducible refine Kd.C_drew ?_))); (case side2 => exact (Kd.R_reads' HO165.out).2.1); rintro e w18 ⟨v167, v170, rfl, ho0, ho1, hb⟩; refine ⟨_, rfl, ?_⟩; have n0_ := Aside0.mk (Kd.R_below (by (with_reducible repeat (first | apply Kd.R_alloc | apply Kd.R_drewN | apply Kd.R_drew)); exact HO165.out) hb); have n1_ := Aside0.mk (Kd.R_lower ho0 (below_size (by repeat (first | (with_reducible first | exact HB.out | apply below_alloc | apply pw_below_drewN | apply below_drew1 | refine below_set ?_ GE156.out) | exact HB.out)))); have n2_ := Aside0.mk (Kd.R_lower ho1 (below_size (by repeat (first | (with_reducible first | exact HB.out | apply below_alloc | apply pw_below_drewN | apply below_drew1 | refine below_set ?_ GE156.out) | exact HB.out)))); have n3_ := Aside0.mk (blk_below (g := gb156) (o := .cells #[.slice none 0 0, .slice none 0 0] 56 (0, 0)) (by (with_reducible repeat (first | refine blk_drewN ?_ _ | refine blk_drew ?_ | refine blk_alloc ?_ _)); exact BK156.out) hb); have n4_ := Aside0.mk (below_step (by repeat (first | (with_reducible first | exact HB.out | apply below_alloc | apply pw_below_drewN | apply below_drew1 | refine below_set ?_ GE156.out) | exact HB.out)) hb); clear HO165; clear BK156; clear HB; have HO165 := n0_; have HO168 := n1_; have HO171 := n2_; have BK156 := n3_; have HB := n4_; clear n0_ n1_ n2_ n3_ n4_; (try clear hb); (try clear hb2); (try clear hk); (try clear hi); (try clear ho0); (try clear ho1); obtain ⟨Ao19, co19, eo19⟩ := Kd.R_slice HO168.out; subst eo19; have hcz20_0 : w18.cell? ⟨gb156, 0, none⟩ = some (.slice none 0 0) := (blk_cell BK156.out 0).trans rfl; have hcz20_1 : w18.cell? ⟨gb156, 1, none⟩ = some (.slice none 0 0) := (blk_cell BK156.out 1).trans rfl; have hfz20_0 := blk_frozen BK156.out 0; have hfz20_1 := blk_frozen BK156.out 1; obtain ⟨Ao21, co21, eo21⟩ := Kd.R_slice HO171.out; subst eo21))
        refine bodyPost_ret (results_ct rfl _ _ gb156 56 #[.slice Ao19 t166.length co19, .slice Ao21 t169.length co21] (0, 0) _ rfl (by (with_reducible repeat (first | refine blk_drewN ?_ _ | refine blk_drew ?_ | refine blk_alloc ?_ _)); refine blk_put (cs := #[.slice Ao19 t166.length co19, .slice none 0 0]) ?_ 1 _ rfl; (with_reducible repeat (first | refine blk_drewN ?_ _ | refine blk_drew ?_ | refine blk_alloc ?_ _)); refine blk_put (cs := #[.slice none 0 0, .slice none 0 0]) ?_ 0 _ rfl; (with_reducible repeat (first | refine blk_drewN ?_ _ | refine blk_drew ?_ | refine blk_alloc ?_ _)); exact BK156.out) Tryd.underlying56 rfl (by kernel_rfl)) rfl ?_
        exact ⟨_, _, by first | rfl | (simp [errW_none, errW_some] <;> rfl) | (simp [*, errW_none, errW_some] <;> rfl), by (with_reducible repeat (first | apply Kd.R_alloc | apply Kd.R_drewN | apply Kd.R_drew)); exact Kd.R_mono (Kd.R_far (p := ⟨gb156, 1, none⟩) (Kd.R_far (p := ⟨gb156, 0, none⟩) (Kd.R_types HO168.out BK156.out (by decide)) (fun _ hk => hk.2) (.slice Ao19 t166.length co19)) (fun _ hk => hk.2) (.slice Ao21 t169.length co21)) (fun _ hk => hk.1), by (with_reducible repeat (first | apply Kd.R_alloc | apply Kd.R_drewN | apply Kd.R_drew)); exact Kd.R_mono (Kd.R_far (p := ⟨gb156, 1, none⟩) (Kd.R_far (p := ⟨gb156, 0, none⟩) (Kd.R_types HO171.out BK156.out (by decide)) (fun _ hk => hk.2) (.slice Ao19 t166.length co19)) (fun _ hk => hk.2) (.slice Ao21 t169.length co21)) (fun _ hk => hk.1), by repeat (first | (with_reducible first | exact HB.out | apply below_alloc | apply pw_below_drewN | apply below_drew1 | refine below_set ?_ GE156.out) | exact HB.out)⟩

end Go.Proofs.YtdepkigheacdnaaDoor.PRowSpans
