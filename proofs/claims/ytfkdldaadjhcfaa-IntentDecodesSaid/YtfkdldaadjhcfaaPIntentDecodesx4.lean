-- Written by wip/pp of this repo (over the kit's print, with additions of this session); Lean checks every line.
import Derived.Test.YtfkdldaadjhcfaaPIntentDecodesx0
import Derived.Test.YtfkdldaadjhcfaaPIntentDecodesx2
import Derived.Test.YtfkdldaadjhcfaaPIntentDecodesx3
namespace Go.Proofs.Ytfkdldaadjhcfaa.PIntentDecodes
open Go.RowKit Go.Proofs.YtfkdldaadjhcfaaW.PrintWords Go.Proofs.YtfkdldaadjhcfaaW.PrintLast Go.Proofs.YtfkdldaadjhcfaaW.PrintMore
attribute [local go_sem] max2_int min2_int max_two min_two max_three min_three max_four min_four   -- for this text's walks alone
set_option linter.unusedVariables false
set_option linter.unusedSimpArgs false

/-! ### intent_Decode: function 13, by hand -/
-- HAND rounds=1 making=1 alone=1 after=71 after=43 imports=Derived.Laws.Cover3,Derived.Deep.Heap,Derived.Deep.RegionHeld3,Derived.Deep.RegionWith,Derived.Laws.Slices,Derived.Laws.BitsAllLaws
-- INFO 5
-- INFO 83
-- INFO 88
def intent_Decode.take (s : (List Int × Bool)) (n : Nat) : List Int × (List Int × Bool) := if s.2 = true ∨ s.1.length < n then ([], (s.1, true)) else (s.1.take n, (s.1.drop n, false))
def intent_Decode.le (l : List Int) : Int := rd l 0 + rd l 1 * 256 + rd l 2 * 65536 + rd l 3 * 16777216
def intent_Decode.num (s : (List Int × Bool)) : Int × (List Int × Bool) := (intent_Decode.le (intent_Decode.take s 4).1, (intent_Decode.take s 4).2)
def intent_Decode.text (s : (List Int × Bool)) : List Int × (List Int × Bool) := intent_Decode.take (intent_Decode.num s).2 (intent_Decode.num s).1.toNat
/-- The tape at block g. -/
def intent_Decode.At (w0 w : World) (g : Nat) (s : (List Int × Bool)) : Prop := ∃ A c, w.heap[g]? = some (.cells #[.slice A s.1.length c, .bool s.2] 79 (0, 0)) ∧ s.1.length ≤ c ∧ Kd.C (Kd.int .u8) w0 A s.1.length s.1 ∧ Below w0.heap.size w0 w ∧ w0.heap.size ≤ g
theorem intent_Decode.cut_hm {P : Program} (t e : TypeId) {i : TypeInfo} (ht : P.underlying t = some (.slice e)) (hi : P.info? e = some i) (A : Option Addr) (n c : Nat) (j : Int) (h0 : 0 ≤ j) (hm : j ≤ n) (hc : n ≤ c) :
    ∀ W : World, (Instr.slice t (.slice A n c) none (some (.int .i64 j)) (some (.int .i64 j))).run P W = .ok (.slice A j.toNat j.toNat) W := by
  intro W
  have hel : P.elem t = e := by simp [Program.elem, ht]
  have hu : P.underlying t = some (.slice (P.elem t)) := by rw [hel]; exact ht
  have ha : (A.map fun x => x.add 0) = A := by cases A <;> simp [Addr.add]
  rw [run_slice_hm W t A n c hu .i64 .i64 j j h0 (Int.le_refl _) (by omega), hel]
  simp [sizeOf, typeInfo, hi, sliced, Result.andThen, ha]
theorem intent_Decode.At.keep {w0 w w' : World} {g q : Nat} {s : (List Int × Bool)} (h : intent_Decode.At w0 w g s) (hk : KeepBut w w' q none) (hq : g ≠ q) (hb : Below w0.heap.size w0 w') : intent_Decode.At w0 w' g s := by
  obtain ⟨A, c, hg, hc, hC, _, hge⟩ := h
  exact ⟨A, c, hk.blk hg hq (by simp), hc, hC, hb, hge⟩
/-- What is handed back: bytes of w0; the tape stands at s now. -/
def intent_Decode.Out (w0 w : World) (g : Nat) (out : List Int) (s : (List Int × Bool)) (e : Ending) (w' : World) : Prop := ∃ A c, e = .returned (.slice A out.length c) ∧ out.length ≤ c ∧ Kd.C (Kd.int .u8) w0 A out.length out ∧ intent_Decode.At w0 w' g s ∧ KeepBut w w' g none
set_option maxRecDepth 100000 in
set_option maxHeartbeats 2000000 in
theorem intent_Decode.take_ (w0 w : World) (g : Nat) (s : (List Int × Bool)) (n : Nat) (hs : intent_Decode.At w0 w g s) (hn : n ≤ 9223372036854775807) :
    Calls Try.prog 42 #[.pointer (some ⟨g, 0, none⟩), .int .i64 n] w (intent_Decode.Out w0 w g (intent_Decode.take s n).1 (intent_Decode.take s n).2) := by
  obtain ⟨l, bad⟩ := s
  obtain ⟨A, c, hg, hc, hC, hB, hge⟩ := hs
  have c0 : w.cell? ⟨g, 0, none⟩ = some (.slice A l.length c) := (blk_cell hg 0).trans rfl
  have c1 : w.cell? ⟨g, 1, none⟩ = some (.bool bad) := (blk_cell hg 1).trans rfl
  have f0 : w.frozen? ⟨g, 0, none⟩ = false := (blk_frozen hg 0).trans rfl
  have f1 : w.frozen? ⟨g, 1, none⟩ = false := (blk_frozen hg 1).trans rfl
  have HG := Aside0.mk hg
  have HC := Aside0.mk hC
  have HB := Aside0.mk hB
  have hm := hC.2.1
  replace hc : l.length ≤ c := hc
  replace hm : l.length ≤ 9223372036854775807 := hm
  clear hg hC hB
  by_cases hb : bad = true ∨ l.length < n
  · have ht : intent_Decode.take (l, bad) n = ([], (l, true)) := by simp only [intent_Decode.take]; rw [if_pos hb]
    rw [ht]
    clear ht
    have hend : intent_Decode.At w0 (w.setCell ⟨g, 1, none⟩ (.bool true)) g (l, true) ∧ KeepBut w (w.setCell ⟨g, 1, none⟩ (.bool true)) g none :=
      ⟨⟨A, c, blk_put HG.out 1 _ rfl, hc, HC.out, HB.out.setCell (p := ⟨g, 1, none⟩) hge _, hge⟩, (KeepBut.refl _ _ _).set_ _ _⟩
    have HE := Aside0.mk hend
    clear hend
    cases bad with
    | true =>
      clear hb
      go_enter Try.func42, Try.ntmps42
      go_wp2
      go_ret
      exact ⟨none, 0, rfl, Nat.le_refl _, Kd.C_nil _ _, HE.out.1, HE.out.2⟩
    | false =>
      have hlt : l.length < n := by simpa using hb
      have hd : decide (l.length < n) = true := by simpa using hlt
      clear hb
      go_enter Try.func42, Try.ntmps42
      go_wp2
      go_ret
      exact ⟨none, 0, rfl, Nat.le_refl _, Kd.C_nil _ _, HE.out.1, HE.out.2⟩
  · have hbf : bad = false := by cases bad <;> simp_all
    subst hbf
    have hle : n ≤ l.length := by simp at hb; exact hb
    have ht : intent_Decode.take (l, false) n = (l.take n, (l.drop n, false)) := by simp only [intent_Decode.take]; rw [if_neg hb]
    rw [ht]
    clear ht hb
    have hd : decide (l.length < n) = false := by simp; omega
    obtain ⟨i0, hi0, _, hsz, _⟩ := info_parts info5
    have hcut := intent_Decode.cut_hm (P := Try.prog) 30 5 Try.underlying30 hi0 A l.length c (n : Int) (by omega) (by omega) hc
    rw [Int.toNat_natCast] at hcut
    have hcut2 := cut_from (P := Try.prog) 30 5 .i64 Try.underlying30 hi0 1 hsz A l.length c (n : Int) (by omega) (by omega)
    rw [Int.toNat_natCast] at hcut2
    have hr1 := Kd.C_take HC.out hle
    have hr2 := Kd.C_drop HC.out hle hc
    obtain ⟨A1, hA1⟩ : ∃ A1, A1 = (if c = n then A else A.map (·.add (n * 1))) := ⟨_, rfl⟩
    obtain ⟨l1, hl1⟩ : ∃ l1, l1 = l.take n := ⟨_, rfl⟩
    obtain ⟨l2, hl2⟩ : ∃ l2, l2 = l.drop n := ⟨_, rfl⟩
    have hr3 : Kd.C (Kd.int .u8) w0 A1 l2.length l2 := by rw [hA1, hl2]; exact hr2
    have hy1 : l1.length = n := by rw [hl1, List.length_take]; omega
    have hy2 : l2.length = l.length - n := by rw [hl2]; exact List.length_drop
    rw [← hA1, ← hy2] at hcut2
    rw [← hl1] at hr1
    rw [← hl1, ← hl2]
    have hcut3 : ∀ W : World, (Instr.slice 30 (.slice A l.length c) none (some (.int .i64 (n : Int))) (some (.int .i64 (n : Int)))).run Try.prog W = .ok (.slice A l1.length n) W := by rw [hy1]; exact hcut
    have HR1 := Aside0.mk hr1
    have HY := Aside0.mk hy1
    have hend : intent_Decode.At w0 (w.setCell ⟨g, 0, none⟩ (.slice A1 l2.length (c - n))) g (l2, false) ∧ KeepBut w (w.setCell ⟨g, 0, none⟩ (.slice A1 l2.length (c - n))) g none :=
      ⟨⟨A1, c - n, blk_put HG.out 0 _ rfl, by show l2.length ≤ c - n; omega, hr3, HB.out.setCell (p := ⟨g, 0, none⟩) hge _, hge⟩, (KeepBut.refl _ _ _).set_ _ _⟩
    have HE := Aside0.mk hend
    clear hend hr1 hr2 hr3 hA1 hy1 hy2 hi0 hsz hl1 hl2 hcut
    go_enter Try.func42, Try.ntmps42
    go_wp2
    go_ret
    exact ⟨A, n, rfl, by rw [HY.out]; exact Nat.le_refl _, HR1.out, HE.out.1, HE.out.2⟩
def intent_Decode.NumOut (w0 w : World) (g : Nat) (s : (List Int × Bool)) (e : Ending) (w' : World) : Prop := e = .returned (.int .i64 (intent_Decode.num s).1) ∧ intent_Decode.At w0 w' g (intent_Decode.num s).2 ∧ KeepBut w w' g none
def intent_Decode.b8 (l : List Int) : Prop := ∀ x ∈ l, 0 ≤ x ∧ x ≤ 255
theorem intent_Decode.or_i64 (a b : Nat) (ha : a < 2 ^ 63) (hb : b < 2 ^ 63) : Go.bits .or .i64 (a : Int) (b : Int) = ((a ||| b : Nat) : Int) := by
  show IntKind.i64.wrap ((BitVec.ofInt 64 (a : Int) ||| BitVec.ofInt 64 (b : Int)).toNat : Int) = _
  rw [BitVec.toNat_or, ofInt_u64 a (by omega), ofInt_u64 b (by omega)]
  have h := Nat.or_lt_two_pow ha hb
  rw [IntKind.wrap_i64]
  omega
theorem intent_Decode.or_up (a x i : Nat) (ha : a < 2 ^ i) (hi : i ≤ 24) (hx : x ≤ 255) : Go.bits .or .i64 (a : Int) ((x * 2 ^ i : Nat) : Int) = (a : Int) + (x : Int) * 2 ^ i := by
  have h2 : (2 : Nat) ^ i ≤ 2 ^ 24 := Nat.pow_le_pow_right (by decide) hi
  have h3 : x * 2 ^ i ≤ 255 * 2 ^ 24 := Nat.mul_le_mul hx h2
  rw [intent_Decode.or_i64 a _ (by omega) (by omega), Nat.or_comm, Nat.mul_comm, ← Nat.two_pow_add_eq_or_of_lt ha x]
  rw [Int.natCast_add, Int.natCast_mul, Int.natCast_pow]
  rw [Int.add_comm, Int.mul_comm]
  rfl
theorem intent_Decode.or_step (o : List Int) (h4 : o.length = 4) (hb : intent_Decode.b8 o) (k : Nat) (hk : k < o.length) : Go.bits .or .i64 (intent_Decode.le (o.take k)) (wrap64 (wrap64 (rd o k) * 2 ^ (8 * k))) = intent_Decode.le (o.take (k + 1)) := by
  match o, h4 with
  | [a, b, c, d], _ =>
  have ha := hb a (by simp)
  have hb' := hb b (by simp)
  have hc := hb c (by simp)
  have hd := hb d (by simp)
  obtain ⟨a, rfl⟩ := Int.eq_ofNat_of_zero_le ha.1
  obtain ⟨b, rfl⟩ := Int.eq_ofNat_of_zero_le hb'.1
  obtain ⟨c, rfl⟩ := Int.eq_ofNat_of_zero_le hc.1
  obtain ⟨d, rfl⟩ := Int.eq_ofNat_of_zero_le hd.1
  have wr : ∀ (x i : Nat), x ≤ 255 → i ≤ 24 → wrap64 (wrap64 (x : Int) * 2 ^ i) = ((x * 2 ^ i : Nat) : Int) := by
    intro x i hx hi
    have h2 : (2 : Nat) ^ i ≤ 2 ^ 24 := Nat.pow_le_pow_right (by decide) hi
    have h3 : x * 2 ^ i ≤ 255 * 2 ^ 24 := Nat.mul_le_mul hx h2
    have e1 : wrap64 (x : Int) = x := by unfold wrap64; omega
    rw [e1, show (x : Int) * 2 ^ i = ((x * 2 ^ i : Nat) : Int) from by rw [Int.natCast_mul, Int.natCast_pow]; rfl]
    unfold wrap64
    omega
  have hk4 : k < 4 := hk
  rcases (by omega : k = 0 ∨ k = 1 ∨ k = 2 ∨ k = 3) with rfl | rfl | rfl | rfl
  · have h := intent_Decode.or_up 0 a 0 (by decide) (by decide) (by omega)
    rw [show rd [(a : Int), b, c, d] ((0 : Nat) : Int) = a from rfl, wr a _ (by omega) (by omega), show intent_Decode.le (List.take 0 [(a : Int), b, c, d]) = ((0 : Nat) : Int) from rfl, h]
    simp [intent_Decode.le, rd]
  · have h := intent_Decode.or_up a b 8 (by omega) (by decide) (by omega)
    rw [show rd [(a : Int), b, c, d] ((1 : Nat) : Int) = b from rfl, wr b _ (by omega) (by omega), show intent_Decode.le (List.take 1 [(a : Int), b, c, d]) = (a : Int) from by simp [intent_Decode.le, rd], h]
    simp [intent_Decode.le, rd]
  · have h := intent_Decode.or_up (a + b * 256) c 16 (by omega) (by decide) (by omega)
    rw [show rd [(a : Int), b, c, d] ((2 : Nat) : Int) = c from rfl, wr c _ (by omega) (by omega), show intent_Decode.le (List.take 2 [(a : Int), b, c, d]) = ((a + b * 256 : Nat) : Int) from by simp [intent_Decode.le, rd], h]
    simp [intent_Decode.le, rd]
  · have h := intent_Decode.or_up (a + b * 256 + c * 65536) d 24 (by omega) (by decide) (by omega)
    rw [show rd [(a : Int), b, c, d] ((3 : Nat) : Int) = d from rfl, wr d _ (by omega) (by omega), show intent_Decode.le (List.take 3 [(a : Int), b, c, d]) = ((a + b * 256 + c * 65536 : Nat) : Int) from by simp [intent_Decode.le, rd], h]
    simp [intent_Decode.le, rd]
set_option maxRecDepth 100000 in
set_option maxHeartbeats 2000000 in
theorem intent_Decode.num_ (w0 w : World) (g : Nat) (s : (List Int × Bool)) (hs : intent_Decode.At w0 w g s) (hb : intent_Decode.b8 s.1) :
    Calls Try.prog 36 #[.pointer (some ⟨g, 0, none⟩)] w (intent_Decode.NumOut w0 w g s) := by
  have HT : Aside0 (Calls Try.prog 42 #[.pointer (some ⟨g, 0, none⟩), .int .i64 4] w (intent_Decode.Out w0 w g (intent_Decode.take s 4).1 (intent_Decode.take s 4).2)) := ⟨intent_Decode.take_ w0 w g s 4 hs (by decide)⟩
  have HL : Aside0 ((intent_Decode.take s 4).1 = [] ∨ (intent_Decode.take s 4).1.length = 4 ∧ intent_Decode.b8 (intent_Decode.take s 4).1) := by
    refine ⟨?_⟩
    unfold intent_Decode.take
    split
    · exact .inl rfl
    · rename_i h
      refine .inr ⟨by rw [List.length_take]; omega, fun x hx => hb x (List.mem_of_mem_take hx)⟩
  obtain ⟨o, ho⟩ : ∃ o, o = (intent_Decode.take s 4).1 := ⟨_, rfl⟩
  obtain ⟨s1, hs1⟩ : ∃ s1, s1 = (intent_Decode.take s 4).2 := ⟨_, rfl⟩
  rw [← ho, ← hs1] at HT
  rw [← ho] at HL
  have HR : Aside0 (intent_Decode.num s = (intent_Decode.le o, s1)) := ⟨by rw [ho, hs1]; rfl⟩
  clear ho hs1 hs hb
  go_enter Try.func36, Try.ntmps36
  go_wp2_with (go_at_call 42; (with_reducible refine HT.out.mono ?_); rintro e w1 ⟨A, c, rfl, hc, hC, hA, hk⟩; have HC := Aside0.mk hC; have HA := Aside0.mk hA; have HK := Aside0.mk hk; clear hC hA hk)
  have hm : o.length ≤ 4 := by rcases HL.out with h | ⟨h, _⟩ <;> simp [h]
  go_loop [3, 4, 5, 9] (fun n _ _ i => ∃ k : Nat, k ≤ o.length ∧ i = .int .i64 k ∧ n = .int .i64 (intent_Decode.le (o.take k))) (fun _ _ _ i => o.length - (intOf i).toNat)
  case atStart => exact ⟨0, Nat.zero_le _, rfl, rfl⟩
  case round =>
    obtain ⟨k, hk, rfl, rfl⟩ := hrel
    by_cases hlt : k < o.length
    · obtain ⟨ad, rfl, hcell⟩ := Kd.at_int (Kd.C_below HC.out (HA.out.choose_spec.choose_spec.2.2.2.1)) (k : Int) (by omega) (by omega)
      rw [Int.toNat_natCast] at hcell
      have hk8 : IntKind.i64.wrap (8 * (k : Int)) = 8 * (k : Int) := by rw [IntKind.wrap_i64]; omega
      go_wp2
      go_round
      case rel =>
        refine ⟨k + 1, by omega, by go_num, ?_⟩
        rw [intent_Decode.or_step o (by rcases HL.out with h | h; (rw [h] at hlt; cases hlt); exact h.1) (by rcases HL.out with h | h; (rw [h] at hlt; cases hlt); exact h.2) k hlt]
      case measure => simp [intOf]; omega
    · obtain rfl : k = o.length := by omega
      go_wp2
      go_ret
      exact ⟨by rw [HR.out]; rfl, by rw [HR.out]; exact HA.out, HK.out⟩
theorem intent_Decode.take_b8 {s : (List Int × Bool)} (h : intent_Decode.b8 s.1) (n : Nat) : intent_Decode.b8 (intent_Decode.take s n).1 ∧ intent_Decode.b8 (intent_Decode.take s n).2.1 := by
  unfold intent_Decode.take
  split
  · exact ⟨fun x hx => (List.not_mem_nil hx).elim, h⟩
  · exact ⟨fun x hx => h x (List.mem_of_mem_take hx), fun x hx => h x (List.mem_of_mem_drop hx)⟩
theorem intent_Decode.take_len (s : (List Int × Bool)) (n : Nat) : (intent_Decode.take s n).1.length ≤ s.1.length ∧ (intent_Decode.take s n).2.1.length ≤ s.1.length ∧ ((intent_Decode.take s n).2.2 = false → s.2 = false ∧ (intent_Decode.take s n).2.1.length + n = s.1.length) := by
  unfold intent_Decode.take
  split
  · exact ⟨by simp, Nat.le_refl _, fun h => by cases h⟩
  · rename_i h
    refine ⟨by simp; omega, by simp, fun _ => ⟨by cases hs : s.2 <;> simp_all, by simp; omega⟩⟩
theorem intent_Decode.le_range {o : List Int} (h : intent_Decode.b8 o) : 0 ≤ intent_Decode.le o ∧ intent_Decode.le o ≤ 4294967295 := by
  have hr : ∀ i : Int, 0 ≤ rd o i ∧ rd o i ≤ 255 := by
    intro i
    by_cases hi : i.toNat < o.length
    · rw [rd, List.getD_eq_getElem?_getD, List.getElem?_eq_getElem hi]
      exact h _ (List.getElem_mem hi)
    · rw [rd, List.getD_eq_getElem?_getD, List.getElem?_eq_none (by omega)]
      exact ⟨by decide, by decide⟩
  have h0 := hr 0
  have h1 := hr 1
  have h2 := hr 2
  have h3 := hr 3
  unfold intent_Decode.le
  omega
/-- A text: made new. -/
def intent_Decode.TxtOut (w0 w : World) (g : Nat) (o : List Int) (s : (List Int × Bool)) (e : Ending) (w' : World) : Prop := ∃ v, e = .returned v ∧ Kd.R (Kd.int .u8) 5 w' w.heap.size (fun _ => True) v o ∧ intent_Decode.At w0 w' g s ∧ KeepBut w w' g none
set_option maxRecDepth 100000 in
set_option maxHeartbeats 2000000 in
theorem intent_Decode.text_ (w0 w : World) (g : Nat) (s : (List Int × Bool)) (hs : intent_Decode.At w0 w g s) (hb : intent_Decode.b8 s.1) (hl : s.1.length ≤ 4000) :
    Calls Try.prog 39 #[.pointer (some ⟨g, 0, none⟩)] w (intent_Decode.TxtOut w0 w g (intent_Decode.text s).1 (intent_Decode.text s).2) := by
  have hnr := intent_Decode.le_range (intent_Decode.take_b8 hb 4).1
  have hlo : (intent_Decode.text s).1.length ≤ 4000 := by
    have h1 := (intent_Decode.take_len (intent_Decode.num s).2 (intent_Decode.num s).1.toNat).1
    have h2 := (intent_Decode.take_len s 4).2.1
    show (intent_Decode.take (intent_Decode.num s).2 (intent_Decode.num s).1.toNat).1.length ≤ 4000
    exact Nat.le_trans h1 (Nat.le_trans h2 hl)
  have HN := Aside0.mk (intent_Decode.num_ w0 w g s hs hb)
  have HT : Aside0 (∀ w1, intent_Decode.At w0 w1 g (intent_Decode.num s).2 → Calls Try.prog 42 #[.pointer (some ⟨g, 0, none⟩), .int .i64 (intent_Decode.num s).1] w1 (intent_Decode.Out w0 w1 g (intent_Decode.text s).1 (intent_Decode.text s).2)) := ⟨fun w1 h1 => by
    obtain ⟨n, hn⟩ := Int.eq_ofNat_of_zero_le (show 0 ≤ (intent_Decode.num s).1 from hnr.1)
    have h := intent_Decode.take_ w0 w1 g (intent_Decode.num s).2 n h1 (by have : (intent_Decode.num s).1 ≤ 4294967295 := hnr.2; omega)
    unfold intent_Decode.text
    rw [hn, Int.toNat_natCast]
    exact h⟩
  generalize (intent_Decode.text s).1 = o at *
  generalize (intent_Decode.text s).2 = s2 at *
  unfold intent_Decode.NumOut at HN
  generalize (intent_Decode.num s).1 = n at *
  generalize (intent_Decode.num s).2 = s1 at *
  have HCL : Aside0 (∀ (w2 : World) (A : Option Addr) (c : Nat), Kd.C (Kd.int .u8) w2 A o.length o → o.length ≤ c → Calls Try.prog 71 #[.slice A o.length c] w2 fun e w' => ∃ v0_ : Value, e = .returned (v0_) ∧ Kd.R (Kd.int .u8) 5 w' w2.heap.size (fun _ => True) v0_ o ∧ Below w2.heap.size w2 w') := ⟨fun w2 A c h1 h2 => slices_Clone_byte_byte.calls A c o o w2 h1 h2 (by rw [slices_Clone_byte_byte.f, if_pos (by omega)])⟩
  clear hnr hlo hs hb hl
  go_enter Try.func39, Try.ntmps39
  go_wp2_with (first
    | (go_at_call 36; (with_reducible refine HN.out.mono ?_); rintro e w1 ⟨rfl, hA, hk⟩; have HT1 := Aside0.mk (HT.out w1 hA); have HK1 := Aside0.mk hk; clear hA hk)
    | (go_at_call 42; (with_reducible refine HT1.out.mono ?_); rintro e w2 ⟨A, c, rfl, hc, hC, hA, hk⟩; have HC1 := Aside0.mk (HCL.out w2 A c (Kd.C_below hC hA.choose_spec.choose_spec.2.2.2.1) hc); have HA2 := Aside0.mk hA; have HK2 := Aside0.mk hk; clear hA hk hC hc)
    | (go_at_call 71; (with_reducible refine HC1.out.mono ?_); rintro e w3 ⟨v, rfl, hR, hB⟩; have HR := Aside0.mk hR; have HB3 := Aside0.mk hB; clear hR hB))
  go_ret
  have hk12 := HK1.out.trans HK2.out (.inl rfl)
  have hgl : g < w2.heap.size := blk_lt HA2.out.choose_spec.choose_spec.1
  refine ⟨v, rfl, Kd.R_lower HR.out hk12.1, ?_, hk12.trans (KeepBut.of_below HB3.out g none) (.inl rfl)⟩
  obtain ⟨A, c, hg, hc, hC, hB, hge⟩ := HA2.out
  exact ⟨A, c, (HB3.out.block g hgl).trans hg, hc, hC, hB.trans (HB3.out.mono hB.size), hge⟩
theorem intent_Decode.At.below {w0 w w1 : World} {g B : Nat} {s : (List Int × Bool)} (h : intent_Decode.At w0 w g s) (hb : Below B w w1) (hg : g < B) (h0 : w0.heap.size ≤ B) : intent_Decode.At w0 w1 g s := by
  obtain ⟨A, c, hg', hc, hC, hB, hge⟩ := h
  exact ⟨A, c, (hb.block g hg).trans hg', hc, hC, hB.trans (hb.mono h0), hge⟩
theorem intent_Decode.KB.then_ {w w2 w3 : World} {g : Nat} (h : KeepBut w w2 g none) (hb : Below w.heap.size w2 w3) : KeepBut w w3 g none := ⟨Nat.le_trans h.1 hb.size, fun i hi hg hr => (hb.block i hi).trans (h.2 i hi hg hr)⟩
theorem intent_Decode.own1 {α : Type} {d : Kd α} {e base : Nat} {w : World} {v : Value} {xs : List α} (h : Kd.R d e w base (fun _ => True) v xs) : Kd.R d e w base (fun k => base ≤ k) v xs := Kd.R_mono (Kd.R_bound h) (fun _ hk => hk.2.1)
/-- A variable that holds the tape's pointer. -/
def intent_Decode.Var (w : World) (q g : Nat) : Prop := w.heap[q]? = some (.cells #[.pointer (some ⟨g, 0, none⟩)] 77 (0, 0))
theorem intent_Decode.Var.keep {w w' : World} {q g : Nat} (h : intent_Decode.Var w q g) (hk : KeepBut w w' g none) (hq : q ≠ g) : intent_Decode.Var w' q g := hk.blk h hq (by simp)
def intent_Decode.rng (s : (List Int × Bool)) : S83 × (List Int × Bool) := (⟨(intent_Decode.text s).1, (intent_Decode.text (intent_Decode.text s).2).1⟩, (intent_Decode.text (intent_Decode.text s).2).2)
def intent_Decode.RngOut (w0 w : World) (g : Nat) (x : S83) (s : (List Int × Bool)) (e : Ending) (w' : World) : Prop := ∃ v1 v2, e = .returned (.agg #[v1, v2]) ∧ k83.M w' w.heap.size (fun k => w.heap.size ≤ k) x [v1, v2] ∧ intent_Decode.At w0 w' g s ∧ KeepBut w w' g none
theorem intent_Decode.At.alloc {w0 w : World} {g : Nat} {s : (List Int × Bool)} (h : intent_Decode.At w0 w g s) (o : Obj) : intent_Decode.At w0 (w.alloc o) g s := by
  obtain ⟨A, c, hg, hc, hC, hB, hge⟩ := h
  exact ⟨A, c, ((below_alloc (Below.refl w.heap.size w) o).block g (blk_lt hg)).trans hg, hc, hC, below_alloc hB o, hge⟩
theorem intent_Decode.At.set {w0 w : World} {g : Nat} {s : (List Int × Bool)} (h : intent_Decode.At w0 w g s) {b j : Nat} (hb : g ≠ b) (hb0 : w0.heap.size ≤ b) (u : Value) : intent_Decode.At w0 (w.setCell ⟨b, j, none⟩ u) g s := by
  obtain ⟨A, c, hg, hc, hC, hB, hge⟩ := h
  exact ⟨A, c, (Below.heap_setCell _ _ _ _ hb).trans hg, hc, hC, hB.setCell (p := ⟨b, j, none⟩) hb0 _, hge⟩
theorem intent_Decode.At.size {w0 w : World} {g : Nat} {s : (List Int × Bool)} (h : intent_Decode.At w0 w g s) : w0.heap.size ≤ w.heap.size ∧ g < w.heap.size := ⟨h.choose_spec.choose_spec.2.2.2.1.size, blk_lt h.choose_spec.choose_spec.1⟩
theorem intent_Decode.KB.alloc {w w' : World} {g : Nat} (h : KeepBut w w' g none) (o : Obj) : KeepBut w (w'.alloc o) g none := h.trans (KeepBut.of_below (below_alloc (Below.refl _ _) o) g none) (.inl rfl)
theorem intent_Decode.KB.alloc1 {w w' : World} {g : Nat} {o : Obj} (h : KeepBut (w.alloc o) w' g none) : KeepBut w w' g none := (KeepBut.of_below (below_alloc (Below.refl _ _) o) g none).trans h (.inl rfl)
theorem intent_Decode.KB.set {w w' : World} {g b j : Nat} (h : KeepBut w w' g none) (hb : w.heap.size ≤ b) (u : Value) : KeepBut w (w'.setCell ⟨b, j, none⟩ u) g none :=
  ⟨by simpa [World.setCell] using h.1, fun i hi hg hr => (Below.heap_setCell w' ⟨b, j, none⟩ u i (by show i ≠ b; omega)).trans (h.2 i hi hg hr)⟩
theorem intent_Decode.text_len (s : (List Int × Bool)) : (intent_Decode.text s).2.1.length ≤ s.1.length ∧ ((intent_Decode.text s).2.2 = false → s.2 = false ∧ (intent_Decode.text s).2.1.length < s.1.length) := by
  have h1 := intent_Decode.take_len s 4
  have h2 := intent_Decode.take_len (intent_Decode.num s).2 (intent_Decode.num s).1.toNat
  refine ⟨Nat.le_trans h2.2.1 h1.2.1, fun h => ?_⟩
  obtain ⟨h3, h4⟩ := h2.2.2 h
  obtain ⟨h5, h6⟩ := h1.2.2 h3
  refine ⟨h5, ?_⟩
  have h7 : (intent_Decode.num s).2.1.length = (intent_Decode.take s 4).2.1.length := rfl
  have h8 : (intent_Decode.text s).2.1.length = (intent_Decode.take (intent_Decode.num s).2 (intent_Decode.num s).1.toNat).2.1.length := rfl
  omega
theorem intent_Decode.text_b8 {s : (List Int × Bool)} (h : intent_Decode.b8 s.1) : intent_Decode.b8 (intent_Decode.text s).2.1 := (intent_Decode.take_b8 (intent_Decode.take_b8 h 4).2 _).2
set_option maxRecDepth 100000 in
set_option maxHeartbeats 2000000 in
theorem intent_Decode.one_r (w0 w : World) (g q : Nat) (s : (List Int × Bool)) (hs : intent_Decode.At w0 w g s) (hv : intent_Decode.Var w q g) (hq : q ≠ g) (hb : intent_Decode.b8 s.1) (hl : s.1.length ≤ 4000) :
    Calls Try.prog 38 #[.pointer (some ⟨q, 0, none⟩)] w (intent_Decode.RngOut w0 w g (intent_Decode.rng s).1 (intent_Decode.rng s).2) := by
  have hql := blk_lt hv
  obtain ⟨hz0, hgl⟩ := hs.size
  have HT1 : Aside0 (∀ w1, intent_Decode.At w0 w1 g s → Calls Try.prog 39 #[.pointer (some ⟨g, 0, none⟩)] w1 (intent_Decode.TxtOut w0 w1 g (intent_Decode.text s).1 (intent_Decode.text s).2)) := ⟨fun w1 h1 => intent_Decode.text_ w0 w1 g s h1 hb hl⟩
  have HT2 : Aside0 (∀ w1, intent_Decode.At w0 w1 g (intent_Decode.text s).2 → Calls Try.prog 39 #[.pointer (some ⟨g, 0, none⟩)] w1 (intent_Decode.TxtOut w0 w1 g (intent_Decode.rng s).1.f1 (intent_Decode.rng s).2)) := ⟨fun w1 h1 => intent_Decode.text_ w0 w1 g _ h1 (intent_Decode.text_b8 hb) (Nat.le_trans (intent_Decode.text_len s).1 hl)⟩
  have HX : Aside0 ((intent_Decode.rng s).1 = ⟨(intent_Decode.text s).1, (intent_Decode.rng s).1.f1⟩) := ⟨rfl⟩
  generalize (intent_Decode.rng s).1.f1 = o2 at *
  generalize (intent_Decode.rng s).2 = s2 at *
  generalize (intent_Decode.rng s).1 = x at *
  generalize (intent_Decode.text s).1 = o1 at *
  generalize (intent_Decode.text s).2 = s1 at *
  have HS := Aside0.mk hs
  have HV := Aside0.mk hv
  have hu := Try.underlying83
  have p0 : w.cell? ⟨q, 0, none⟩ = some (.pointer (some ⟨g, 0, none⟩)) := (blk_cell hv 0).trans rfl
  clear hs hv hb hl
  go_enter Try.func38, Try.ntmps38
  go_wp2_with (first
    | (go_at_call 39; (with_reducible refine (HT1.out _ (HS.out.alloc _)).mono ?_); rintro e w1 ⟨v1, rfl, hR, hA, hk⟩; (obtain ⟨A1, c1, rfl⟩ := Kd.R_slice hR); have p1 : w1.cell? ⟨q, 0, none⟩ = some (.pointer (some ⟨g, 0, none⟩)) := (blk_cell ((intent_Decode.KB.alloc1 hk).blk HV.out hq (by simp)) 0).trans rfl; have hb1 : w1.heap[w.heap.size]? = some (.cells #[.slice none 0 0, .slice none 0 0] 83 (0, 0)) := hk.blk (heap_alloc_new w _) (by omega) (by simp); have HB1 := Aside0.mk hb1; have HR1 := Aside0.mk hR; have HA1 := Aside0.mk hA; have HK1 := Aside0.mk hk; clear hR hA hk hb1 HT1)
    | (go_at_call 39; (with_reducible refine (HT2.out _ HA1.out).mono ?_); rintro e w2 ⟨v2, rfl, hR, hA, hk⟩; (obtain ⟨A2, c2, rfl⟩ := Kd.R_slice hR); have hb2 : w2.heap[w.heap.size]? = some (.cells #[.slice none 0 0, .slice none 0 0] 83 (0, 0)) := hk.blk HB1.out (by omega) (by simp); have f20 : w2.frozen? ⟨w.heap.size, 0, none⟩ = false := (blk_frozen hb2 0).trans rfl; have f21 : w2.frozen? ⟨w.heap.size, 1, none⟩ = false := (blk_frozen hb2 1).trans rfl; have x20 : w2.cell? ⟨w.heap.size, 0, none⟩ = some (.slice none 0 0) := (blk_cell hb2 0).trans rfl; have x21 : w2.cell? ⟨w.heap.size, 1, none⟩ = some (.slice none 0 0) := (blk_cell hb2 1).trans rfl; have HB2 := Aside0.mk hb2; have HR2 := Aside0.mk hR; have HA2 := Aside0.mk hA; have HK2 := Aside0.mk hk; clear hR hA hk hb2))
  have HV : ((w2.setCell ⟨w.heap.size, 0, none⟩ (.slice A1 o1.length c1)).setCell ⟨w.heap.size, 1, none⟩ (.slice A2 o2.length c2)).heap[w.heap.size]? = some (.cells #[.slice A1 o1.length c1, .slice A2 o2.length c2] 83 (0, 0)) := blk_put (blk_put HB2.out 0 (.slice A1 o1.length c1) rfl) 1 (.slice A2 o2.length c2) rfl
  refine bodyPost_ret (results_cell_row rfl _ _ w.heap.size 83 _ (0, 0) _ rfl HV hu rfl (by kernel_rfl)) rfl ?_
  have hs1 := (intent_Decode.KB.alloc1 HK1.out).1
  have hs2 := HK2.out.1
  have hs3 := HK1.out.1
  simp at hs3
  obtain rfl := HX.out
  refine ⟨_, _, rfl, k83_mkM _ _ _ _ ?_ ?_, ?_, ?_⟩
  · have h1 := Kd.R_keep (intent_Decode.own1 HR1.out) HK2.out (fun k hk => by simp at hk; omega)
    refine Kd.R_mono (Kd.R_lower (Kd.R_far (p := ⟨w.heap.size, 1, none⟩) (Kd.R_far (p := ⟨w.heap.size, 0, none⟩) h1 (fun k hk => ?_) _) (fun k hk => ?_) _) (by simp)) (fun k hk => ?_)
    all_goals (simp at hk; first | omega | (show k ≠ w.heap.size; omega))
  · have h1 := intent_Decode.own1 HR2.out
    refine Kd.R_mono (Kd.R_lower (Kd.R_far (p := ⟨w.heap.size, 1, none⟩) (Kd.R_far (p := ⟨w.heap.size, 0, none⟩) h1 (fun k hk => ?_) _) (fun k hk => ?_) _) (by omega)) (fun k hk => ?_)
    all_goals (first | omega | (show k ≠ w.heap.size; omega))
  · exact (HA2.out.set (by omega) (by omega) _).set (by omega) (by omega) _
  · exact intent_Decode.KB.set (intent_Decode.KB.set ((intent_Decode.KB.alloc1 HK1.out).trans HK2.out (.inl rfl)) (Nat.le_refl _) _) (Nat.le_refl _) _
/-- Things, as long as nothing is bad. -/
def intent_Decode.many {α σ : Type} (bad : σ → Bool) (one : σ → α × σ) : Nat → σ → List α × σ
  | 0, s => ([], s)
  | n + 1, s => if bad s = true then ([], s) else ((one s).1 :: (intent_Decode.many bad one n (one s).2).1, (intent_Decode.many bad one n (one s).2).2)
theorem intent_Decode.rng_len (s : (List Int × Bool)) : (intent_Decode.rng s).2.1.length ≤ s.1.length ∧ ((intent_Decode.rng s).2.2 = false → (intent_Decode.rng s).2.1.length < s.1.length) := by
  have h1 := intent_Decode.text_len s
  have h2 := intent_Decode.text_len (intent_Decode.text s).2
  exact ⟨Nat.le_trans h2.1 h1.1, fun h => Nat.lt_of_lt_of_le (h2.2 h).2 h1.1⟩
def intent_Decode.ManyOutR (w0 w : World) (g : Nat) (x : List S83) (s : (List Int × Bool)) (e : Ending) (w' : World) : Prop := ∃ v, e = .returned v ∧ Kd.S k83 83 w' w.heap.size (fun _ => True) v x ∧ intent_Decode.At w0 w' g s ∧ KeepBut w w' g none
set_option maxRecDepth 100000 in
set_option maxHeartbeats 4000000 in
theorem intent_Decode.times_r (w0 w : World) (g q : Nat) (s : (List Int × Bool)) (hs : intent_Decode.At w0 w g s) (hv : intent_Decode.Var w q g) (hq : q ≠ g) (hb : intent_Decode.b8 s.1) (hl : s.1.length ≤ 4000) :
    Calls Try.prog 37 #[.pointer (some ⟨g, 0, none⟩), .func (.func 38) #[] #[.pointer (some ⟨q, 0, none⟩)]] w (intent_Decode.ManyOutR w0 w g (intent_Decode.many Prod.snd intent_Decode.rng (intent_Decode.num s).1.toNat (intent_Decode.num s).2).1 (intent_Decode.many Prod.snd intent_Decode.rng (intent_Decode.num s).1.toNat (intent_Decode.num s).2).2) := by
  have hql := blk_lt hv
  obtain ⟨hz0, hgl⟩ := hs.size
  have hnr := intent_Decode.le_range (intent_Decode.take_b8 hb 4).1
  have HN := Aside0.mk (intent_Decode.num_ w0 w g s hs hb)
  have hb1 : intent_Decode.b8 (intent_Decode.num s).2.1 := (intent_Decode.take_b8 hb 4).2
  have hl1 : (intent_Decode.num s).2.1.length ≤ 4000 := Nat.le_trans (intent_Decode.take_len s 4).2.1 hl
  unfold intent_Decode.NumOut at HN
  have hn0 : 0 ≤ (intent_Decode.num s).1 := hnr.1
  have hn1 : (intent_Decode.num s).1 ≤ 4294967295 := hnr.2
  generalize (intent_Decode.num s).1 = n at *
  generalize (intent_Decode.num s).2 = s1 at *
  obtain ⟨n, rfl⟩ := Int.eq_ofNat_of_zero_le hn0
  rw [Int.toNat_natCast]
  have HV := Aside0.mk hv
  have HO : Aside0 (∀ (wr : World) (s2 : (List Int × Bool)), intent_Decode.At w0 wr g s2 → intent_Decode.Var wr q g → intent_Decode.b8 s2.1 → s2.1.length ≤ 4000 → Calls Try.prog 38 #[.pointer (some ⟨q, 0, none⟩)] wr (intent_Decode.RngOut w0 wr g (intent_Decode.rng s2).1 (intent_Decode.rng s2).2)) := ⟨fun wr s2 h1 h2 h3 h4 => intent_Decode.one_r w0 wr g q s2 h1 h2 hq h3 h4⟩
  have HB1 := Aside0.mk hb1
  have HN1 := Aside0.mk hn1
  clear hnr hn0 hn1 hs hv hb hl hb1
  go_enter Try.func37, Try.ntmps37
  go_wp2_with (go_at_call 36; (with_reducible refine HN.out.mono ?_); rintro e w1 ⟨rfl, hA, hk⟩; have HA1 := Aside0.mk hA; have HK1 := Aside0.mk hk; clear hA hk)
  go_loopg [5, 6] (n + 1) (fun m out j wx => ∃ (acc : List S83) (s2 : (List Int × Bool)) (i : Nat), m = i + 1 ∧ i ≤ n ∧ j = .int .i64 i ∧ Aside0 (intent_Decode.many Prod.snd intent_Decode.rng n s1 = (acc ++ (intent_Decode.many Prod.snd intent_Decode.rng i s2).1, (intent_Decode.many Prod.snd intent_Decode.rng i s2).2)) ∧ Aside0 (intent_Decode.b8 s2.1) ∧ Aside0 (s2.1.length ≤ 4000 ∧ (s2.2 = false → acc.length + s2.1.length ≤ 4000)) ∧ Aside0 (intent_Decode.At w0 wx g s2) ∧ Aside0 (KeepBut w wx g none) ∧ Aside0 (Kd.S k83 83 wx w.heap.size (fun k => w.heap.size ≤ k) out acc))
  case atStart => exact ⟨[], s1, n, rfl, Nat.le_refl _, rfl, ⟨rfl⟩, HB1, ⟨hl1, fun _ => by simpa using hl1⟩, HA1, HK1, ⟨Kd.S_nil _ _ _ _ _⟩⟩
  case round =>
    clear HA1 HK1
    obtain ⟨acc, s2, i, rfl, hi, rfl, HM, HB2, HL2, HA2, HK2, HS2⟩ := hrel
    have y1 : wr.cell? ⟨g, 1, none⟩ = some (.bool s2.2) := by obtain ⟨A, c, hg, _⟩ := HA2.out; exact (blk_cell hg 1).trans rfl
    obtain ⟨Av, cv, rfl⟩ := Kd.S_slice HS2.out
    cases i with
    | zero =>
      rw [intent_Decode.many, List.append_nil] at HM
      go_wp2
      go_ret
      exact ⟨_, rfl, Kd.S_mono (by rw [HM.out]; exact HS2.out) (fun _ _ => trivial), by rw [HM.out]; exact HA2.out, HK2.out⟩
    | succ i =>
      cases hbad : s2.2 with
      | true =>
        rw [intent_Decode.many, if_pos hbad, List.append_nil] at HM
        rw [hbad] at y1
        clear hbad
        go_wp2
        go_ret
        exact ⟨_, rfl, Kd.S_mono (by rw [HM.out]; exact HS2.out) (fun _ _ => trivial), by rw [HM.out]; exact HA2.out, HK2.out⟩
      | false =>
        rw [intent_Decode.many, if_neg (by rw [hbad]; decide)] at HM
        rw [hbad] at y1
        have hla := HL2.out.2 hbad
        have HR := Aside0.mk (intent_Decode.rng_len s2)
        have HC := Aside0.mk (HO.out wr s2 HA2.out (HK2.out.blk HV.out hq (by simp)) HB2.out HL2.out.1)
        have HB3 : Aside0 (intent_Decode.b8 (intent_Decode.rng s2).2.1) := ⟨intent_Decode.text_b8 (intent_Decode.text_b8 HB2.out)⟩
        have hn1 := HN1.out
        have HI : Aside0 (wrap64 (i : Int) = (i : Int)) := ⟨by unfold wrap64; omega⟩
        generalize (intent_Decode.rng s2).1 = x at *
        generalize (intent_Decode.rng s2).2 = s3 at *
        clear hbad hn1
        go_wp2_with (first
          | (go_at_call 38; (with_reducible refine HC.out.mono ?_); rintro e w2 ⟨v1, v2, rfl, hM, hA, hk⟩; have HM2 := Aside0.mk hM; have HA3 := Aside0.mk hA; have HK3 := Aside0.mk hk; clear hM hA hk)
          | (at_builtin; refine Kd.S_append k83 (w0 := w2) w.heap.size rfl (.tmp 20) (.tmp 23) 31 83 (.agg #[(.slice none 0 0), (.slice none 0 0)]) 48 rfl Try.underlying31 info83 rfl (by decide) (by decide) (.slice Av acc.length cv) acc x [v1, v2] (fun k => w.heap.size ≤ k) (fun k => wr.heap.size ≤ k) rfl ?cX ?cP ?cO ?cF ?cH ?cB ?cS ?cL ?_; (case cX => first | rfl | (simp [Act.eval]; done) | (go_simp; done)); (case cP => exact k83.M_lower (by have := HK2.out.1; omega) HM2.out); (case cO => intro k hk; have h_ := HK2.out.1; exact ⟨by omega, fun e_ => by have h2_ := Kd.S_lt HS2.out k e_.symm; omega⟩); (case cF => intro k hk; have h_ := HK2.out.1; have h2_ := HK3.out.1; omega); (case cH => exact Kd.S_keep (Kd.S_mono (Kd.S_bound HS2.out) (fun k hk => ⟨hk.1, by have := hk.2.2.1; omega⟩)) HK3.out (fun k hk => by have := hk.1; omega)); (case cB => exact (Below.refl _ _).mono (by have h_ := HK2.out.1; have h2_ := HK3.out.1; omega)); (case cS => have h_ := HK2.out.1; have h2_ := HK3.out.1; omega); (case cL => omega); intro v3 w3 ho hb hg_ hat; have HO3 := Aside0.mk ho; have HB4 := Aside0.mk hb; clear ho hb hg_ hat))
        go_roundg (i + 1)
        case measure => omega
        case rel => exact ⟨acc ++ [x], s3, i, rfl, by omega, by rw [HI.out], ⟨by rw [HM.out, List.append_assoc]; rfl⟩, HB3, ⟨⟨Nat.le_trans HR.out.1 HL2.out.1, fun h => by have h_ := HR.out.2 h; simp; omega⟩⟩, ⟨intent_Decode.At.below HA3.out HB4.out (by omega) (by omega)⟩, ⟨intent_Decode.KB.then_ (HK2.out.trans HK3.out (.inl rfl)) HB4.out⟩, HO3⟩
/-- A write; whether some flag was odd. -/
def intent_Decode.wrt (s : (List Int × Bool) × Bool) : S88 × ((List Int × Bool) × Bool) :=
  let a := intent_Decode.text s.1
  let b := intent_Decode.take a.2 1
  let c := intent_Decode.text b.2
  (⟨a.1, c.1, decide (rd b.1 0 = 1)⟩, (c.2, s.2 || decide (1 < rd b.1 0)))
/-- The variable that says whether some flag was odd. -/
def intent_Decode.Odd (w : World) (p : Nat) (o : Bool) : Prop := w.heap[p]? = some (.cells #[.bool o] 4 (0, 0))
/-- What stands while the flag is read. -/
def intent_Decode.WSt (w0 w wr : World) (g q p : Nat) (v1 : Value) (o1 : List Int) (s2 : (List Int × Bool)) (gone odd : Bool) : Prop := wr.heap[w.heap.size]? = some (.cells #[v1, .slice none 0 0, .bool gone] 88 (0, 0)) ∧ intent_Decode.Odd wr p odd ∧ intent_Decode.Var wr q g ∧ intent_Decode.At w0 wr g s2 ∧ Kept w wr (fun k => k = g ∨ k = p) ∧ Kd.R (Kd.int .u8) 5 wr (w.heap.size + 1) (fun k => w.heap.size + 1 ≤ k) v1 o1
theorem intent_Decode.WSt.put {w0 w wr : World} {g q p : Nat} {v1 : Value} {o1 : List Int} {s2 : (List Int × Bool)} {gone odd : Bool} (h : intent_Decode.WSt w0 w wr g q p v1 o1 s2 gone odd) (hg : g < w.heap.size) (hq : q < w.heap.size) (hp : p < w.heap.size) (hpg : p ≠ g) (hpq : p ≠ q) (hp0 : w0.heap.size ≤ p) (hz : w0.heap.size ≤ w.heap.size) (a b : Bool) : intent_Decode.WSt w0 w ((wr.setCell ⟨w.heap.size, 2, none⟩ (.bool a)).setCell ⟨p, 0, none⟩ (.bool b)) g q p v1 o1 s2 a b := by
  obtain ⟨hb, hod, hva, hat, hke, hR⟩ := h
  refine ⟨(Below.heap_setCell _ _ _ _ (by show w.heap.size ≠ p; omega)).trans (blk_put hb 2 (.bool a) rfl), blk_put ((Below.heap_setCell _ _ _ _ (by show p ≠ w.heap.size; omega)).trans hod) 0 (.bool b) rfl, (Below.heap_setCell _ _ _ _ (by show q ≠ p; omega)).trans ((Below.heap_setCell _ _ _ _ (by show q ≠ w.heap.size; omega)).trans hva), (hat.set (by omega) hz _).set (fun e => hpg e.symm) hp0 _, (hke.setCell (p := ⟨w.heap.size, 2, none⟩) (.inr (Nat.le_refl _)) _).setCell (p := ⟨p, 0, none⟩) (.inl (.inr rfl)) _, ?_⟩
  exact Kd.R_far (p := ⟨p, 0, none⟩) (Kd.R_far (p := ⟨w.heap.size, 2, none⟩) hR (fun k hk => by show k ≠ w.heap.size; omega) _) (fun k hk => by show k ≠ p; omega) _
def intent_Decode.WrtOut (w0 w : World) (g p : Nat) (x : S88) (s : (List Int × Bool) × Bool) (e : Ending) (w' : World) : Prop := ∃ v1 v2, e = .returned (.agg #[v1, v2, .bool x.f2]) ∧ k88.M w' w.heap.size (fun k => w.heap.size ≤ k) x [v1, v2, .bool x.f2] ∧ intent_Decode.At w0 w' g s.1 ∧ intent_Decode.Odd w' p s.2 ∧ Kept w w' (fun k => k = g ∨ k = p)
theorem intent_Decode.wrt_len (s : (List Int × Bool) × Bool) : (intent_Decode.wrt s).2.1.1.length ≤ s.1.1.length ∧ ((intent_Decode.wrt s).2.1.2 = false → (intent_Decode.wrt s).2.1.1.length < s.1.1.length) := by
  have h1 := intent_Decode.text_len s.1
  have h2 := intent_Decode.take_len (intent_Decode.text s.1).2 1
  have h3 := intent_Decode.text_len (intent_Decode.take (intent_Decode.text s.1).2 1).2
  refine ⟨Nat.le_trans h3.1 (Nat.le_trans h2.2.1 h1.1), fun h => ?_⟩
  exact Nat.lt_of_lt_of_le (h3.2 h).2 (Nat.le_trans h2.2.1 h1.1)
theorem intent_Decode.wrt_b8 {s : (List Int × Bool) × Bool} (h : intent_Decode.b8 s.1.1) : intent_Decode.b8 (intent_Decode.wrt s).2.1.1 := intent_Decode.text_b8 (intent_Decode.take_b8 (intent_Decode.text_b8 h) 1).2
theorem intent_Decode.KK {w w' : World} {g : Nat} (h : KeepBut w w' g none) : Kept w w' (fun k => k = g) := ⟨h.1, fun i hi hn => h.2 i hi hn (by simp)⟩
set_option maxRecDepth 100000 in
set_option maxHeartbeats 4000000 in
theorem intent_Decode.one_w (w0 w : World) (g q p : Nat) (s : (List Int × Bool) × Bool) (hs : intent_Decode.At w0 w g s.1) (hv : intent_Decode.Var w q g) (ho : intent_Decode.Odd w p s.2) (hq : q ≠ g) (hp : p ≠ g) (hpq : p ≠ q) (hp0 : w0.heap.size ≤ p) (hb : intent_Decode.b8 s.1.1) (hl : s.1.1.length ≤ 4000) :
    Calls Try.prog 41 #[.pointer (some ⟨q, 0, none⟩), .pointer (some ⟨p, 0, none⟩)] w (intent_Decode.WrtOut w0 w g p (intent_Decode.wrt s).1 (intent_Decode.wrt s).2) := by
  obtain ⟨s, od⟩ := s
  have hql := blk_lt hv
  have hpl := blk_lt ho
  obtain ⟨hz0, hgl⟩ := hs.size
  have hba := intent_Decode.text_b8 hb
  have hla := Nat.le_trans (intent_Decode.text_len s).1 hl
  have hbb := intent_Decode.take_b8 hba 1
  have hlb := intent_Decode.take_len (intent_Decode.text s).2 1
  have HT1 : Aside0 (∀ w1, intent_Decode.At w0 w1 g s → Calls Try.prog 39 #[.pointer (some ⟨g, 0, none⟩)] w1 (intent_Decode.TxtOut w0 w1 g (intent_Decode.text s).1 (intent_Decode.text s).2)) := ⟨fun w1 h1 => intent_Decode.text_ w0 w1 g s h1 hb hl⟩
  have HT2 : Aside0 (∀ w1, intent_Decode.At w0 w1 g (intent_Decode.text s).2 → Calls Try.prog 42 #[.pointer (some ⟨g, 0, none⟩), .int .i64 1] w1 (intent_Decode.Out w0 w1 g (intent_Decode.take (intent_Decode.text s).2 1).1 (intent_Decode.take (intent_Decode.text s).2 1).2)) := ⟨fun w1 h1 => intent_Decode.take_ w0 w1 g _ 1 h1 (by decide)⟩
  have HT3 : Aside0 (∀ w1, intent_Decode.At w0 w1 g (intent_Decode.take (intent_Decode.text s).2 1).2 → Calls Try.prog 39 #[.pointer (some ⟨g, 0, none⟩)] w1 (intent_Decode.TxtOut w0 w1 g (intent_Decode.text (intent_Decode.take (intent_Decode.text s).2 1).2).1 (intent_Decode.text (intent_Decode.take (intent_Decode.text s).2 1).2).2)) := ⟨fun w1 h1 => intent_Decode.text_ w0 w1 g _ h1 hbb.2 (Nat.le_trans hlb.2.1 hla)⟩
  have hlen : (intent_Decode.take (intent_Decode.text s).2 1).1.length = 0 ∨ (intent_Decode.take (intent_Decode.text s).2 1).1.length = 1 := by
    unfold intent_Decode.take
    split
    · exact .inl rfl
    · rename_i h
      exact .inr (by rw [List.length_take]; omega)
  have HX : Aside0 (intent_Decode.wrt (s, od) = (⟨(intent_Decode.text s).1, (intent_Decode.text (intent_Decode.take (intent_Decode.text s).2 1).2).1, decide (rd (intent_Decode.take (intent_Decode.text s).2 1).1 0 = 1)⟩, ((intent_Decode.text (intent_Decode.take (intent_Decode.text s).2 1).2).2, od || decide (1 < rd (intent_Decode.take (intent_Decode.text s).2 1).1 0)))) := ⟨rfl⟩
  generalize intent_Decode.wrt (s, od) = x at *
  generalize (intent_Decode.text (intent_Decode.take (intent_Decode.text s).2 1).2).1 = o3 at *
  generalize (intent_Decode.text (intent_Decode.take (intent_Decode.text s).2 1).2).2 = s3 at *
  generalize (intent_Decode.take (intent_Decode.text s).2 1).1 = o2 at *
  generalize (intent_Decode.take (intent_Decode.text s).2 1).2 = s2 at *
  generalize (intent_Decode.text s).1 = o1 at *
  generalize (intent_Decode.text s).2 = s1 at *
  have HS := Aside0.mk hs
  have HV := Aside0.mk hv
  have HO := Aside0.mk ho
  have hu := Try.underlying88
  have p0 : w.cell? ⟨q, 0, none⟩ = some (.pointer (some ⟨g, 0, none⟩)) := (blk_cell hv 0).trans rfl
  clear hs hv ho hb hl hba hla hbb hlb
  have HLN := Aside0.mk hlen
  have hm2 : o2.length ≤ 1 := by omega
  clear hlen
  go_enter Try.func41, Try.ntmps41
  go_wp2_with (first
    | (go_at_call 39; (with_reducible refine (HT1.out _ (HS.out.alloc _)).mono ?_); rintro e w1 ⟨v1, rfl, hR, hA, hk⟩; (obtain ⟨A1, c1, rfl⟩ := Kd.R_slice hR); have p1 : w1.cell? ⟨q, 0, none⟩ = some (.pointer (some ⟨g, 0, none⟩)) := (blk_cell ((intent_Decode.KB.alloc1 hk).blk HV.out hq (by simp)) 0).trans rfl; have hb1 : w1.heap[w.heap.size]? = some (.cells #[.slice none 0 0, .slice none 0 0, .bool false] 88 (0, 0)) := hk.blk (heap_alloc_new w _) (by omega) (by simp); have x10 : w1.cell? ⟨w.heap.size, 0, none⟩ = some (.slice none 0 0) := (blk_cell hb1 0).trans rfl; have f10 : w1.frozen? ⟨w.heap.size, 0, none⟩ = false := (blk_frozen hb1 0).trans rfl; have HB1 := Aside0.mk hb1; have HR1 := Aside0.mk hR; have HA1 := Aside0.mk hA; have HK1 := Aside0.mk hk; clear hR hA hk hb1 HT1)
    | (go_at_call 42; (with_reducible refine (HT2.out _ (HA1.out.set (by omega) (by omega) _)).mono ?_); rintro e w2 ⟨A2, c2, rfl, hc2, hC, hA, hk⟩; have HC2 := Aside0.mk hC; have HA2 := Aside0.mk hA; have HK2 := Aside0.mk hk; clear hC hA hk))
  have HW : Aside0 (intent_Decode.WSt w0 w w2 g q p (.slice A1 o1.length c1) o1 s2 false od) := ⟨by
    have k1 : KeepBut (w1.setCell ⟨w.heap.size, 0, none⟩ (.slice A1 o1.length c1)) w2 g none := HK2.out
    have h1 := (intent_Decode.KB.alloc1 HK1.out)
    have hz1 := HK1.out.1
    simp at hz1
    refine ⟨k1.blk (blk_put HB1.out 0 (.slice A1 o1.length c1) rfl) (by omega) (by simp), k1.blk ((Below.heap_setCell _ _ _ _ (by show p ≠ w.heap.size; omega)).trans (h1.blk HO.out hp (by simp))) hp (by simp), k1.blk ((Below.heap_setCell _ _ _ _ (by show q ≠ w.heap.size; omega)).trans (h1.blk HV.out hq (by simp))) hq (by simp), HA2.out, ?_, ?_⟩
    · exact Kept.mono (intent_Decode.KK ((intent_Decode.KB.set h1 (Nat.le_refl _) _).trans k1 (.inl rfl))) (fun k hk => .inl hk)
    · refine Kd.R_keep (Kd.R_far (p := ⟨w.heap.size, 0, none⟩) (Kd.R_mono (intent_Decode.own1 (Kd.R_lower HR1.out (base' := w.heap.size + 1) (by simp))) (fun k hk => hk)) (fun k hk => by show k ≠ w.heap.size; omega) _) k1 (fun k hk => by omega)⟩
  clear p1 x10 f10 HB1 HR1 HA1 HK1 HK2 HA2 HO HV HS
  go_loopw [4, 11] (fun _ i wr => ∃ (k : Nat) (gone odd : Bool), k ≤ o2.length ∧ i = .int .i64 k ∧ Aside0 (gone = (decide (k ≠ 0) && decide (rd o2 0 = 1)) ∧ odd = (od || (decide (k ≠ 0) && decide (1 < rd o2 0)))) ∧ Aside0 (intent_Decode.WSt w0 w wr g q p (.slice A1 o1.length c1) o1 s2 gone odd)) (fun _ i _ => o2.length - (intOf i).toNat)
  case atStart => exact ⟨0, false, od, Nat.zero_le _, rfl, ⟨by simp⟩, HW⟩
  case round =>
    clear HW
    obtain ⟨k, gone, odd, hk, rfl, HE, HW⟩ := hrel
    obtain ⟨hb, hod, hva, hat, hke, hR⟩ := HW.out
    have z0 : wr.cell? ⟨w.heap.size, 2, none⟩ = some (.bool gone) := (blk_cell hb 2).trans rfl
    have z1 : wr.frozen? ⟨w.heap.size, 2, none⟩ = false := (blk_frozen hb 2).trans rfl
    have z2 : wr.cell? ⟨p, 0, none⟩ = some (.bool odd) := (blk_cell hod 0).trans rfl
    have z3 : wr.frozen? ⟨p, 0, none⟩ = false := (blk_frozen hod 0).trans rfl
    have hnp : p ≠ w.heap.size := by omega
    by_cases hlt : k < o2.length
    · obtain ⟨ad, hA2, hcell⟩ := Kd.at_int (Kd.C_below HC2.out hat.choose_spec.choose_spec.2.2.2.1) (k : Int) (by omega) (by omega)
      subst hA2
      rw [Int.toNat_natCast] at hcell
      have HK0 : Aside0 (k = 0) := ⟨by rcases HLN.out with h | h <;> omega⟩
      have HRD : Aside0 (rd o2 (k : Int) = rd o2 0) := ⟨by rw [HK0.out]; rfl⟩
      rw [HRD.out] at hcell
      generalize hx : rd o2 0 = x at *
      have HXX := Aside0.mk hx
      clear hx hb hod hva hat hke hR
      cases odd with
      | true =>
        go_wp2
        all_goals go_roundw
        case rel => exact ⟨k + 1, _, _, by omega, by go_num, ⟨by have hk0 := HK0.out; have hxx := HXX.out; have he := HE.out.2; subst hk0; simp at he; simp [hxx, he, *] <;> rfl⟩, ⟨HW.out.put hgl hql hpl hp hpq hp0 hz0 _ _⟩⟩
        case measure => simp [intOf]; omega
      | false =>
        go_wp2
        all_goals go_roundw
        case rel => exact ⟨k + 1, _, _, by omega, by go_num, ⟨by have hk0 := HK0.out; have hxx := HXX.out; have he := HE.out.2; subst hk0; simp at he; simp [hxx, he, *] <;> rfl⟩, ⟨HW.out.put hgl hql hpl hp hpq hp0 hz0 _ _⟩⟩
        case measure => simp [intOf]; omega
    · obtain rfl : k = o2.length := by omega
      have z4 : wr.cell? ⟨q, 0, none⟩ = some (.pointer (some ⟨g, 0, none⟩)) := (blk_cell hva 0).trans rfl
      have HBN := Aside0.mk hb
      have HAT := Aside0.mk hat
      clear hb hod hva hat hke hR z0 z1 z2 z3
      go_wp2_with (go_at_call 39; (with_reducible refine (HT3.out _ HAT.out).mono ?_); rintro e w3 ⟨v3, rfl, hR, hA, hk⟩; (obtain ⟨A3, c3, rfl⟩ := Kd.R_slice hR); have hb3 : w3.heap[w.heap.size]? = some (.cells #[.slice A1 o1.length c1, .slice none 0 0, .bool gone] 88 (0, 0)) := hk.blk HBN.out (by omega) (by simp); have x0 : w3.cell? ⟨w.heap.size, 0, none⟩ = some (.slice A1 o1.length c1) := (blk_cell hb3 0).trans rfl; have x1 : w3.cell? ⟨w.heap.size, 1, none⟩ = some (.slice none 0 0) := (blk_cell hb3 1).trans rfl; have x2 : w3.cell? ⟨w.heap.size, 2, none⟩ = some (.bool gone) := (blk_cell hb3 2).trans rfl; have f0 : w3.frozen? ⟨w.heap.size, 0, none⟩ = false := (blk_frozen hb3 0).trans rfl; have f1 : w3.frozen? ⟨w.heap.size, 1, none⟩ = false := (blk_frozen hb3 1).trans rfl; have f2 : w3.frozen? ⟨w.heap.size, 2, none⟩ = false := (blk_frozen hb3 2).trans rfl; have HB3 := Aside0.mk hb3; have HR3 := Aside0.mk hR; have HA3 := Aside0.mk hA; have HK3 := Aside0.mk hk; clear hR hA hk hb3)
      have hempty : o2.length = 0 → rd o2 0 = 0 := fun h => by rw [List.eq_nil_of_length_eq_zero h]; rfl
      have hgone : gone = decide (rd o2 0 = 1) := by
        rw [HE.out.1]
        by_cases h0 : o2.length = 0
        · simp [h0, hempty h0]
        · simp [h0]
      have hodd : odd = (od || decide (1 < rd o2 0)) := by
        rw [HE.out.2]
        by_cases h0 : o2.length = 0
        · simp [h0, hempty h0]
        · simp [h0]
      obtain rfl := HX.out
      obtain ⟨_, hod, _, _, hke, hR⟩ := HW.out
      have HV : ((((w3.setCell ⟨w.heap.size, 1, none⟩ (.slice A3 o3.length c3)).setCell ⟨w.heap.size, 0, none⟩ (.slice A1 o1.length c1)).setCell ⟨w.heap.size, 1, none⟩ (.slice A3 o3.length c3)).setCell ⟨w.heap.size, 2, none⟩ (.bool gone)).heap[w.heap.size]? = some (.cells #[.slice A1 o1.length c1, .slice A3 o3.length c3, .bool gone] 88 (0, 0)) := blk_put (blk_put (blk_put (blk_put HB3.out 1 (.slice A3 o3.length c3) rfl) 0 (.slice A1 o1.length c1) rfl) 1 (.slice A3 o3.length c3) rfl) 2 (.bool gone) rfl
      refine bodyPost_ret (results_cell_row rfl _ _ w.heap.size 88 _ (0, 0) _ rfl HV hu rfl (by kernel_rfl)) rfl ?_
      have hzr := hke.1
      have hz3 := HK3.out.1
      have hbr := blk_lt HBN.out
      refine ⟨.slice A1 o1.length c1, .slice A3 o3.length c3, by rw [hgone], k88_mkM _ _ _ _ ?_ ?_, ?_, ?_, ?_⟩
      · refine Kd.R_mono (Kd.R_lower (Kd.R_far (p := ⟨w.heap.size, 2, none⟩) (Kd.R_far (p := ⟨w.heap.size, 1, none⟩) (Kd.R_far (p := ⟨w.heap.size, 0, none⟩) (Kd.R_far (p := ⟨w.heap.size, 1, none⟩) (Kd.R_keep hR HK3.out (fun k hk => by omega)) (fun k hk => ?_) _) (fun k hk => ?_) _) (fun k hk => ?_) _) (fun k hk => ?_) _) (by omega)) (fun k hk => by omega)
        all_goals (show k ≠ w.heap.size; omega)
      · refine Kd.R_mono (Kd.R_lower (Kd.R_far (p := ⟨w.heap.size, 2, none⟩) (Kd.R_far (p := ⟨w.heap.size, 1, none⟩) (Kd.R_far (p := ⟨w.heap.size, 0, none⟩) (Kd.R_far (p := ⟨w.heap.size, 1, none⟩) (intent_Decode.own1 HR3.out) (fun k hk => ?_) _) (fun k hk => ?_) _) (fun k hk => ?_) _) (fun k hk => ?_) _) (by omega)) (fun k hk => by omega)
        all_goals (show k ≠ w.heap.size; omega)
      · exact (((HA3.out.set (by omega) hz0 _).set (by omega) hz0 _).set (by omega) hz0 _).set (by omega) hz0 _
      · rw [← hodd]
        exact (Below.heap_setCell _ _ _ _ (by show p ≠ w.heap.size; omega)).trans ((Below.heap_setCell _ _ _ _ (by show p ≠ w.heap.size; omega)).trans ((Below.heap_setCell _ _ _ _ (by show p ≠ w.heap.size; omega)).trans ((Below.heap_setCell _ _ _ _ (by show p ≠ w.heap.size; omega)).trans (HK3.out.blk hod hp (by simp)))))
      · exact ((((hke.of_keep HK3.out (.inl (.inl rfl))).setCell (p := ⟨w.heap.size, 1, none⟩) (.inr (Nat.le_refl _)) _).setCell (p := ⟨w.heap.size, 0, none⟩) (.inr (Nat.le_refl _)) _).setCell (p := ⟨w.heap.size, 1, none⟩) (.inr (Nat.le_refl _)) _).setCell (p := ⟨w.heap.size, 2, none⟩) (.inr (Nat.le_refl _)) _
theorem intent_Decode.set_lt {W : World} {b : Nat} {o : Obj} (h : W.heap[b]? = some o) (p : Addr) (u : Value) : b < (W.setCell p u).heap.size := by
  have h_ := blk_lt h
  simpa [World.setCell] using h_
theorem intent_Decode.not_or0 (n : Nat) : ¬ (fun k => k = n + 1 ∨ k = n + 1 + 1 + 1) n := by
  rintro (h_ | h_) <;> omega
theorem intent_Decode.not_or2 (n : Nat) : ¬ (fun k => k = n + 1 ∨ k = n + 1 + 1 + 1) (n + 1 + 1) := by
  rintro (h_ | h_) <;> omega
theorem intent_Decode.base_lt {W : World} {p : Addr} {u : Value} {k g : Nat} (h : (W.setCell p u).heap.size ≤ k) (hg : g < W.heap.size) : g < k := by
  have : (W.setCell p u).heap.size = W.heap.size := by simp [World.setCell]
  omega
theorem intent_Decode.gt_ne {n g k : Nat} (h : n + 1 + 1 + 1 < g) (hk : g < k) : k ≠ n := by omega
theorem intent_Decode.not_or {n g4 : Nat} (h : n + 1 + 1 + 1 < g4) : ¬ (fun k => k = n + 1 ∨ k = n + 1 + 1 + 1) g4 := by
  rintro (h_ | h_) <;> omega
theorem intent_Decode.KP.then_ {w w2 w3 : World} {S : Nat → Prop} (h : Kept w w2 S) (hb : Below w.heap.size w2 w3) : Kept w w3 S := ⟨Nat.le_trans h.1 hb.size, fun i hi hn => (hb.block i hi).trans (h.2 i hi hn)⟩
def intent_Decode.ManyOutW (w0 w : World) (g p : Nat) (x : List S88) (s : (List Int × Bool) × Bool) (e : Ending) (w' : World) : Prop := ∃ v, e = .returned v ∧ Kd.S k88 88 w' w.heap.size (fun _ => True) v x ∧ intent_Decode.At w0 w' g s.1 ∧ intent_Decode.Odd w' p s.2 ∧ Kept w w' (fun k => k = g ∨ k = p)
set_option maxRecDepth 100000 in
set_option maxHeartbeats 4000000 in
theorem intent_Decode.times_w (w0 w : World) (g q p : Nat) (s : (List Int × Bool)) (od : Bool) (hs : intent_Decode.At w0 w g s) (hv : intent_Decode.Var w q g) (ho : intent_Decode.Odd w p od) (hq : q ≠ g) (hp : p ≠ g) (hpq : p ≠ q) (hp0 : w0.heap.size ≤ p) (hb : intent_Decode.b8 s.1) (hl : s.1.length ≤ 4000) :
    Calls Try.prog 40 #[.pointer (some ⟨g, 0, none⟩), .func (.func 41) #[] #[.pointer (some ⟨q, 0, none⟩), .pointer (some ⟨p, 0, none⟩)]] w (intent_Decode.ManyOutW w0 w g p (intent_Decode.many (fun s => s.1.2) intent_Decode.wrt (intent_Decode.num s).1.toNat ((intent_Decode.num s).2, od)).1 (intent_Decode.many (fun s => s.1.2) intent_Decode.wrt (intent_Decode.num s).1.toNat ((intent_Decode.num s).2, od)).2) := by
  have hql := blk_lt hv
  have hpl := blk_lt ho
  obtain ⟨hz0, hgl⟩ := hs.size
  have hnr := intent_Decode.le_range (intent_Decode.take_b8 hb 4).1
  have HN := Aside0.mk (intent_Decode.num_ w0 w g s hs hb)
  have hb1 : intent_Decode.b8 (intent_Decode.num s).2.1 := (intent_Decode.take_b8 hb 4).2
  have hl1 : (intent_Decode.num s).2.1.length ≤ 4000 := Nat.le_trans (intent_Decode.take_len s 4).2.1 hl
  unfold intent_Decode.NumOut at HN
  have hn0 : 0 ≤ (intent_Decode.num s).1 := hnr.1
  have hn1 : (intent_Decode.num s).1 ≤ 4294967295 := hnr.2
  generalize (intent_Decode.num s).1 = n at *
  generalize (intent_Decode.num s).2 = s1 at *
  obtain ⟨n, rfl⟩ := Int.eq_ofNat_of_zero_le hn0
  rw [Int.toNat_natCast]
  have HV := Aside0.mk hv
  have HOD := Aside0.mk ho
  have HO : Aside0 (∀ (wr : World) (s2 : (List Int × Bool) × Bool), intent_Decode.At w0 wr g s2.1 → intent_Decode.Var wr q g → intent_Decode.Odd wr p s2.2 → intent_Decode.b8 s2.1.1 → s2.1.1.length ≤ 4000 → Calls Try.prog 41 #[.pointer (some ⟨q, 0, none⟩), .pointer (some ⟨p, 0, none⟩)] wr (intent_Decode.WrtOut w0 wr g p (intent_Decode.wrt s2).1 (intent_Decode.wrt s2).2)) := ⟨fun wr s2 h1 h2 h5 h3 h4 => intent_Decode.one_w w0 wr g q p s2 h1 h2 h5 hq hp hpq hp0 h3 h4⟩
  have HB1 := Aside0.mk hb1
  have HN1 := Aside0.mk hn1
  clear hnr hn0 hn1 hs hv ho hb hl hb1
  go_enter Try.func40, Try.ntmps40
  go_wp2_with (go_at_call 36; (with_reducible refine HN.out.mono ?_); rintro e w1 ⟨rfl, hA, hk⟩; have HA1 := Aside0.mk hA; have HK1 := Aside0.mk hk; clear hA hk)
  go_loopg [5, 6] (n + 1) (fun m out j wx => ∃ (acc : List S88) (s2 : (List Int × Bool) × Bool) (i : Nat), m = i + 1 ∧ i ≤ n ∧ j = .int .i64 i ∧ Aside0 (intent_Decode.many (fun s => s.1.2) intent_Decode.wrt n (s1, od) = (acc ++ (intent_Decode.many (fun s => s.1.2) intent_Decode.wrt i s2).1, (intent_Decode.many (fun s => s.1.2) intent_Decode.wrt i s2).2)) ∧ Aside0 (intent_Decode.b8 s2.1.1) ∧ Aside0 (s2.1.1.length ≤ 4000 ∧ (s2.1.2 = false → acc.length + s2.1.1.length ≤ 4000)) ∧ Aside0 (intent_Decode.At w0 wx g s2.1 ∧ intent_Decode.Odd wx p s2.2) ∧ Aside0 (Kept w wx (fun k => k = g ∨ k = p)) ∧ Aside0 (Kd.S k88 88 wx w.heap.size (fun k => w.heap.size ≤ k) out acc))
  case atStart => exact ⟨[], (s1, od), n, rfl, Nat.le_refl _, rfl, ⟨rfl⟩, HB1, ⟨hl1, fun _ => by simpa using hl1⟩, ⟨HA1.out, HK1.out.blk HOD.out hp (by simp)⟩, ⟨Kept.mono (intent_Decode.KK HK1.out) (fun k hk => .inl hk)⟩, ⟨Kd.S_nil _ _ _ _ _⟩⟩
  case round =>
    clear HA1 HK1
    obtain ⟨acc, s2, i, rfl, hi, rfl, HM, HB2, HL2, HA2, HK2, HS2⟩ := hrel
    have y1 : wr.cell? ⟨g, 1, none⟩ = some (.bool s2.1.2) := by obtain ⟨A, c, hg, _⟩ := HA2.out.1; exact (blk_cell hg 1).trans rfl
    obtain ⟨Av, cv, rfl⟩ := Kd.S_slice HS2.out
    cases i with
    | zero =>
      rw [intent_Decode.many, List.append_nil] at HM
      go_wp2
      go_ret
      exact ⟨_, rfl, Kd.S_mono (by rw [HM.out]; exact HS2.out) (fun _ _ => trivial), by rw [HM.out]; exact HA2.out.1, by rw [HM.out]; exact HA2.out.2, HK2.out⟩
    | succ i =>
      cases hbad : s2.1.2 with
      | true =>
        rw [intent_Decode.many, if_pos hbad, List.append_nil] at HM
        rw [hbad] at y1
        clear hbad
        go_wp2
        go_ret
        exact ⟨_, rfl, Kd.S_mono (by rw [HM.out]; exact HS2.out) (fun _ _ => trivial), by rw [HM.out]; exact HA2.out.1, by rw [HM.out]; exact HA2.out.2, HK2.out⟩
      | false =>
        rw [intent_Decode.many, if_neg (by rw [hbad]; decide)] at HM
        rw [hbad] at y1
        have hla := HL2.out.2 hbad
        have HR := Aside0.mk (intent_Decode.wrt_len s2)
        have HC := Aside0.mk (HO.out wr s2 HA2.out.1 ((HK2.out.2 q hql (by omega)).trans HV.out) HA2.out.2 HB2.out HL2.out.1)
        have HB3 : Aside0 (intent_Decode.b8 (intent_Decode.wrt s2).2.1.1) := ⟨intent_Decode.wrt_b8 HB2.out⟩
        have hn1 := HN1.out
        have HI : Aside0 (wrap64 (i : Int) = (i : Int)) := ⟨by unfold wrap64; omega⟩
        generalize (intent_Decode.wrt s2).1 = x at *
        generalize (intent_Decode.wrt s2).2 = s3 at *
        clear hbad hn1
        go_wp2_with (first
          | (go_at_call 41; (with_reducible refine HC.out.mono ?_); rintro e w2 ⟨v1, v2, rfl, hM, hA, ho3, hk⟩; have HM2 := Aside0.mk hM; have HA3 := Aside0.mk hA; have HD3 := Aside0.mk ho3; have HK3 := Aside0.mk hk; clear hM hA hk ho3)
          | (at_builtin; refine Kd.S_append k88 (w0 := w2) w.heap.size rfl (.tmp 20) (.tmp 23) 32 88 (.agg #[(.slice none 0 0), (.slice none 0 0), (.bool false)]) 56 rfl Try.underlying32 info88 rfl (by decide) (by decide) (.slice Av acc.length cv) acc x [v1, v2, .bool x.f2] (fun k => w.heap.size ≤ k) (fun k => wr.heap.size ≤ k) rfl ?cX ?cP ?cO ?cF ?cH ?cB ?cS ?cL ?_; (case cX => first | rfl | (simp [Act.eval]; done) | (go_simp; done)); (case cP => exact k88.M_lower (by have := HK2.out.1; omega) HM2.out); (case cO => intro k hk; have h_ := HK2.out.1; exact ⟨by omega, fun e_ => by have h2_ := Kd.S_lt HS2.out k e_.symm; omega⟩); (case cF => intro k hk; have h_ := HK2.out.1; have h2_ := HK3.out.1; omega); (case cH => exact Kd.S_kept (Kd.S_mono (Kd.S_bound HS2.out) (fun k hk => ⟨hk.1, by have := hk.2.2.1; omega⟩)) HK3.out (fun k hk => by have := hk.1; omega)); (case cB => exact (Below.refl _ _).mono (by have h_ := HK2.out.1; have h2_ := HK3.out.1; omega)); (case cS => have h_ := HK2.out.1; have h2_ := HK3.out.1; omega); (case cL => omega); intro v3 w3 ho hb hg_ hat; have HO3 := Aside0.mk ho; have HB4 := Aside0.mk hb; clear ho hb hg_ hat))
        go_roundg (i + 1)
        case measure => omega
        case rel => exact ⟨acc ++ [x], s3, i, rfl, by omega, by rw [HI.out], ⟨by rw [HM.out, List.append_assoc]; rfl⟩, HB3, ⟨⟨Nat.le_trans HR.out.1 HL2.out.1, fun h => by have h_ := HR.out.2 h; simp; omega⟩⟩, ⟨intent_Decode.At.below HA3.out HB4.out (by omega) (by omega), (HB4.out.block p hpl).trans HD3.out⟩, ⟨intent_Decode.KP.then_ (HK2.out.then_ HK3.out (fun k hk => .inl hk)) HB4.out⟩, HO3⟩
theorem intent_Decode.At.drew {w0 w : World} {g : Nat} {s : (List Int × Bool)} (h : intent_Decode.At w0 w g s) : intent_Decode.At w0 w.drew g s := by
  obtain ⟨A, c, hg, hc, hC, hB, hge⟩ := h
  exact ⟨A, c, hg, hc, hC, below_drew hB, hge⟩
theorem intent_Decode.Var.alloc {w : World} {q g : Nat} (h : intent_Decode.Var w q g) (o : Obj) : intent_Decode.Var (w.alloc o) q g := ((below_alloc (Below.refl w.heap.size w) o).block q (blk_lt h)).trans h
theorem intent_Decode.Var.drew {w : World} {q g : Nat} (h : intent_Decode.Var w q g) : intent_Decode.Var w.drew q g := h
theorem intent_Decode.scell {W : World} {b c o j : Nat} {u : Value} (h : b ≠ c) : (W.setCell ⟨c, j, none⟩ u).cell? ⟨b, o, none⟩ = W.cell? ⟨b, o, none⟩ := by simp [World.cell?, Below.heap_setCell W ⟨c, j, none⟩ u b h]
theorem intent_Decode.scell5 {W : World} {b c o : Nat} {u0 u1 u2 u3 u4 : Value} (h : b ≠ c) : (((((W.setCell ⟨c, 0, none⟩ u0).setCell ⟨c, 1, none⟩ u1).setCell ⟨c, 2, none⟩ u2).setCell ⟨c, 3, none⟩ u3).setCell ⟨c, 4, none⟩ u4).cell? ⟨b, o, none⟩ = W.cell? ⟨b, o, none⟩ := by rw [intent_Decode.scell h, intent_Decode.scell h, intent_Decode.scell h, intent_Decode.scell h, intent_Decode.scell h]
theorem intent_Decode.kcell {W w1 : World} {g : Nat} (hk : KeepBut W w1 g none) : (∀ b o, b ≠ g → b < W.heap.size → w1.cell? ⟨b, o, none⟩ = W.cell? ⟨b, o, none⟩) ∧ (∀ b o, b ≠ g → b < W.heap.size → w1.frozen? ⟨b, o, none⟩ = W.frozen? ⟨b, o, none⟩) ∧ W.heap.size ≤ w1.heap.size :=
  ⟨fun b o h1 h2 => by simp [World.cell?, hk.2 b h2 h1 (by simp)], fun b o h1 h2 => by simp [World.frozen?, hk.2 b h2 h1 (by simp)], hk.1⟩
/-- What stands in Decode: its result's block, the tape, its variable, the flag's variable, one behind the other. -/
def intent_Decode.DP (w W : World) (s : (List Int × Bool)) (od : Bool) : Prop := W.heap[w.heap.size]? = some (.cells #[.int .i64 0, .int .i64 0, .int .i64 0, .slice none 0 0, .slice none 0 0] 34 (0, 0)) ∧ intent_Decode.At w W (w.heap.size + 1) s ∧ intent_Decode.Var W (w.heap.size + 1 + 1) (w.heap.size + 1) ∧ intent_Decode.Odd W (w.heap.size + 1 + 1 + 1) od
theorem intent_Decode.DP.at_ {w W : World} {s : (List Int × Bool)} {od : Bool} (h : intent_Decode.DP w W s od) : intent_Decode.At w W (w.heap.size + 1) s := h.2.1
theorem intent_Decode.DP.size {w W : World} {s : (List Int × Bool)} {od : Bool} (h : intent_Decode.DP w W s od) : w.heap.size + 1 + 1 + 1 < W.heap.size := blk_lt h.2.2.2
theorem intent_Decode.DP.bel {w W : World} {s : (List Int × Bool)} {od : Bool} (h : intent_Decode.DP w W s od) : Below w.heap.size w W := h.2.1.choose_spec.choose_spec.2.2.2.1
theorem intent_Decode.DP.below {w W W' : World} {s : (List Int × Bool)} {od : Bool} (h : intent_Decode.DP w W s od) (hb : Below W.heap.size W W') : intent_Decode.DP w W' s od := by
  have hz := h.size
  exact ⟨(hb.block _ (by omega)).trans h.1, h.2.1.below hb (by omega) (by omega), (hb.block _ (by omega)).trans h.2.2.1, (hb.block _ (by omega)).trans h.2.2.2⟩
theorem intent_Decode.DP.alloc {w W : World} {s : (List Int × Bool)} {od : Bool} (h : intent_Decode.DP w W s od) (o : Obj) : intent_Decode.DP w (W.alloc o) s od := h.below (below_alloc (Below.refl _ _) o)
theorem intent_Decode.DP.drew {w W : World} {s : (List Int × Bool)} {od : Bool} (h : intent_Decode.DP w W s od) : intent_Decode.DP w W.drew s od := h.below (below_drew (Below.refl _ _))
theorem intent_Decode.DP.keep {w W W' : World} {s s' : (List Int × Bool)} {od : Bool} (h : intent_Decode.DP w W s od) (hk : KeepBut W W' (w.heap.size + 1) none) (ha : intent_Decode.At w W' (w.heap.size + 1) s') : intent_Decode.DP w W' s' od :=
  ⟨hk.blk h.1 (by omega) (by simp), ha, hk.blk h.2.2.1 (by omega) (by simp), hk.blk h.2.2.2 (by omega) (by simp)⟩
theorem intent_Decode.DP.set {w W : World} {s : (List Int × Bool)} {od : Bool} (h : intent_Decode.DP w W s od) {b j : Nat} (hb : w.heap.size + 1 + 1 + 1 < b) (u : Value) : intent_Decode.DP w (W.setCell ⟨b, j, none⟩ u) s od :=
  ⟨(Below.heap_setCell _ _ _ _ (by show w.heap.size ≠ b; omega)).trans h.1, h.2.1.set (by omega) (by omega) _, (Below.heap_setCell _ _ _ _ (by show w.heap.size + 1 + 1 ≠ b; omega)).trans h.2.2.1, (Below.heap_setCell _ _ _ _ (by show w.heap.size + 1 + 1 + 1 ≠ b; omega)).trans h.2.2.2⟩
def intent_Decode.DX (W : World) (g4 : Nat) (a1 a2 a3 : Int) (v4 v5 : Value) : Prop := W.heap[g4]? = some (.cells #[.int .i64 a1, .int .i64 a2, .int .i64 a3, v4, v5] 34 (0, 0))
theorem intent_Decode.DX.sets {W : World} {b : Nat} (h : W.heap[b]? = some (.cells #[.int .i64 0, .int .i64 0, .int .i64 0, .slice none 0 0, .slice none 0 0] 34 (0, 0))) (a1 a2 : Int) : intent_Decode.DX (((((W.setCell ⟨b, 0, none⟩ (.int .i64 a1)).setCell ⟨b, 1, none⟩ (.int .i64 a2)).setCell ⟨b, 2, none⟩ (.int .i64 0)).setCell ⟨b, 3, none⟩ (.slice none 0 0)).setCell ⟨b, 4, none⟩ (.slice none 0 0)) b a1 a2 0 (.slice none 0 0) (.slice none 0 0) :=
  blk_put (blk_put (blk_put (blk_put (blk_put h 0 (.int .i64 a1) rfl) 1 (.int .i64 a2) rfl) 2 (.int .i64 0) rfl) 3 (.slice none 0 0) rfl) 4 (.slice none 0 0) rfl
/-- What an intent is decoded to. -/
def intent_Decode.f (k : Nat) (l0 : List Int) : Option (Int × Int × Int × (List S83) × (List S88) × Int) :=
  if ¬ (∀ x ∈ l0, 0 ≤ x ∧ x ≤ 255) then none else if (l0.length : Int) > 4000 then some (0, 0, 0, [], [], 4) else
  let a := intent_Decode.num (l0, false)
  let b := intent_Decode.num a.2
  let c := intent_Decode.num b.2
  let r := intent_Decode.many Prod.snd intent_Decode.rng (intent_Decode.num c.2).1.toNat (intent_Decode.num c.2).2
  let u := intent_Decode.many (fun s => s.1.2) intent_Decode.wrt (intent_Decode.num r.2).1.toNat ((intent_Decode.num r.2).2, false)
  if u.2.1.2 = true ∨ u.2.2 = true ∨ 0 < u.2.1.1.length then some (0, 0, 0, [], [], 4) else
  (intent_May.f k a.1 b.1 c.1 r.1 u.1).bind fun t => if t = true then some (a.1, b.1, c.1, r.1, u.1, 0) else some (0, 0, 0, [], [], 4)
theorem intent_Decode.mono : ∀ a0 k, LeO (intent_Decode.f k a0) (intent_Decode.f (k + 1) a0) := by
  intro l k
  unfold intent_Decode.f
  refine LeO.ite (LeO.refl _) (LeO.ite (LeO.refl _) (LeO.ite (LeO.refl _) ?_))
  exact LeO.bind (intent_May.mono _ _ _ _ _ _) (fun _ => LeO.refl _)
def intent_Decode.Post (w : World) (r1 r2 r3 : Int) (r4 : List S83) (r5 : List S88) (r6 : Int) (e : Ending) (w' : World) : Prop := ∃ v3_ v4_ : Value, e = .returned (.tuple #[.agg #[.int .i64 r1, .int .i64 r2, .int .i64 r3, v3_, v4_], .int .i64 r6]) ∧ Kd.S k83 83 w' w.heap.size (fun _ => True) v3_ r4 ∧ Kd.S k88 88 w' w.heap.size (fun _ => True) v4_ r5 ∧ Below w.heap.size w w'
theorem intent_Decode.many_b8r : ∀ (n : Nat) (s : (List Int × Bool)), intent_Decode.b8 s.1 → s.1.length ≤ 4000 → intent_Decode.b8 (intent_Decode.many Prod.snd intent_Decode.rng n s).2.1 ∧ (intent_Decode.many Prod.snd intent_Decode.rng n s).2.1.length ≤ 4000
  | 0, s, h, hl => ⟨h, hl⟩
  | n + 1, s, h, hl => by
    rw [intent_Decode.many]
    split
    · exact ⟨h, hl⟩
    · exact intent_Decode.many_b8r n _ (intent_Decode.text_b8 (intent_Decode.text_b8 h)) (Nat.le_trans (intent_Decode.rng_len s).1 hl)
set_option maxRecDepth 100000 in
set_option maxHeartbeats 8000000 in
theorem intent_Decode.calls (k : Nat) (A0 : Option Addr) (c0 : Nat) (l0 : List Int) (r1 r2 r3 : Int) (r4 : List S83) (r5 : List S88) (r6 : Int) (w : World) (hr0 : Kd.C (Kd.int .u8) w A0 l0.length l0) (hc0 : l0.length ≤ c0) (h : intent_Decode.f k l0 = some (r1, r2, r3, r4, r5, r6)) :
    Calls Try.prog 13 #[.slice A0 l0.length c0] w (intent_Decode.Post w r1 r2 r3 r4 r5 r6) := by
  unfold intent_Decode.f at h
  by_cases hb : ∀ x ∈ l0, 0 ≤ x ∧ x ≤ 255
  rotate_left
  · rw [if_pos hb] at h; cases h
  rw [if_neg (fun q => q hb)] at h
  have hu := Try.underlying34
  by_cases hs : (l0.length : Int) > 4000
  · rw [if_pos hs] at h
    obtain ⟨rfl, rfl, rfl, rfl, rfl, rfl⟩ : 0 = r1 ∧ 0 = r2 ∧ 0 = r3 ∧ [] = r4 ∧ [] = r5 ∧ 4 = r6 := by simpa using h
    clear hr0 h hb
    go_enter Try.func13, Try.ntmps13
    go_wp2
    refine bodyPost_ret (results_list (rs := [.cell 2 34, .tmp 3]) rfl (by simp) (.cell w.heap.size 34 _ (0, 0) _ rfl (heap_alloc_new w _) hu rfl (by kernel_rfl) (.tmp .nil))) rfl ?_
    exact ⟨_, _, rfl, Kd.S_nil _ _ _ _ _, Kd.S_nil _ _ _ _ _, below_alloc (Below.refl _ _) _⟩
  rw [if_neg hs] at h
  have hl : l0.length ≤ 4000 := by omega
  have HC0 := Aside0.mk hr0
  have HN : Aside0 (∀ (W : World) (q : (List Int × Bool)), intent_Decode.b8 q.1 → intent_Decode.At w W (w.heap.size + 1) q → Calls Try.prog 36 #[.pointer (some ⟨w.heap.size + 1, 0, none⟩)] W (intent_Decode.NumOut w W (w.heap.size + 1) q)) := ⟨fun W q h2 h1 => intent_Decode.num_ w W _ q h1 h2⟩
  have hb1 := (intent_Decode.take_b8 (s := (l0, false)) hb 4).2
  have hl1 := Nat.le_trans (intent_Decode.take_len (l0, false) 4).2.1 hl
  have hb2 := (intent_Decode.take_b8 hb1 4).2
  have hl2 := Nat.le_trans (intent_Decode.take_len (intent_Decode.num (l0, false)).2 4).2.1 hl1
  have hb3 := (intent_Decode.take_b8 hb2 4).2
  have hl3 := Nat.le_trans (intent_Decode.take_len (intent_Decode.num (intent_Decode.num (l0, false)).2).2 4).2.1 hl2
  have hb4 := intent_Decode.many_b8r (intent_Decode.num (intent_Decode.num (intent_Decode.num (intent_Decode.num (l0, false)).2).2).2).1.toNat _ (intent_Decode.take_b8 hb3 4).2 (Nat.le_trans (intent_Decode.take_len (intent_Decode.num (intent_Decode.num (intent_Decode.num (l0, false)).2).2).2 4).2.1 hl3)
  have HN1 : Aside0 (∀ W : World, intent_Decode.At w W (w.heap.size + 1) (l0, false) → Calls Try.prog 36 #[.pointer (some ⟨w.heap.size + 1, 0, none⟩)] W (intent_Decode.NumOut w W (w.heap.size + 1) (l0, false))) := ⟨fun W h1 => HN.out W _ hb h1⟩
  have HN2 : Aside0 (∀ W : World, intent_Decode.At w W (w.heap.size + 1) (intent_Decode.num (l0, false)).2 → Calls Try.prog 36 #[.pointer (some ⟨w.heap.size + 1, 0, none⟩)] W (intent_Decode.NumOut w W (w.heap.size + 1) (intent_Decode.num (l0, false)).2)) := ⟨fun W h1 => HN.out W _ hb1 h1⟩
  have HN3 : Aside0 (∀ W : World, intent_Decode.At w W (w.heap.size + 1) (intent_Decode.num (intent_Decode.num (l0, false)).2).2 → Calls Try.prog 36 #[.pointer (some ⟨w.heap.size + 1, 0, none⟩)] W (intent_Decode.NumOut w W (w.heap.size + 1) (intent_Decode.num (intent_Decode.num (l0, false)).2).2)) := ⟨fun W h1 => HN.out W _ hb2 h1⟩
  have HT4 : Aside0 (∀ W : World, intent_Decode.At w W (w.heap.size + 1) (intent_Decode.num (intent_Decode.num (intent_Decode.num (l0, false)).2).2).2 → intent_Decode.Var W (w.heap.size + 1 + 1) (w.heap.size + 1) → Calls Try.prog 37 #[.pointer (some ⟨w.heap.size + 1, 0, none⟩), .func (.func 38) #[] #[.pointer (some ⟨w.heap.size + 1 + 1, 0, none⟩)]] W (intent_Decode.ManyOutR w W (w.heap.size + 1) (intent_Decode.many Prod.snd intent_Decode.rng (intent_Decode.num (intent_Decode.num (intent_Decode.num (intent_Decode.num (l0, false)).2).2).2).1.toNat (intent_Decode.num (intent_Decode.num (intent_Decode.num (intent_Decode.num (l0, false)).2).2).2).2).1 (intent_Decode.many Prod.snd intent_Decode.rng (intent_Decode.num (intent_Decode.num (intent_Decode.num (intent_Decode.num (l0, false)).2).2).2).1.toNat (intent_Decode.num (intent_Decode.num (intent_Decode.num (intent_Decode.num (l0, false)).2).2).2).2).2)) := ⟨fun W h1 h2 => intent_Decode.times_r w W _ _ _ h1 h2 (by omega) hb3 hl3⟩
  have HT5 : Aside0 (∀ W : World, intent_Decode.At w W (w.heap.size + 1) (intent_Decode.many Prod.snd intent_Decode.rng (intent_Decode.num (intent_Decode.num (intent_Decode.num (intent_Decode.num (l0, false)).2).2).2).1.toNat (intent_Decode.num (intent_Decode.num (intent_Decode.num (intent_Decode.num (l0, false)).2).2).2).2).2 → intent_Decode.Var W (w.heap.size + 1 + 1) (w.heap.size + 1) → intent_Decode.Odd W (w.heap.size + 1 + 1 + 1) false → Calls Try.prog 40 #[.pointer (some ⟨w.heap.size + 1, 0, none⟩), .func (.func 41) #[] #[.pointer (some ⟨w.heap.size + 1 + 1, 0, none⟩), .pointer (some ⟨w.heap.size + 1 + 1 + 1, 0, none⟩)]] W (intent_Decode.ManyOutW w W (w.heap.size + 1) (w.heap.size + 1 + 1 + 1) (intent_Decode.many (fun s => s.1.2) intent_Decode.wrt (intent_Decode.num (intent_Decode.many Prod.snd intent_Decode.rng (intent_Decode.num (intent_Decode.num (intent_Decode.num (intent_Decode.num (l0, false)).2).2).2).1.toNat (intent_Decode.num (intent_Decode.num (intent_Decode.num (intent_Decode.num (l0, false)).2).2).2).2).2).1.toNat ((intent_Decode.num (intent_Decode.many Prod.snd intent_Decode.rng (intent_Decode.num (intent_Decode.num (intent_Decode.num (intent_Decode.num (l0, false)).2).2).2).1.toNat (intent_Decode.num (intent_Decode.num (intent_Decode.num (intent_Decode.num (l0, false)).2).2).2).2).2).2, false)).1 (intent_Decode.many (fun s => s.1.2) intent_Decode.wrt (intent_Decode.num (intent_Decode.many Prod.snd intent_Decode.rng (intent_Decode.num (intent_Decode.num (intent_Decode.num (intent_Decode.num (l0, false)).2).2).2).1.toNat (intent_Decode.num (intent_Decode.num (intent_Decode.num (intent_Decode.num (l0, false)).2).2).2).2).2).1.toNat ((intent_Decode.num (intent_Decode.many Prod.snd intent_Decode.rng (intent_Decode.num (intent_Decode.num (intent_Decode.num (intent_Decode.num (l0, false)).2).2).2).1.toNat (intent_Decode.num (intent_Decode.num (intent_Decode.num (intent_Decode.num (l0, false)).2).2).2).2).2).2, false)).2)) := ⟨fun W h1 h2 h3 => intent_Decode.times_w w W _ _ _ _ _ h1 h2 h3 (by omega) (by omega) (by omega) (by omega) hb4.1 hb4.2⟩
  dsimp only at h
  generalize (intent_Decode.many (fun s => s.1.2) intent_Decode.wrt (intent_Decode.num (intent_Decode.many Prod.snd intent_Decode.rng (intent_Decode.num (intent_Decode.num (intent_Decode.num (intent_Decode.num (l0, false)).2).2).2).1.toNat (intent_Decode.num (intent_Decode.num (intent_Decode.num (intent_Decode.num (l0, false)).2).2).2).2).2).1.toNat ((intent_Decode.num (intent_Decode.many Prod.snd intent_Decode.rng (intent_Decode.num (intent_Decode.num (intent_Decode.num (intent_Decode.num (l0, false)).2).2).2).1.toNat (intent_Decode.num (intent_Decode.num (intent_Decode.num (intent_Decode.num (l0, false)).2).2).2).2).2).2, false)) = q6 at h HT5
  generalize (intent_Decode.many Prod.snd intent_Decode.rng (intent_Decode.num (intent_Decode.num (intent_Decode.num (intent_Decode.num (l0, false)).2).2).2).1.toNat (intent_Decode.num (intent_Decode.num (intent_Decode.num (intent_Decode.num (l0, false)).2).2).2).2) = q5 at h HT4 HT5 hb4
  unfold intent_Decode.NumOut at HN1 HN2 HN3
  generalize intent_Decode.num (l0, false) = q1 at *
  obtain ⟨a1, s1⟩ := q1
  generalize intent_Decode.num s1 = q2 at *
  obtain ⟨a2, s2⟩ := q2
  generalize intent_Decode.num s2 = q3 at *
  obtain ⟨a3, s3⟩ := q3
  obtain ⟨rs, s4⟩ := q5
  obtain ⟨ws, ⟨l5, bad5⟩, od5⟩ := q6
  have HF := Aside0.mk h
  have HA0 : Aside0 (∀ W : World, Below w.heap.size w W → W.heap[w.heap.size + 1]? = some (.cells #[.slice A0 l0.length c0, .bool false] 79 (0, 0)) → intent_Decode.At w W (w.heap.size + 1) (l0, false)) := ⟨fun W h1 h2 => ⟨A0, c0, h2, hc0, hr0, h1, by omega⟩⟩
  clear h hr0 hb1 hb2 hb3 hb4 hl1 hl2 hl3 HN
  go_enter Try.func13, Try.ntmps13
  go_upto_region 5 with (fail)
  have HW : Aside0 (intent_Decode.DP w ((((w.alloc (Obj.cells #[Value.int IntKind.i64 0, Value.int IntKind.i64 0, Value.int IntKind.i64 0, Value.slice none 0 0, Value.slice none 0 0] 34)).alloc (Obj.cells #[Value.slice A0 l0.length c0, Value.bool false] 79)).alloc (Obj.cells #[Value.pointer (some { block := w.heap.size + 1, off := 0 })] 77)).alloc (Obj.cells #[Value.bool false] 4)) (l0, false) false) := ⟨by
    have n1 := heap_alloc_new w (Obj.cells #[Value.int IntKind.i64 0, Value.int IntKind.i64 0, Value.int IntKind.i64 0, Value.slice none 0 0, Value.slice none 0 0] 34)
    generalize hw1 : w.alloc (Obj.cells #[Value.int IntKind.i64 0, Value.int IntKind.i64 0, Value.int IntKind.i64 0, Value.slice none 0 0, Value.slice none 0 0] 34) = w1 at *
    have z1 : w1.heap.size = w.heap.size + 1 := by rw [← hw1]; simp
    have n2 := heap_alloc_new w1 (Obj.cells #[Value.slice A0 l0.length c0, Value.bool false] 79)
    have b2 := below_alloc (Below.refl w1.heap.size w1) (Obj.cells #[Value.slice A0 l0.length c0, Value.bool false] 79)
    generalize hw2 : w1.alloc (Obj.cells #[Value.slice A0 l0.length c0, Value.bool false] 79) = w2 at *
    have z2 : w2.heap.size = w.heap.size + 1 + 1 := by rw [← hw2]; simp [z1]
    have n3 := heap_alloc_new w2 (Obj.cells #[Value.pointer (some { block := w.heap.size + 1, off := 0 })] 77)
    have b3 := below_alloc (Below.refl w2.heap.size w2) (Obj.cells #[Value.pointer (some { block := w.heap.size + 1, off := 0 })] 77)
    generalize hw3 : w2.alloc (Obj.cells #[Value.pointer (some { block := w.heap.size + 1, off := 0 })] 77) = w3 at *
    have z3 : w3.heap.size = w.heap.size + 1 + 1 + 1 := by rw [← hw3]; simp [z2]
    have n4 := heap_alloc_new w3 (Obj.cells #[Value.bool false] 4)
    have b4 := below_alloc (Below.refl w3.heap.size w3) (Obj.cells #[Value.bool false] 4)
    have hB : Below w.heap.size w (w3.alloc (Obj.cells #[Value.bool false] 4)) := by
      rw [← hw3, ← hw2, ← hw1]
      exact below_alloc (below_alloc (below_alloc (below_alloc (Below.refl _ _) _) _) _) _
    generalize w3.alloc (Obj.cells #[Value.bool false] 4) = w4 at *
    rw [z1] at n2 b2
    rw [z2] at n3 b3
    rw [z3] at n4 b4
    refine ⟨(b4.block _ (by omega)).trans ((b3.block _ (by omega)).trans ((b2.block _ (by omega)).trans n1)), HA0.out _ hB ((b4.block _ (by omega)).trans ((b3.block _ (by omega)).trans n2)), (b4.block _ (by omega)).trans n3, n4⟩⟩
  generalize (((w.alloc (Obj.cells #[Value.int IntKind.i64 0, Value.int IntKind.i64 0, Value.int IntKind.i64 0, Value.slice none 0 0, Value.slice none 0 0] 34)).alloc (Obj.cells #[Value.slice A0 l0.length c0, Value.bool false] 79)).alloc (Obj.cells #[Value.pointer (some { block := w.heap.size + 1, off := 0 })] 77)).alloc (Obj.cells #[Value.bool false] 4) = wz at *
  clear HA0
  go_cut [6] (fun s6 wx => ∃ g4 : Nat, s6 = .pointer (some ⟨g4, 0, none⟩) ∧ Aside0 (intent_Decode.DP w wx s2 false ∧ w.heap.size + 1 + 1 + 1 < g4 ∧ intent_Decode.DX wx g4 a1 a2 0 (.slice none 0 0) (.slice none 0 0)))
  case first =>
    have p0 : wz.cell? ⟨w.heap.size + 1 + 1, 0, none⟩ = some (.pointer (some ⟨w.heap.size + 1, 0, none⟩)) := (blk_cell HW.out.2.2.1 0).trans rfl
    have hz := HW.out.size
    have hz2 : w.heap.size + 1 + 1 < wz.heap.size := by omega
    have hnz : wz.heap.size ≠ w.heap.size + 1 := by omega
    clear HF HN3 HT4 HT5
    go_region_with (first
    | (go_at_call 36; (refine (HN1.out _ (intent_Decode.DP.at_ (show intent_Decode.DP w _ (l0, false) false from by repeat (first | (with_reducible exact HW.out) | (with_reducible apply intent_Decode.DP.alloc) | (with_reducible apply intent_Decode.DP.drew))))).mono ?_); rintro e w1 ⟨rfl, hA, hk⟩; have HD1 := Aside0.mk (intent_Decode.DP.keep (show intent_Decode.DP w _ (l0, false) false from by repeat (first | (with_reducible exact HW.out) | (with_reducible apply intent_Decode.DP.alloc) | (with_reducible apply intent_Decode.DP.drew))) hk hA); have hz1 := HD1.out.size; have hl1 := Nat.lt_trans (Nat.lt_succ_self _) hz1; have p1 : w1.cell? ⟨w.heap.size + 1 + 1, 0, none⟩ = some (.pointer (some ⟨w.heap.size + 1, 0, none⟩)) := (blk_cell HD1.out.2.2.1 0).trans rfl; have hn1 : w1.heap.size ≠ w.heap.size + 1 := (by omega); (try (have hx1 := hk.blk (g' := wz.heap.size) (heap_alloc_new _ _) hnz nofun; have xw10hx1 : w1.cell? ⟨wz.heap.size, 0, none⟩ = some (.int .i64 0) := (blk_cell hx1 0).trans rfl; have yw10hx1 : w1.frozen? ⟨wz.heap.size, 0, none⟩ = false := (blk_frozen hx1 0).trans rfl; have xw11hx1 : w1.cell? ⟨wz.heap.size, 1, none⟩ = some (.int .i64 0) := (blk_cell hx1 1).trans rfl; have yw11hx1 : w1.frozen? ⟨wz.heap.size, 1, none⟩ = false := (blk_frozen hx1 1).trans rfl; have xw12hx1 : w1.cell? ⟨wz.heap.size, 2, none⟩ = some (.int .i64 0) := (blk_cell hx1 2).trans rfl; have yw12hx1 : w1.frozen? ⟨wz.heap.size, 2, none⟩ = false := (blk_frozen hx1 2).trans rfl; have xw13hx1 : w1.cell? ⟨wz.heap.size, 3, none⟩ = some (.slice none 0 0) := (blk_cell hx1 3).trans rfl; have yw13hx1 : w1.frozen? ⟨wz.heap.size, 3, none⟩ = false := (blk_frozen hx1 3).trans rfl; have xw14hx1 : w1.cell? ⟨wz.heap.size, 4, none⟩ = some (.slice none 0 0) := (blk_cell hx1 4).trans rfl; have yw14hx1 : w1.frozen? ⟨wz.heap.size, 4, none⟩ = false := (blk_frozen hx1 4).trans rfl; have HX1 := Aside0.mk hx1; clear hx1)); clear hA hk HN1)
    | (go_at_call 36; (refine (HN2.out _ (intent_Decode.DP.at_ (show intent_Decode.DP w _ s1 false from by repeat (first | (with_reducible exact HD1.out) | (with_reducible apply intent_Decode.DP.alloc) | (with_reducible apply intent_Decode.DP.drew))))).mono ?_); rintro e w2 ⟨rfl, hA, hk⟩; have HD2 := Aside0.mk (intent_Decode.DP.keep (show intent_Decode.DP w _ s1 false from by repeat (first | (with_reducible exact HD1.out) | (with_reducible apply intent_Decode.DP.alloc) | (with_reducible apply intent_Decode.DP.drew))) hk hA); have hz2' := HD2.out.size; have hl2 := Nat.lt_trans (Nat.lt_succ_self _) hz2'; have p2 : w2.cell? ⟨w.heap.size + 1 + 1, 0, none⟩ = some (.pointer (some ⟨w.heap.size + 1, 0, none⟩)) := (blk_cell HD2.out.2.2.1 0).trans rfl; (try (have hx2 := hk.blk HX1.out hnz nofun; have xw20hx2 : w2.cell? ⟨wz.heap.size, 0, none⟩ = some (.int .i64 0) := (blk_cell hx2 0).trans rfl; have yw20hx2 : w2.frozen? ⟨wz.heap.size, 0, none⟩ = false := (blk_frozen hx2 0).trans rfl; have xw21hx2 : w2.cell? ⟨wz.heap.size, 1, none⟩ = some (.int .i64 0) := (blk_cell hx2 1).trans rfl; have yw21hx2 : w2.frozen? ⟨wz.heap.size, 1, none⟩ = false := (blk_frozen hx2 1).trans rfl; have xw22hx2 : w2.cell? ⟨wz.heap.size, 2, none⟩ = some (.int .i64 0) := (blk_cell hx2 2).trans rfl; have yw22hx2 : w2.frozen? ⟨wz.heap.size, 2, none⟩ = false := (blk_frozen hx2 2).trans rfl; have xw23hx2 : w2.cell? ⟨wz.heap.size, 3, none⟩ = some (.slice none 0 0) := (blk_cell hx2 3).trans rfl; have yw23hx2 : w2.frozen? ⟨wz.heap.size, 3, none⟩ = false := (blk_frozen hx2 3).trans rfl; have xw24hx2 : w2.cell? ⟨wz.heap.size, 4, none⟩ = some (.slice none 0 0) := (blk_cell hx2 4).trans rfl; have yw24hx2 : w2.frozen? ⟨wz.heap.size, 4, none⟩ = false := (blk_frozen hx2 4).trans rfl; have HX2 := Aside0.mk hx2; clear hx2)); (try (have hx3 := hk.blk (g' := w1.heap.size) (heap_alloc_new _ _) hn1 nofun; have xw20hx3 : w2.cell? ⟨w1.heap.size, 0, none⟩ = some (.int .i64 0) := (blk_cell hx3 0).trans rfl; have yw20hx3 : w2.frozen? ⟨w1.heap.size, 0, none⟩ = false := (blk_frozen hx3 0).trans rfl; have xw21hx3 : w2.cell? ⟨w1.heap.size, 1, none⟩ = some (.int .i64 0) := (blk_cell hx3 1).trans rfl; have yw21hx3 : w2.frozen? ⟨w1.heap.size, 1, none⟩ = false := (blk_frozen hx3 1).trans rfl; have xw22hx3 : w2.cell? ⟨w1.heap.size, 2, none⟩ = some (.int .i64 0) := (blk_cell hx3 2).trans rfl; have yw22hx3 : w2.frozen? ⟨w1.heap.size, 2, none⟩ = false := (blk_frozen hx3 2).trans rfl; have xw23hx3 : w2.cell? ⟨w1.heap.size, 3, none⟩ = some (.slice none 0 0) := (blk_cell hx3 3).trans rfl; have yw23hx3 : w2.frozen? ⟨w1.heap.size, 3, none⟩ = false := (blk_frozen hx3 3).trans rfl; have xw24hx3 : w2.cell? ⟨w1.heap.size, 4, none⟩ = some (.slice none 0 0) := (blk_cell hx3 4).trans rfl; have yw24hx3 : w2.frozen? ⟨w1.heap.size, 4, none⟩ = false := (blk_frozen hx3 4).trans rfl; have HX3 := Aside0.mk hx3; clear hx3)); clear hA hk))
    all_goals
      go_wp2_with fail
      go_meet
      first
        | (have q_ := HX2.out; exact ⟨_, rfl, ⟨(((((HD2.out.set hz _).set hz _).set hz _).set hz _).set hz _), hz, intent_Decode.DX.sets HX2.out a1 a2⟩⟩)
        | (have q_ := HX3.out; exact ⟨_, rfl, ⟨(((((HD2.out.set hz1 _).set hz1 _).set hz1 _).set hz1 _).set hz1 _), hz1, intent_Decode.DX.sets HX3.out a1 a2⟩⟩)
        | exact ⟨_, rfl, ⟨HD2.out.alloc _, hz2', heap_alloc_new _ _⟩⟩
  case rest =>
    clear HN1 HN2 HW
    obtain ⟨g4, rfl, HX⟩ := hcut
    have hg4 := HX.out.2.1
    have hz0 := HX.out.1.size
    have p0 : wc.cell? ⟨w.heap.size + 1 + 1, 0, none⟩ = some (.pointer (some ⟨w.heap.size + 1, 0, none⟩)) := (blk_cell HX.out.1.2.2.1 0).trans rfl
    have HN3b := Aside0.mk (HN3.out wc HX.out.1.2.1)
    clear HN3
    rcases (show bad5 = true ∨ (bad5 = false ∧ od5 = true) ∨ (bad5 = false ∧ od5 = false ∧ 0 < l5.length) ∨ (bad5 = false ∧ od5 = false ∧ l5 = []) from by cases bad5 <;> cases od5 <;> cases l5 <;> simp) with rfl | ⟨rfl, rfl⟩ | ⟨rfl, rfl, hl5⟩ | ⟨rfl, rfl, rfl⟩
    · go_wp2_with (first
        | (go_at_call 36; (with_reducible refine HN3b.out.mono ?_); rintro e w3 ⟨rfl, hA, hk⟩; have HD3 := Aside0.mk (HX.out.1.keep hk hA); have p3 : w3.cell? ⟨w.heap.size + 1 + 1, 0, none⟩ = some (.pointer (some ⟨w.heap.size + 1, 0, none⟩)) := (blk_cell HD3.out.2.2.1 0).trans rfl; have hx := hk.blk HX.out.2.2 (by omega) nofun; have x32 : w3.cell? ⟨g4, 2, none⟩ = some (.int .i64 0) := (blk_cell hx 2).trans rfl; have x3f2 : w3.frozen? ⟨g4, 2, none⟩ = false := (blk_frozen hx 2).trans rfl; have HX3 := Aside0.mk hx; have HZ3 := Aside0.mk (blk_lt hx); clear hA hk hx)
        | (go_at_call 37; (refine (HT4.out _ ((HD3.out.set hg4 _).at_) ((HD3.out.set hg4 _).2.2.1)).mono ?_); rintro e w4 ⟨v4, rfl, hS, hA, hk⟩; (obtain ⟨A4, c4, rfl⟩ := Kd.S_slice hS); have HD4 := Aside0.mk ((HD3.out.set hg4 _).keep hk hA); have p4 : w4.cell? ⟨w.heap.size + 1 + 1, 0, none⟩ = some (.pointer (some ⟨w.heap.size + 1, 0, none⟩)) := (blk_cell HD4.out.2.2.1 0).trans rfl; have hx := hk.blk (blk_put HX3.out 2 (.int .i64 a3) rfl) (by omega) nofun; have x43 : w4.cell? ⟨g4, 3, none⟩ = some (.slice none 0 0) := (blk_cell hx 3).trans rfl; have x4f3 : w4.frozen? ⟨g4, 3, none⟩ = false := (blk_frozen hx 3).trans rfl; have HX4 := Aside0.mk hx; have HS4 := Aside0.mk hS; have HZ4 : Aside0 (w3.heap.size ≤ w4.heap.size) := ⟨by have h_ := hk.1; simpa [World.setCell] using h_⟩; clear hA hk hx hS)
        | (go_at_call 40; (refine (HT5.out _ ((HD4.out.set hg4 _).at_) ((HD4.out.set hg4 _).2.2.1) ((HD4.out.set hg4 _).2.2.2)).mono ?_); rintro e w5 ⟨v5, rfl, hS, hA, hod, hk⟩; (obtain ⟨A5, c5, rfl⟩ := Kd.S_slice hS); have hx := (hk.2 g4 (intent_Decode.set_lt HX4.out _ _) (intent_Decode.not_or hg4)).trans (blk_put HX4.out 3 (.slice A4 rs.length c4) rfl); have x54 : w5.cell? ⟨g4, 4, none⟩ = some (.slice none 0 0) := (blk_cell hx 4).trans rfl; have x5f4 : w5.frozen? ⟨g4, 4, none⟩ = false := (blk_frozen hx 4).trans rfl; have x50 : w5.cell? ⟨g4, 0, none⟩ = some (.int .i64 a1) := (blk_cell hx 0).trans rfl; have x5f0 : w5.frozen? ⟨g4, 0, none⟩ = false := (blk_frozen hx 0).trans rfl; have x51 : w5.cell? ⟨g4, 1, none⟩ = some (.int .i64 a2) := (blk_cell hx 1).trans rfl; have x5f1 : w5.frozen? ⟨g4, 1, none⟩ = false := (blk_frozen hx 1).trans rfl; have x52 : w5.cell? ⟨g4, 2, none⟩ = some (.int .i64 a3) := (blk_cell hx 2).trans rfl; have x5f2 : w5.frozen? ⟨g4, 2, none⟩ = false := (blk_frozen hx 2).trans rfl; have x53 : w5.cell? ⟨g4, 3, none⟩ = some (.slice A4 rs.length c4) := (blk_cell hx 3).trans rfl; have x5f3 : w5.frozen? ⟨g4, 3, none⟩ = false := (blk_frozen hx 3).trans rfl; have hd4 := HD4.out.set (j := 3) hg4 (.slice A4 rs.length c4); have hz4 := hd4.size; have hr5 := (hk.2 w.heap.size (by omega) (intent_Decode.not_or0 w.heap.size)).trans hd4.1; have r50 : w5.cell? ⟨w.heap.size, 0, none⟩ = some (.int .i64 0) := (blk_cell hr5 0).trans rfl; have r5f0 : w5.frozen? ⟨w.heap.size, 0, none⟩ = false := (blk_frozen hr5 0).trans rfl; have r51 : w5.cell? ⟨w.heap.size, 1, none⟩ = some (.int .i64 0) := (blk_cell hr5 1).trans rfl; have r5f1 : w5.frozen? ⟨w.heap.size, 1, none⟩ = false := (blk_frozen hr5 1).trans rfl; have r52 : w5.cell? ⟨w.heap.size, 2, none⟩ = some (.int .i64 0) := (blk_cell hr5 2).trans rfl; have r5f2 : w5.frozen? ⟨w.heap.size, 2, none⟩ = false := (blk_frozen hr5 2).trans rfl; have r53 : w5.cell? ⟨w.heap.size, 3, none⟩ = some (.slice none 0 0) := (blk_cell hr5 3).trans rfl; have r5f3 : w5.frozen? ⟨w.heap.size, 3, none⟩ = false := (blk_frozen hr5 3).trans rfl; have r54 : w5.cell? ⟨w.heap.size, 4, none⟩ = some (.slice none 0 0) := (blk_cell hr5 4).trans rfl; have r5f4 : w5.frozen? ⟨w.heap.size, 4, none⟩ = false := (blk_frozen hr5 4).trans rfl; have hv5 := (hk.2 (w.heap.size + 1 + 1) (by omega) (intent_Decode.not_or2 w.heap.size)).trans hd4.2.2.1; have p5 : w5.cell? ⟨w.heap.size + 1 + 1, 0, none⟩ = some (.pointer (some ⟨w.heap.size + 1, 0, none⟩)) := (blk_cell hv5 0).trans rfl; have HB5 := Aside0.mk hA.choose_spec.choose_spec.2.2.2.1; (obtain ⟨A6, c6, hg6, _, _, _, _⟩ := hA); have y50 : w5.cell? ⟨w.heap.size + 1, 0, none⟩ = some (.slice A6 l5.length c6) := (blk_cell hg6 0).trans rfl; have y51 : w5.cell? ⟨w.heap.size + 1, 1, none⟩ = some (.bool true) := (blk_cell hg6 1).trans rfl; have o5 : w5.cell? ⟨w.heap.size + 1 + 1 + 1, 0, none⟩ = some (.bool od5) := (blk_cell hod 0).trans rfl; have HX5 := Aside0.mk hx; have HR5 := Aside0.mk hr5; have HS5 := Aside0.mk hS; have HK5 := Aside0.mk hk; clear hk hx hS hod hd4 hg6 hv5 hr5))
      have h := HF.out
      rw [if_pos (.inl trivial)] at h
      obtain ⟨rfl, rfl, rfl, rfl, rfl, rfl⟩ : 0 = r1 ∧ 0 = r2 ∧ 0 = r3 ∧ [] = r4 ∧ [] = r5 ∧ 4 = r6 := by simpa using h
      have HV : ((((((w5.setCell ⟨g4, 4, none⟩ (.slice A5 ws.length c5)).setCell ⟨w.heap.size, 0, none⟩ (.int .i64 0)).setCell ⟨w.heap.size, 1, none⟩ (.int .i64 0)).setCell ⟨w.heap.size, 2, none⟩ (.int .i64 0)).setCell ⟨w.heap.size, 3, none⟩ (.slice none 0 0)).setCell ⟨w.heap.size, 4, none⟩ (.slice none 0 0)).heap[w.heap.size]? = some (.cells #[.int .i64 0, .int .i64 0, .int .i64 0, .slice none 0 0, .slice none 0 0] 34 (0, 0)) := (blk_put (blk_put (blk_put (blk_put (blk_put ((Below.heap_setCell _ _ _ _ (by show w.heap.size ≠ g4; omega)).trans HR5.out) 0 (.int .i64 0) rfl) 1 (.int .i64 0) rfl) 2 (.int .i64 0) rfl) 3 (.slice none 0 0) rfl) 4 (.slice none 0 0) rfl)
      refine bodyPost_ret (results_list (rs := [.cell 2 34, .tmp 3]) rfl (by simp) (.cell w.heap.size 34 _ (0, 0) _ rfl HV hu rfl (by kernel_rfl) (.tmp .nil))) rfl ?_
      exact ⟨_, _, rfl, Kd.S_nil _ _ _ _ _, Kd.S_nil _ _ _ _ _, ((((((HB5.out.setCell (p := ⟨g4, 4, none⟩) (by show w.heap.size ≤ g4; omega) _).setCell (p := ⟨w.heap.size, 0, none⟩) (Nat.le_refl _) _).setCell (p := ⟨w.heap.size, 1, none⟩) (Nat.le_refl _) _).setCell (p := ⟨w.heap.size, 2, none⟩) (Nat.le_refl _) _).setCell (p := ⟨w.heap.size, 3, none⟩) (Nat.le_refl _) _).setCell (p := ⟨w.heap.size, 4, none⟩) (Nat.le_refl _) _)⟩
    · go_wp2_with (first
        | (go_at_call 36; (with_reducible refine HN3b.out.mono ?_); rintro e w3 ⟨rfl, hA, hk⟩; have HD3 := Aside0.mk (HX.out.1.keep hk hA); have p3 : w3.cell? ⟨w.heap.size + 1 + 1, 0, none⟩ = some (.pointer (some ⟨w.heap.size + 1, 0, none⟩)) := (blk_cell HD3.out.2.2.1 0).trans rfl; have hx := hk.blk HX.out.2.2 (by omega) nofun; have x32 : w3.cell? ⟨g4, 2, none⟩ = some (.int .i64 0) := (blk_cell hx 2).trans rfl; have x3f2 : w3.frozen? ⟨g4, 2, none⟩ = false := (blk_frozen hx 2).trans rfl; have HX3 := Aside0.mk hx; have HZ3 := Aside0.mk (blk_lt hx); clear hA hk hx)
        | (go_at_call 37; (refine (HT4.out _ ((HD3.out.set hg4 _).at_) ((HD3.out.set hg4 _).2.2.1)).mono ?_); rintro e w4 ⟨v4, rfl, hS, hA, hk⟩; (obtain ⟨A4, c4, rfl⟩ := Kd.S_slice hS); have HD4 := Aside0.mk ((HD3.out.set hg4 _).keep hk hA); have p4 : w4.cell? ⟨w.heap.size + 1 + 1, 0, none⟩ = some (.pointer (some ⟨w.heap.size + 1, 0, none⟩)) := (blk_cell HD4.out.2.2.1 0).trans rfl; have hx := hk.blk (blk_put HX3.out 2 (.int .i64 a3) rfl) (by omega) nofun; have x43 : w4.cell? ⟨g4, 3, none⟩ = some (.slice none 0 0) := (blk_cell hx 3).trans rfl; have x4f3 : w4.frozen? ⟨g4, 3, none⟩ = false := (blk_frozen hx 3).trans rfl; have HX4 := Aside0.mk hx; have HS4 := Aside0.mk hS; have HZ4 : Aside0 (w3.heap.size ≤ w4.heap.size) := ⟨by have h_ := hk.1; simpa [World.setCell] using h_⟩; clear hA hk hx hS)
        | (go_at_call 40; (refine (HT5.out _ ((HD4.out.set hg4 _).at_) ((HD4.out.set hg4 _).2.2.1) ((HD4.out.set hg4 _).2.2.2)).mono ?_); rintro e w5 ⟨v5, rfl, hS, hA, hod, hk⟩; (obtain ⟨A5, c5, rfl⟩ := Kd.S_slice hS); have hx := (hk.2 g4 (intent_Decode.set_lt HX4.out _ _) (intent_Decode.not_or hg4)).trans (blk_put HX4.out 3 (.slice A4 rs.length c4) rfl); have x54 : w5.cell? ⟨g4, 4, none⟩ = some (.slice none 0 0) := (blk_cell hx 4).trans rfl; have x5f4 : w5.frozen? ⟨g4, 4, none⟩ = false := (blk_frozen hx 4).trans rfl; have x50 : w5.cell? ⟨g4, 0, none⟩ = some (.int .i64 a1) := (blk_cell hx 0).trans rfl; have x5f0 : w5.frozen? ⟨g4, 0, none⟩ = false := (blk_frozen hx 0).trans rfl; have x51 : w5.cell? ⟨g4, 1, none⟩ = some (.int .i64 a2) := (blk_cell hx 1).trans rfl; have x5f1 : w5.frozen? ⟨g4, 1, none⟩ = false := (blk_frozen hx 1).trans rfl; have x52 : w5.cell? ⟨g4, 2, none⟩ = some (.int .i64 a3) := (blk_cell hx 2).trans rfl; have x5f2 : w5.frozen? ⟨g4, 2, none⟩ = false := (blk_frozen hx 2).trans rfl; have x53 : w5.cell? ⟨g4, 3, none⟩ = some (.slice A4 rs.length c4) := (blk_cell hx 3).trans rfl; have x5f3 : w5.frozen? ⟨g4, 3, none⟩ = false := (blk_frozen hx 3).trans rfl; have hd4 := HD4.out.set (j := 3) hg4 (.slice A4 rs.length c4); have hz4 := hd4.size; have hr5 := (hk.2 w.heap.size (by omega) (intent_Decode.not_or0 w.heap.size)).trans hd4.1; have r50 : w5.cell? ⟨w.heap.size, 0, none⟩ = some (.int .i64 0) := (blk_cell hr5 0).trans rfl; have r5f0 : w5.frozen? ⟨w.heap.size, 0, none⟩ = false := (blk_frozen hr5 0).trans rfl; have r51 : w5.cell? ⟨w.heap.size, 1, none⟩ = some (.int .i64 0) := (blk_cell hr5 1).trans rfl; have r5f1 : w5.frozen? ⟨w.heap.size, 1, none⟩ = false := (blk_frozen hr5 1).trans rfl; have r52 : w5.cell? ⟨w.heap.size, 2, none⟩ = some (.int .i64 0) := (blk_cell hr5 2).trans rfl; have r5f2 : w5.frozen? ⟨w.heap.size, 2, none⟩ = false := (blk_frozen hr5 2).trans rfl; have r53 : w5.cell? ⟨w.heap.size, 3, none⟩ = some (.slice none 0 0) := (blk_cell hr5 3).trans rfl; have r5f3 : w5.frozen? ⟨w.heap.size, 3, none⟩ = false := (blk_frozen hr5 3).trans rfl; have r54 : w5.cell? ⟨w.heap.size, 4, none⟩ = some (.slice none 0 0) := (blk_cell hr5 4).trans rfl; have r5f4 : w5.frozen? ⟨w.heap.size, 4, none⟩ = false := (blk_frozen hr5 4).trans rfl; have hv5 := (hk.2 (w.heap.size + 1 + 1) (by omega) (intent_Decode.not_or2 w.heap.size)).trans hd4.2.2.1; have p5 : w5.cell? ⟨w.heap.size + 1 + 1, 0, none⟩ = some (.pointer (some ⟨w.heap.size + 1, 0, none⟩)) := (blk_cell hv5 0).trans rfl; have HB5 := Aside0.mk hA.choose_spec.choose_spec.2.2.2.1; (obtain ⟨A6, c6, hg6, _, _, _, _⟩ := hA); have y50 : w5.cell? ⟨w.heap.size + 1, 0, none⟩ = some (.slice A6 l5.length c6) := (blk_cell hg6 0).trans rfl; have y51 : w5.cell? ⟨w.heap.size + 1, 1, none⟩ = some (.bool false) := (blk_cell hg6 1).trans rfl; have o5 : w5.cell? ⟨w.heap.size + 1 + 1 + 1, 0, none⟩ = some (.bool true) := (blk_cell hod 0).trans rfl; have HX5 := Aside0.mk hx; have HR5 := Aside0.mk hr5; have HS5 := Aside0.mk hS; have HK5 := Aside0.mk hk; clear hk hx hS hod hd4 hg6 hv5 hr5))
      have h := HF.out
      rw [if_pos (.inr (.inl trivial))] at h
      obtain ⟨rfl, rfl, rfl, rfl, rfl, rfl⟩ : 0 = r1 ∧ 0 = r2 ∧ 0 = r3 ∧ [] = r4 ∧ [] = r5 ∧ 4 = r6 := by simpa using h
      have HV : ((((((w5.setCell ⟨g4, 4, none⟩ (.slice A5 ws.length c5)).setCell ⟨w.heap.size, 0, none⟩ (.int .i64 0)).setCell ⟨w.heap.size, 1, none⟩ (.int .i64 0)).setCell ⟨w.heap.size, 2, none⟩ (.int .i64 0)).setCell ⟨w.heap.size, 3, none⟩ (.slice none 0 0)).setCell ⟨w.heap.size, 4, none⟩ (.slice none 0 0)).heap[w.heap.size]? = some (.cells #[.int .i64 0, .int .i64 0, .int .i64 0, .slice none 0 0, .slice none 0 0] 34 (0, 0)) := (blk_put (blk_put (blk_put (blk_put (blk_put ((Below.heap_setCell _ _ _ _ (by show w.heap.size ≠ g4; omega)).trans HR5.out) 0 (.int .i64 0) rfl) 1 (.int .i64 0) rfl) 2 (.int .i64 0) rfl) 3 (.slice none 0 0) rfl) 4 (.slice none 0 0) rfl)
      refine bodyPost_ret (results_list (rs := [.cell 2 34, .tmp 3]) rfl (by simp) (.cell w.heap.size 34 _ (0, 0) _ rfl HV hu rfl (by kernel_rfl) (.tmp .nil))) rfl ?_
      exact ⟨_, _, rfl, Kd.S_nil _ _ _ _ _, Kd.S_nil _ _ _ _ _, ((((((HB5.out.setCell (p := ⟨g4, 4, none⟩) (by show w.heap.size ≤ g4; omega) _).setCell (p := ⟨w.heap.size, 0, none⟩) (Nat.le_refl _) _).setCell (p := ⟨w.heap.size, 1, none⟩) (Nat.le_refl _) _).setCell (p := ⟨w.heap.size, 2, none⟩) (Nat.le_refl _) _).setCell (p := ⟨w.heap.size, 3, none⟩) (Nat.le_refl _) _).setCell (p := ⟨w.heap.size, 4, none⟩) (Nat.le_refl _) _)⟩
    · go_wp2_with (first
        | (go_at_call 36; (with_reducible refine HN3b.out.mono ?_); rintro e w3 ⟨rfl, hA, hk⟩; have HD3 := Aside0.mk (HX.out.1.keep hk hA); have p3 : w3.cell? ⟨w.heap.size + 1 + 1, 0, none⟩ = some (.pointer (some ⟨w.heap.size + 1, 0, none⟩)) := (blk_cell HD3.out.2.2.1 0).trans rfl; have hx := hk.blk HX.out.2.2 (by omega) nofun; have x32 : w3.cell? ⟨g4, 2, none⟩ = some (.int .i64 0) := (blk_cell hx 2).trans rfl; have x3f2 : w3.frozen? ⟨g4, 2, none⟩ = false := (blk_frozen hx 2).trans rfl; have HX3 := Aside0.mk hx; have HZ3 := Aside0.mk (blk_lt hx); clear hA hk hx)
        | (go_at_call 37; (refine (HT4.out _ ((HD3.out.set hg4 _).at_) ((HD3.out.set hg4 _).2.2.1)).mono ?_); rintro e w4 ⟨v4, rfl, hS, hA, hk⟩; (obtain ⟨A4, c4, rfl⟩ := Kd.S_slice hS); have HD4 := Aside0.mk ((HD3.out.set hg4 _).keep hk hA); have p4 : w4.cell? ⟨w.heap.size + 1 + 1, 0, none⟩ = some (.pointer (some ⟨w.heap.size + 1, 0, none⟩)) := (blk_cell HD4.out.2.2.1 0).trans rfl; have hx := hk.blk (blk_put HX3.out 2 (.int .i64 a3) rfl) (by omega) nofun; have x43 : w4.cell? ⟨g4, 3, none⟩ = some (.slice none 0 0) := (blk_cell hx 3).trans rfl; have x4f3 : w4.frozen? ⟨g4, 3, none⟩ = false := (blk_frozen hx 3).trans rfl; have HX4 := Aside0.mk hx; have HS4 := Aside0.mk hS; have HZ4 : Aside0 (w3.heap.size ≤ w4.heap.size) := ⟨by have h_ := hk.1; simpa [World.setCell] using h_⟩; clear hA hk hx hS)
        | (go_at_call 40; (refine (HT5.out _ ((HD4.out.set hg4 _).at_) ((HD4.out.set hg4 _).2.2.1) ((HD4.out.set hg4 _).2.2.2)).mono ?_); rintro e w5 ⟨v5, rfl, hS, hA, hod, hk⟩; (obtain ⟨A5, c5, rfl⟩ := Kd.S_slice hS); have hx := (hk.2 g4 (intent_Decode.set_lt HX4.out _ _) (intent_Decode.not_or hg4)).trans (blk_put HX4.out 3 (.slice A4 rs.length c4) rfl); have x54 : w5.cell? ⟨g4, 4, none⟩ = some (.slice none 0 0) := (blk_cell hx 4).trans rfl; have x5f4 : w5.frozen? ⟨g4, 4, none⟩ = false := (blk_frozen hx 4).trans rfl; have x50 : w5.cell? ⟨g4, 0, none⟩ = some (.int .i64 a1) := (blk_cell hx 0).trans rfl; have x5f0 : w5.frozen? ⟨g4, 0, none⟩ = false := (blk_frozen hx 0).trans rfl; have x51 : w5.cell? ⟨g4, 1, none⟩ = some (.int .i64 a2) := (blk_cell hx 1).trans rfl; have x5f1 : w5.frozen? ⟨g4, 1, none⟩ = false := (blk_frozen hx 1).trans rfl; have x52 : w5.cell? ⟨g4, 2, none⟩ = some (.int .i64 a3) := (blk_cell hx 2).trans rfl; have x5f2 : w5.frozen? ⟨g4, 2, none⟩ = false := (blk_frozen hx 2).trans rfl; have x53 : w5.cell? ⟨g4, 3, none⟩ = some (.slice A4 rs.length c4) := (blk_cell hx 3).trans rfl; have x5f3 : w5.frozen? ⟨g4, 3, none⟩ = false := (blk_frozen hx 3).trans rfl; have hd4 := HD4.out.set (j := 3) hg4 (.slice A4 rs.length c4); have hz4 := hd4.size; have hr5 := (hk.2 w.heap.size (by omega) (intent_Decode.not_or0 w.heap.size)).trans hd4.1; have r50 : w5.cell? ⟨w.heap.size, 0, none⟩ = some (.int .i64 0) := (blk_cell hr5 0).trans rfl; have r5f0 : w5.frozen? ⟨w.heap.size, 0, none⟩ = false := (blk_frozen hr5 0).trans rfl; have r51 : w5.cell? ⟨w.heap.size, 1, none⟩ = some (.int .i64 0) := (blk_cell hr5 1).trans rfl; have r5f1 : w5.frozen? ⟨w.heap.size, 1, none⟩ = false := (blk_frozen hr5 1).trans rfl; have r52 : w5.cell? ⟨w.heap.size, 2, none⟩ = some (.int .i64 0) := (blk_cell hr5 2).trans rfl; have r5f2 : w5.frozen? ⟨w.heap.size, 2, none⟩ = false := (blk_frozen hr5 2).trans rfl; have r53 : w5.cell? ⟨w.heap.size, 3, none⟩ = some (.slice none 0 0) := (blk_cell hr5 3).trans rfl; have r5f3 : w5.frozen? ⟨w.heap.size, 3, none⟩ = false := (blk_frozen hr5 3).trans rfl; have r54 : w5.cell? ⟨w.heap.size, 4, none⟩ = some (.slice none 0 0) := (blk_cell hr5 4).trans rfl; have r5f4 : w5.frozen? ⟨w.heap.size, 4, none⟩ = false := (blk_frozen hr5 4).trans rfl; have hv5 := (hk.2 (w.heap.size + 1 + 1) (by omega) (intent_Decode.not_or2 w.heap.size)).trans hd4.2.2.1; have p5 : w5.cell? ⟨w.heap.size + 1 + 1, 0, none⟩ = some (.pointer (some ⟨w.heap.size + 1, 0, none⟩)) := (blk_cell hv5 0).trans rfl; have HB5 := Aside0.mk hA.choose_spec.choose_spec.2.2.2.1; (obtain ⟨A6, c6, hg6, _, _, _, _⟩ := hA); have y50 : w5.cell? ⟨w.heap.size + 1, 0, none⟩ = some (.slice A6 l5.length c6) := (blk_cell hg6 0).trans rfl; have y51 : w5.cell? ⟨w.heap.size + 1, 1, none⟩ = some (.bool false) := (blk_cell hg6 1).trans rfl; have o5 : w5.cell? ⟨w.heap.size + 1 + 1 + 1, 0, none⟩ = some (.bool false) := (blk_cell hod 0).trans rfl; have HX5 := Aside0.mk hx; have HR5 := Aside0.mk hr5; have HS5 := Aside0.mk hS; have HK5 := Aside0.mk hk; clear hk hx hS hod hd4 hg6 hv5 hr5))
      have h := HF.out
      rw [if_pos (.inr (.inr hl5))] at h
      obtain ⟨rfl, rfl, rfl, rfl, rfl, rfl⟩ : 0 = r1 ∧ 0 = r2 ∧ 0 = r3 ∧ [] = r4 ∧ [] = r5 ∧ 4 = r6 := by simpa using h
      have HV : ((((((w5.setCell ⟨g4, 4, none⟩ (.slice A5 ws.length c5)).setCell ⟨w.heap.size, 0, none⟩ (.int .i64 0)).setCell ⟨w.heap.size, 1, none⟩ (.int .i64 0)).setCell ⟨w.heap.size, 2, none⟩ (.int .i64 0)).setCell ⟨w.heap.size, 3, none⟩ (.slice none 0 0)).setCell ⟨w.heap.size, 4, none⟩ (.slice none 0 0)).heap[w.heap.size]? = some (.cells #[.int .i64 0, .int .i64 0, .int .i64 0, .slice none 0 0, .slice none 0 0] 34 (0, 0)) := (blk_put (blk_put (blk_put (blk_put (blk_put ((Below.heap_setCell _ _ _ _ (by show w.heap.size ≠ g4; omega)).trans HR5.out) 0 (.int .i64 0) rfl) 1 (.int .i64 0) rfl) 2 (.int .i64 0) rfl) 3 (.slice none 0 0) rfl) 4 (.slice none 0 0) rfl)
      refine bodyPost_ret (results_list (rs := [.cell 2 34, .tmp 3]) rfl (by simp) (.cell w.heap.size 34 _ (0, 0) _ rfl HV hu rfl (by kernel_rfl) (.tmp .nil))) rfl ?_
      exact ⟨_, _, rfl, Kd.S_nil _ _ _ _ _, Kd.S_nil _ _ _ _ _, ((((((HB5.out.setCell (p := ⟨g4, 4, none⟩) (by show w.heap.size ≤ g4; omega) _).setCell (p := ⟨w.heap.size, 0, none⟩) (Nat.le_refl _) _).setCell (p := ⟨w.heap.size, 1, none⟩) (Nat.le_refl _) _).setCell (p := ⟨w.heap.size, 2, none⟩) (Nat.le_refl _) _).setCell (p := ⟨w.heap.size, 3, none⟩) (Nat.le_refl _) _).setCell (p := ⟨w.heap.size, 4, none⟩) (Nat.le_refl _) _)⟩
    · have h := HF.out
      dsimp only at h
      rw [if_neg (by simp)] at h
      obtain ⟨t, ht, h⟩ := Option.bind_eq_some_iff.1 h
      have HM := Aside0.mk ht
      clear HF ht
      have HF := Aside0.mk h
      clear h
      cases t with
      | false =>
        go_wp2_with (first
          | (go_at_call 36; (with_reducible refine HN3b.out.mono ?_); rintro e w3 ⟨rfl, hA, hk⟩; have HD3 := Aside0.mk (HX.out.1.keep hk hA); have p3 : w3.cell? ⟨w.heap.size + 1 + 1, 0, none⟩ = some (.pointer (some ⟨w.heap.size + 1, 0, none⟩)) := (blk_cell HD3.out.2.2.1 0).trans rfl; have hx := hk.blk HX.out.2.2 (by omega) nofun; have x32 : w3.cell? ⟨g4, 2, none⟩ = some (.int .i64 0) := (blk_cell hx 2).trans rfl; have x3f2 : w3.frozen? ⟨g4, 2, none⟩ = false := (blk_frozen hx 2).trans rfl; have HX3 := Aside0.mk hx; have HZ3 := Aside0.mk (blk_lt hx); clear hA hk hx)
          | (go_at_call 37; (refine (HT4.out _ ((HD3.out.set hg4 _).at_) ((HD3.out.set hg4 _).2.2.1)).mono ?_); rintro e w4 ⟨v4, rfl, hS, hA, hk⟩; (obtain ⟨A4, c4, rfl⟩ := Kd.S_slice hS); have HD4 := Aside0.mk ((HD3.out.set hg4 _).keep hk hA); have p4 : w4.cell? ⟨w.heap.size + 1 + 1, 0, none⟩ = some (.pointer (some ⟨w.heap.size + 1, 0, none⟩)) := (blk_cell HD4.out.2.2.1 0).trans rfl; have hx := hk.blk (blk_put HX3.out 2 (.int .i64 a3) rfl) (by omega) nofun; have x43 : w4.cell? ⟨g4, 3, none⟩ = some (.slice none 0 0) := (blk_cell hx 3).trans rfl; have x4f3 : w4.frozen? ⟨g4, 3, none⟩ = false := (blk_frozen hx 3).trans rfl; have HX4 := Aside0.mk hx; have HS4 := Aside0.mk hS; have HZ4 : Aside0 (w3.heap.size ≤ w4.heap.size) := ⟨by have h_ := hk.1; simpa [World.setCell] using h_⟩; clear hA hk hx hS)
          | (go_at_call 40; (refine (HT5.out _ ((HD4.out.set hg4 _).at_) ((HD4.out.set hg4 _).2.2.1) ((HD4.out.set hg4 _).2.2.2)).mono ?_); rintro e w5 ⟨v5, rfl, hS, hA, hod, hk⟩; (obtain ⟨A5, c5, rfl⟩ := Kd.S_slice hS); have hx := (hk.2 g4 (intent_Decode.set_lt HX4.out _ _) (intent_Decode.not_or hg4)).trans (blk_put HX4.out 3 (.slice A4 rs.length c4) rfl); have x54 : w5.cell? ⟨g4, 4, none⟩ = some (.slice none 0 0) := (blk_cell hx 4).trans rfl; have x5f4 : w5.frozen? ⟨g4, 4, none⟩ = false := (blk_frozen hx 4).trans rfl; have x50 : w5.cell? ⟨g4, 0, none⟩ = some (.int .i64 a1) := (blk_cell hx 0).trans rfl; have x5f0 : w5.frozen? ⟨g4, 0, none⟩ = false := (blk_frozen hx 0).trans rfl; have x51 : w5.cell? ⟨g4, 1, none⟩ = some (.int .i64 a2) := (blk_cell hx 1).trans rfl; have x5f1 : w5.frozen? ⟨g4, 1, none⟩ = false := (blk_frozen hx 1).trans rfl; have x52 : w5.cell? ⟨g4, 2, none⟩ = some (.int .i64 a3) := (blk_cell hx 2).trans rfl; have x5f2 : w5.frozen? ⟨g4, 2, none⟩ = false := (blk_frozen hx 2).trans rfl; have x53 : w5.cell? ⟨g4, 3, none⟩ = some (.slice A4 rs.length c4) := (blk_cell hx 3).trans rfl; have x5f3 : w5.frozen? ⟨g4, 3, none⟩ = false := (blk_frozen hx 3).trans rfl; have hd4 := HD4.out.set (j := 3) hg4 (.slice A4 rs.length c4); have hz4 := hd4.size; have hr5 := (hk.2 w.heap.size (by omega) (intent_Decode.not_or0 w.heap.size)).trans hd4.1; have r50 : w5.cell? ⟨w.heap.size, 0, none⟩ = some (.int .i64 0) := (blk_cell hr5 0).trans rfl; have r5f0 : w5.frozen? ⟨w.heap.size, 0, none⟩ = false := (blk_frozen hr5 0).trans rfl; have r51 : w5.cell? ⟨w.heap.size, 1, none⟩ = some (.int .i64 0) := (blk_cell hr5 1).trans rfl; have r5f1 : w5.frozen? ⟨w.heap.size, 1, none⟩ = false := (blk_frozen hr5 1).trans rfl; have r52 : w5.cell? ⟨w.heap.size, 2, none⟩ = some (.int .i64 0) := (blk_cell hr5 2).trans rfl; have r5f2 : w5.frozen? ⟨w.heap.size, 2, none⟩ = false := (blk_frozen hr5 2).trans rfl; have r53 : w5.cell? ⟨w.heap.size, 3, none⟩ = some (.slice none 0 0) := (blk_cell hr5 3).trans rfl; have r5f3 : w5.frozen? ⟨w.heap.size, 3, none⟩ = false := (blk_frozen hr5 3).trans rfl; have r54 : w5.cell? ⟨w.heap.size, 4, none⟩ = some (.slice none 0 0) := (blk_cell hr5 4).trans rfl; have r5f4 : w5.frozen? ⟨w.heap.size, 4, none⟩ = false := (blk_frozen hr5 4).trans rfl; have hv5 := (hk.2 (w.heap.size + 1 + 1) (by omega) (intent_Decode.not_or2 w.heap.size)).trans hd4.2.2.1; have p5 : w5.cell? ⟨w.heap.size + 1 + 1, 0, none⟩ = some (.pointer (some ⟨w.heap.size + 1, 0, none⟩)) := (blk_cell hv5 0).trans rfl; have HB5 := Aside0.mk hA.choose_spec.choose_spec.2.2.2.1; (obtain ⟨A6, c6, hg6, _, _, _, _⟩ := hA); have y50 : w5.cell? ⟨w.heap.size + 1, 0, none⟩ = some (.slice A6 0 c6) := (blk_cell hg6 0).trans rfl; have y51 : w5.cell? ⟨w.heap.size + 1, 1, none⟩ = some (.bool false) := (blk_cell hg6 1).trans rfl; have o5 : w5.cell? ⟨w.heap.size + 1 + 1 + 1, 0, none⟩ = some (.bool false) := (blk_cell hod 0).trans rfl; have HX5 := Aside0.mk hx; have HR5 := Aside0.mk hr5; have HS5 := Aside0.mk hS; have HK5 := Aside0.mk hk; clear hk hS hod hd4 hg6 hv5 hr5 hx))
        have HX6 : Aside0 ((w5.setCell ⟨g4, 4, none⟩ (.slice A5 ws.length c5)).heap[g4]? = some (.cells #[.int .i64 a1, .int .i64 a2, .int .i64 a3, .slice A4 rs.length c4, .slice A5 ws.length c5] 34 (0, 0))) := ⟨blk_put HX5.out 4 (.slice A5 ws.length c5) rfl⟩
        have HR6 := Aside0.mk ((Below.heap_setCell w5 ⟨g4, 4, none⟩ (.slice A5 ws.length c5) _ (by show w.heap.size ≠ g4; omega)).trans HR5.out)
        have hz3_ := HZ3.out
        have hz4_ := HZ4.out
        have HSR : Aside0 (Kd.S k83 83 (w5.setCell ⟨g4, 4, none⟩ (.slice A5 ws.length c5)) w.heap.size (fun k => g4 < k) (.slice A4 rs.length c4) rs) := ⟨Kd.S_far (p := ⟨g4, 4, none⟩) (Kd.S_kept (Kd.S_far (p := ⟨g4, 3, none⟩) (Kd.S_lower (Kd.S_mono (Kd.S_bound HS4.out) (fun k hq => intent_Decode.base_lt hq.2.1 HZ3.out)) (by simp [World.setCell]; omega)) (fun k hq => Nat.ne_of_gt hq) _) HK5.out (fun k hq => intent_Decode.not_or (by omega))) (fun k hq => Nat.ne_of_gt hq) _⟩
        have HSW : Aside0 (Kd.S k88 88 (w5.setCell ⟨g4, 4, none⟩ (.slice A5 ws.length c5)) w.heap.size (fun k => g4 < k) (.slice A5 ws.length c5) ws) := ⟨Kd.S_far (p := ⟨g4, 4, none⟩) (Kd.S_lower (Kd.S_mono (Kd.S_bound HS5.out) (fun k hq => intent_Decode.base_lt hq.2.1 (Nat.lt_of_lt_of_le HZ3.out HZ4.out))) (by simp [World.setCell]; omega)) (fun k hq => Nat.ne_of_gt hq) _⟩
        go_at_call 43
        refine (intent_May.calls k a1 a2 a3 A4 c4 rs A5 c5 ws false _ (Kd.S_reads' HSR.out).2.2 (Kd.S_reads' HSR.out).2.1 (Kd.S_reads' HSW.out).2.2 (Kd.S_reads' HSW.out).2.1 HM.out).mono ?_
        rintro e w6 ⟨rfl, hb6⟩
        have hx6 := (hb6.block g4 (blk_lt HX6.out)).trans HX6.out
        have hr6 := (hb6.block w.heap.size (blk_lt HR6.out)).trans HR6.out
        have x60 : w6.cell? ⟨g4, 0, none⟩ = some (.int .i64 a1) := (blk_cell hx6 0).trans rfl
        have x6f0 : w6.frozen? ⟨g4, 0, none⟩ = false := (blk_frozen hx6 0).trans rfl
        have x61 : w6.cell? ⟨g4, 1, none⟩ = some (.int .i64 a2) := (blk_cell hx6 1).trans rfl
        have x6f1 : w6.frozen? ⟨g4, 1, none⟩ = false := (blk_frozen hx6 1).trans rfl
        have x62 : w6.cell? ⟨g4, 2, none⟩ = some (.int .i64 a3) := (blk_cell hx6 2).trans rfl
        have x6f2 : w6.frozen? ⟨g4, 2, none⟩ = false := (blk_frozen hx6 2).trans rfl
        have x63 : w6.cell? ⟨g4, 3, none⟩ = some (.slice A4 rs.length c4) := (blk_cell hx6 3).trans rfl
        have x6f3 : w6.frozen? ⟨g4, 3, none⟩ = false := (blk_frozen hx6 3).trans rfl
        have x64 : w6.cell? ⟨g4, 4, none⟩ = some (.slice A5 ws.length c5) := (blk_cell hx6 4).trans rfl
        have x6f4 : w6.frozen? ⟨g4, 4, none⟩ = false := (blk_frozen hx6 4).trans rfl
        have r60 : w6.cell? ⟨w.heap.size, 0, none⟩ = some (.int .i64 0) := (blk_cell hr6 0).trans rfl
        have r6f0 : w6.frozen? ⟨w.heap.size, 0, none⟩ = false := (blk_frozen hr6 0).trans rfl
        have r61 : w6.cell? ⟨w.heap.size, 1, none⟩ = some (.int .i64 0) := (blk_cell hr6 1).trans rfl
        have r6f1 : w6.frozen? ⟨w.heap.size, 1, none⟩ = false := (blk_frozen hr6 1).trans rfl
        have r62 : w6.cell? ⟨w.heap.size, 2, none⟩ = some (.int .i64 0) := (blk_cell hr6 2).trans rfl
        have r6f2 : w6.frozen? ⟨w.heap.size, 2, none⟩ = false := (blk_frozen hr6 2).trans rfl
        have r63 : w6.cell? ⟨w.heap.size, 3, none⟩ = some (.slice none 0 0) := (blk_cell hr6 3).trans rfl
        have r6f3 : w6.frozen? ⟨w.heap.size, 3, none⟩ = false := (blk_frozen hr6 3).trans rfl
        have r64 : w6.cell? ⟨w.heap.size, 4, none⟩ = some (.slice none 0 0) := (blk_cell hr6 4).trans rfl
        have r6f4 : w6.frozen? ⟨w.heap.size, 4, none⟩ = false := (blk_frozen hr6 4).trans rfl
        have HR7 := Aside0.mk hr6
        have HB6 := Aside0.mk hb6
        clear hx6 hr6 hb6
        go_wp2
        have h := HF.out
        rw [if_neg (by decide)] at h
        obtain ⟨rfl, rfl, rfl, rfl, rfl, rfl⟩ : 0 = r1 ∧ 0 = r2 ∧ 0 = r3 ∧ [] = r4 ∧ [] = r5 ∧ 4 = r6 := by simpa using h
        have HV : (((((w6.setCell ⟨w.heap.size, 0, none⟩ (.int .i64 0)).setCell ⟨w.heap.size, 1, none⟩ (.int .i64 0)).setCell ⟨w.heap.size, 2, none⟩ (.int .i64 0)).setCell ⟨w.heap.size, 3, none⟩ (.slice none 0 0)).setCell ⟨w.heap.size, 4, none⟩ (.slice none 0 0)).heap[w.heap.size]? = some (.cells #[.int .i64 0, .int .i64 0, .int .i64 0, .slice none 0 0, .slice none 0 0] 34 (0, 0)) := (blk_put (blk_put (blk_put (blk_put (blk_put HR7.out 0 (.int .i64 0) rfl) 1 (.int .i64 0) rfl) 2 (.int .i64 0) rfl) 3 (.slice none 0 0) rfl) 4 (.slice none 0 0) rfl)
        refine bodyPost_ret (results_list (rs := [.cell 2 34, .tmp 3]) rfl (by simp) (.cell w.heap.size 34 _ (0, 0) _ rfl HV hu rfl (by kernel_rfl) (.tmp .nil))) rfl ?_
        exact ⟨_, _, rfl, Kd.S_nil _ _ _ _ _, Kd.S_nil _ _ _ _ _, (((((((HB5.out.setCell (p := ⟨g4, 4, none⟩) (by show w.heap.size ≤ g4; omega) _).trans (HB6.out.mono ((HB5.out.setCell (p := ⟨g4, 4, none⟩) (by show w.heap.size ≤ g4; omega) _)).size)).setCell (p := ⟨w.heap.size, 0, none⟩) (Nat.le_refl _) _).setCell (p := ⟨w.heap.size, 1, none⟩) (Nat.le_refl _) _).setCell (p := ⟨w.heap.size, 2, none⟩) (Nat.le_refl _) _).setCell (p := ⟨w.heap.size, 3, none⟩) (Nat.le_refl _) _).setCell (p := ⟨w.heap.size, 4, none⟩) (Nat.le_refl _) _)⟩
      | true =>
        go_wp2_with (first
          | (go_at_call 36; (with_reducible refine HN3b.out.mono ?_); rintro e w3 ⟨rfl, hA, hk⟩; have HD3 := Aside0.mk (HX.out.1.keep hk hA); have p3 : w3.cell? ⟨w.heap.size + 1 + 1, 0, none⟩ = some (.pointer (some ⟨w.heap.size + 1, 0, none⟩)) := (blk_cell HD3.out.2.2.1 0).trans rfl; have hx := hk.blk HX.out.2.2 (by omega) nofun; have x32 : w3.cell? ⟨g4, 2, none⟩ = some (.int .i64 0) := (blk_cell hx 2).trans rfl; have x3f2 : w3.frozen? ⟨g4, 2, none⟩ = false := (blk_frozen hx 2).trans rfl; have HX3 := Aside0.mk hx; have HZ3 := Aside0.mk (blk_lt hx); clear hA hk hx)
          | (go_at_call 37; (refine (HT4.out _ ((HD3.out.set hg4 _).at_) ((HD3.out.set hg4 _).2.2.1)).mono ?_); rintro e w4 ⟨v4, rfl, hS, hA, hk⟩; (obtain ⟨A4, c4, rfl⟩ := Kd.S_slice hS); have HD4 := Aside0.mk ((HD3.out.set hg4 _).keep hk hA); have p4 : w4.cell? ⟨w.heap.size + 1 + 1, 0, none⟩ = some (.pointer (some ⟨w.heap.size + 1, 0, none⟩)) := (blk_cell HD4.out.2.2.1 0).trans rfl; have hx := hk.blk (blk_put HX3.out 2 (.int .i64 a3) rfl) (by omega) nofun; have x43 : w4.cell? ⟨g4, 3, none⟩ = some (.slice none 0 0) := (blk_cell hx 3).trans rfl; have x4f3 : w4.frozen? ⟨g4, 3, none⟩ = false := (blk_frozen hx 3).trans rfl; have HX4 := Aside0.mk hx; have HS4 := Aside0.mk hS; have HZ4 : Aside0 (w3.heap.size ≤ w4.heap.size) := ⟨by have h_ := hk.1; simpa [World.setCell] using h_⟩; clear hA hk hx hS)
          | (go_at_call 40; (refine (HT5.out _ ((HD4.out.set hg4 _).at_) ((HD4.out.set hg4 _).2.2.1) ((HD4.out.set hg4 _).2.2.2)).mono ?_); rintro e w5 ⟨v5, rfl, hS, hA, hod, hk⟩; (obtain ⟨A5, c5, rfl⟩ := Kd.S_slice hS); have hx := (hk.2 g4 (intent_Decode.set_lt HX4.out _ _) (intent_Decode.not_or hg4)).trans (blk_put HX4.out 3 (.slice A4 rs.length c4) rfl); have x54 : w5.cell? ⟨g4, 4, none⟩ = some (.slice none 0 0) := (blk_cell hx 4).trans rfl; have x5f4 : w5.frozen? ⟨g4, 4, none⟩ = false := (blk_frozen hx 4).trans rfl; have x50 : w5.cell? ⟨g4, 0, none⟩ = some (.int .i64 a1) := (blk_cell hx 0).trans rfl; have x5f0 : w5.frozen? ⟨g4, 0, none⟩ = false := (blk_frozen hx 0).trans rfl; have x51 : w5.cell? ⟨g4, 1, none⟩ = some (.int .i64 a2) := (blk_cell hx 1).trans rfl; have x5f1 : w5.frozen? ⟨g4, 1, none⟩ = false := (blk_frozen hx 1).trans rfl; have x52 : w5.cell? ⟨g4, 2, none⟩ = some (.int .i64 a3) := (blk_cell hx 2).trans rfl; have x5f2 : w5.frozen? ⟨g4, 2, none⟩ = false := (blk_frozen hx 2).trans rfl; have x53 : w5.cell? ⟨g4, 3, none⟩ = some (.slice A4 rs.length c4) := (blk_cell hx 3).trans rfl; have x5f3 : w5.frozen? ⟨g4, 3, none⟩ = false := (blk_frozen hx 3).trans rfl; have hd4 := HD4.out.set (j := 3) hg4 (.slice A4 rs.length c4); have hz4 := hd4.size; have hr5 := (hk.2 w.heap.size (by omega) (intent_Decode.not_or0 w.heap.size)).trans hd4.1; have r50 : w5.cell? ⟨w.heap.size, 0, none⟩ = some (.int .i64 0) := (blk_cell hr5 0).trans rfl; have r5f0 : w5.frozen? ⟨w.heap.size, 0, none⟩ = false := (blk_frozen hr5 0).trans rfl; have r51 : w5.cell? ⟨w.heap.size, 1, none⟩ = some (.int .i64 0) := (blk_cell hr5 1).trans rfl; have r5f1 : w5.frozen? ⟨w.heap.size, 1, none⟩ = false := (blk_frozen hr5 1).trans rfl; have r52 : w5.cell? ⟨w.heap.size, 2, none⟩ = some (.int .i64 0) := (blk_cell hr5 2).trans rfl; have r5f2 : w5.frozen? ⟨w.heap.size, 2, none⟩ = false := (blk_frozen hr5 2).trans rfl; have r53 : w5.cell? ⟨w.heap.size, 3, none⟩ = some (.slice none 0 0) := (blk_cell hr5 3).trans rfl; have r5f3 : w5.frozen? ⟨w.heap.size, 3, none⟩ = false := (blk_frozen hr5 3).trans rfl; have r54 : w5.cell? ⟨w.heap.size, 4, none⟩ = some (.slice none 0 0) := (blk_cell hr5 4).trans rfl; have r5f4 : w5.frozen? ⟨w.heap.size, 4, none⟩ = false := (blk_frozen hr5 4).trans rfl; have hv5 := (hk.2 (w.heap.size + 1 + 1) (by omega) (intent_Decode.not_or2 w.heap.size)).trans hd4.2.2.1; have p5 : w5.cell? ⟨w.heap.size + 1 + 1, 0, none⟩ = some (.pointer (some ⟨w.heap.size + 1, 0, none⟩)) := (blk_cell hv5 0).trans rfl; have HB5 := Aside0.mk hA.choose_spec.choose_spec.2.2.2.1; (obtain ⟨A6, c6, hg6, _, _, _, _⟩ := hA); have y50 : w5.cell? ⟨w.heap.size + 1, 0, none⟩ = some (.slice A6 0 c6) := (blk_cell hg6 0).trans rfl; have y51 : w5.cell? ⟨w.heap.size + 1, 1, none⟩ = some (.bool false) := (blk_cell hg6 1).trans rfl; have o5 : w5.cell? ⟨w.heap.size + 1 + 1 + 1, 0, none⟩ = some (.bool false) := (blk_cell hod 0).trans rfl; have HX5 := Aside0.mk hx; have HR5 := Aside0.mk hr5; have HS5 := Aside0.mk hS; have HK5 := Aside0.mk hk; clear hk hS hod hd4 hg6 hv5 hr5 hx))
        have HX6 : Aside0 ((w5.setCell ⟨g4, 4, none⟩ (.slice A5 ws.length c5)).heap[g4]? = some (.cells #[.int .i64 a1, .int .i64 a2, .int .i64 a3, .slice A4 rs.length c4, .slice A5 ws.length c5] 34 (0, 0))) := ⟨blk_put HX5.out 4 (.slice A5 ws.length c5) rfl⟩
        have HR6 := Aside0.mk ((Below.heap_setCell w5 ⟨g4, 4, none⟩ (.slice A5 ws.length c5) _ (by show w.heap.size ≠ g4; omega)).trans HR5.out)
        have hz3_ := HZ3.out
        have hz4_ := HZ4.out
        have HSR : Aside0 (Kd.S k83 83 (w5.setCell ⟨g4, 4, none⟩ (.slice A5 ws.length c5)) w.heap.size (fun k => g4 < k) (.slice A4 rs.length c4) rs) := ⟨Kd.S_far (p := ⟨g4, 4, none⟩) (Kd.S_kept (Kd.S_far (p := ⟨g4, 3, none⟩) (Kd.S_lower (Kd.S_mono (Kd.S_bound HS4.out) (fun k hq => intent_Decode.base_lt hq.2.1 HZ3.out)) (by simp [World.setCell]; omega)) (fun k hq => Nat.ne_of_gt hq) _) HK5.out (fun k hq => intent_Decode.not_or (by omega))) (fun k hq => Nat.ne_of_gt hq) _⟩
        have HSW : Aside0 (Kd.S k88 88 (w5.setCell ⟨g4, 4, none⟩ (.slice A5 ws.length c5)) w.heap.size (fun k => g4 < k) (.slice A5 ws.length c5) ws) := ⟨Kd.S_far (p := ⟨g4, 4, none⟩) (Kd.S_lower (Kd.S_mono (Kd.S_bound HS5.out) (fun k hq => intent_Decode.base_lt hq.2.1 (Nat.lt_of_lt_of_le HZ3.out HZ4.out))) (by simp [World.setCell]; omega)) (fun k hq => Nat.ne_of_gt hq) _⟩
        go_at_call 43
        refine (intent_May.calls k a1 a2 a3 A4 c4 rs A5 c5 ws true _ (Kd.S_reads' HSR.out).2.2 (Kd.S_reads' HSR.out).2.1 (Kd.S_reads' HSW.out).2.2 (Kd.S_reads' HSW.out).2.1 HM.out).mono ?_
        rintro e w6 ⟨rfl, hb6⟩
        have hx6 := (hb6.block g4 (blk_lt HX6.out)).trans HX6.out
        have hr6 := (hb6.block w.heap.size (blk_lt HR6.out)).trans HR6.out
        have x60 : w6.cell? ⟨g4, 0, none⟩ = some (.int .i64 a1) := (blk_cell hx6 0).trans rfl
        have x6f0 : w6.frozen? ⟨g4, 0, none⟩ = false := (blk_frozen hx6 0).trans rfl
        have x61 : w6.cell? ⟨g4, 1, none⟩ = some (.int .i64 a2) := (blk_cell hx6 1).trans rfl
        have x6f1 : w6.frozen? ⟨g4, 1, none⟩ = false := (blk_frozen hx6 1).trans rfl
        have x62 : w6.cell? ⟨g4, 2, none⟩ = some (.int .i64 a3) := (blk_cell hx6 2).trans rfl
        have x6f2 : w6.frozen? ⟨g4, 2, none⟩ = false := (blk_frozen hx6 2).trans rfl
        have x63 : w6.cell? ⟨g4, 3, none⟩ = some (.slice A4 rs.length c4) := (blk_cell hx6 3).trans rfl
        have x6f3 : w6.frozen? ⟨g4, 3, none⟩ = false := (blk_frozen hx6 3).trans rfl
        have x64 : w6.cell? ⟨g4, 4, none⟩ = some (.slice A5 ws.length c5) := (blk_cell hx6 4).trans rfl
        have x6f4 : w6.frozen? ⟨g4, 4, none⟩ = false := (blk_frozen hx6 4).trans rfl
        have r60 : w6.cell? ⟨w.heap.size, 0, none⟩ = some (.int .i64 0) := (blk_cell hr6 0).trans rfl
        have r6f0 : w6.frozen? ⟨w.heap.size, 0, none⟩ = false := (blk_frozen hr6 0).trans rfl
        have r61 : w6.cell? ⟨w.heap.size, 1, none⟩ = some (.int .i64 0) := (blk_cell hr6 1).trans rfl
        have r6f1 : w6.frozen? ⟨w.heap.size, 1, none⟩ = false := (blk_frozen hr6 1).trans rfl
        have r62 : w6.cell? ⟨w.heap.size, 2, none⟩ = some (.int .i64 0) := (blk_cell hr6 2).trans rfl
        have r6f2 : w6.frozen? ⟨w.heap.size, 2, none⟩ = false := (blk_frozen hr6 2).trans rfl
        have r63 : w6.cell? ⟨w.heap.size, 3, none⟩ = some (.slice none 0 0) := (blk_cell hr6 3).trans rfl
        have r6f3 : w6.frozen? ⟨w.heap.size, 3, none⟩ = false := (blk_frozen hr6 3).trans rfl
        have r64 : w6.cell? ⟨w.heap.size, 4, none⟩ = some (.slice none 0 0) := (blk_cell hr6 4).trans rfl
        have r6f4 : w6.frozen? ⟨w.heap.size, 4, none⟩ = false := (blk_frozen hr6 4).trans rfl
        have HR7 := Aside0.mk hr6
        have HB6 := Aside0.mk hb6
        clear hx6 hr6 hb6
        go_wp2
        have h := HF.out
        rw [if_pos trivial] at h
        obtain ⟨rfl, rfl, rfl, rfl, rfl, rfl⟩ : a1 = r1 ∧ a2 = r2 ∧ a3 = r3 ∧ rs = r4 ∧ ws = r5 ∧ 0 = r6 := by simpa using h
        have HV : (((((w6.setCell ⟨w.heap.size, 0, none⟩ (.int .i64 a1)).setCell ⟨w.heap.size, 1, none⟩ (.int .i64 a2)).setCell ⟨w.heap.size, 2, none⟩ (.int .i64 a3)).setCell ⟨w.heap.size, 3, none⟩ (.slice A4 rs.length c4)).setCell ⟨w.heap.size, 4, none⟩ (.slice A5 ws.length c5)).heap[w.heap.size]? = some (.cells #[.int .i64 a1, .int .i64 a2, .int .i64 a3, .slice A4 rs.length c4, .slice A5 ws.length c5] 34 (0, 0)) := (blk_put (blk_put (blk_put (blk_put (blk_put HR7.out 0 (.int .i64 a1) rfl) 1 (.int .i64 a2) rfl) 2 (.int .i64 a3) rfl) 3 (.slice A4 rs.length c4) rfl) 4 (.slice A5 ws.length c5) rfl)
        refine bodyPost_ret (results_list (rs := [.cell 2 34, .tmp 3]) rfl (by simp) (.cell w.heap.size 34 _ (0, 0) _ rfl HV hu rfl (by kernel_rfl) (.tmp .nil))) rfl ?_
        exact ⟨_, _, rfl, Kd.S_mono (Kd.S_far (p := ⟨w.heap.size, 4, none⟩) (Kd.S_far (p := ⟨w.heap.size, 3, none⟩) (Kd.S_far (p := ⟨w.heap.size, 2, none⟩) (Kd.S_far (p := ⟨w.heap.size, 1, none⟩) (Kd.S_far (p := ⟨w.heap.size, 0, none⟩) (Kd.S_below HSR.out HB6.out) (fun k hq => intent_Decode.gt_ne hg4 hq) _) (fun k hq => intent_Decode.gt_ne hg4 hq) _) (fun k hq => intent_Decode.gt_ne hg4 hq) _) (fun k hq => intent_Decode.gt_ne hg4 hq) _) (fun k hq => intent_Decode.gt_ne hg4 hq) _) (fun _ _ => trivial), Kd.S_mono (Kd.S_far (p := ⟨w.heap.size, 4, none⟩) (Kd.S_far (p := ⟨w.heap.size, 3, none⟩) (Kd.S_far (p := ⟨w.heap.size, 2, none⟩) (Kd.S_far (p := ⟨w.heap.size, 1, none⟩) (Kd.S_far (p := ⟨w.heap.size, 0, none⟩) (Kd.S_below HSW.out HB6.out) (fun k hq => intent_Decode.gt_ne hg4 hq) _) (fun k hq => intent_Decode.gt_ne hg4 hq) _) (fun k hq => intent_Decode.gt_ne hg4 hq) _) (fun k hq => intent_Decode.gt_ne hg4 hq) _) (fun k hq => intent_Decode.gt_ne hg4 hq) _) (fun _ _ => trivial), (((((((HB5.out.setCell (p := ⟨g4, 4, none⟩) (by show w.heap.size ≤ g4; omega) _).trans (HB6.out.mono ((HB5.out.setCell (p := ⟨g4, 4, none⟩) (by show w.heap.size ≤ g4; omega) _)).size)).setCell (p := ⟨w.heap.size, 0, none⟩) (Nat.le_refl _) _).setCell (p := ⟨w.heap.size, 1, none⟩) (Nat.le_refl _) _).setCell (p := ⟨w.heap.size, 2, none⟩) (Nat.le_refl _) _).setCell (p := ⟨w.heap.size, 3, none⟩) (Nat.le_refl _) _).setCell (p := ⟨w.heap.size, 4, none⟩) (Nat.le_refl _) _)⟩

end Go.Proofs.Ytfkdldaadjhcfaa.PIntentDecodes
