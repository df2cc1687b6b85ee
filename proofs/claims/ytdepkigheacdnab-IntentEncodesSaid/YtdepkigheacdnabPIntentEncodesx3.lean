-- Written by wip/pp of this repo (over the kit's print, with additions of this session); Lean checks every line.
import Derived.Test.YtdepkigheacdnabPIntentEncodesx0
import Derived.Test.YtdepkigheacdnabPIntentEncodesx2
namespace Go.Proofs.Ytdepkigheacdnab.PIntentEncodes
open Go.RowKit Go.Proofs.YtdepkigheacdnabW.PrintWords Go.Proofs.YtdepkigheacdnabW.PrintLast Go.Proofs.YtdepkigheacdnabW.PrintMore
attribute [local go_sem] max2_int min2_int max_two min_two max_three min_three max_four min_four   -- for this text's walks alone
set_option linter.unusedVariables false
set_option linter.unusedSimpArgs false

/-! ### intent_tape_number: function 41, by hand -/
-- HAND rounds=0 making=1 imports=Derived.Laws.Cover3,Derived.Deep.Heap
-- INFO 5
def intent_tape_number.f (_a0 : Int) (_a1 : Int) : Option Int := none
def intent_tape_number.le (n : Int) : List Int := [n % 256, n / 256 % 256, n / 65536 % 256, n / 16777216 % 256]
/-- The tape at block g holds these bytes, in a row of the call's own. -/
def intent_tape_number.St (w0 w : World) (g : Nat) (P : Nat → Prop) (xs : List Int) : Prop :=
  ∃ v, w.heap[g]? = some (.cells #[v, .bool false] 73 (0, 0)) ∧ Kd.R (Kd.int .u8) 5 w w0.heap.size (fun k => P k ∧ k ≠ g) v xs ∧ Below w0.heap.size w0 w ∧ w0.heap.size ≤ g
/-- Nothing but the tape, its row and what is new has been written. -/
def intent_tape_number.Fr (w w' : World) (g : Nat) (P : Nat → Prop) : Prop := w.heap.size ≤ w'.heap.size ∧ ∀ k, k < w.heap.size → ¬ P k → k ≠ g → w'.heap[k]? = w.heap[k]?
theorem intent_tape_number.lits {w : World} {b t : Nat} {fr : Nat × Nat} {cs : List Int} (h : w.heap[b]? = some (.cells (cs.map (Value.int .u8)).toArray t fr)) (hl : cs.length ≤ 9223372036854775807) :
    ReadsRow ((Kd.int .u8).K w) (Kd.int .u8).sz w (some ⟨b, 0, none⟩) cs.length cs := by
  refine ⟨rfl, hl, fun _ => ⟨_, rfl, fun j q hq => ⟨[.int .u8 q], rfl, rfl, fun i u hu => ?_⟩⟩⟩
  obtain rfl : i = 0 := by
    rcases i with _ | i
    · rfl
    · simp at hu
  obtain rfl : Value.int .u8 q = u := by simpa using hu
  rw [show (⟨b, 0, none⟩ : Addr).add (j * (Kd.int .u8).sz + 0) = ⟨b, j, none⟩ from by rw [add_plain]; show (⟨_, j * 1 + 0, none⟩ : Addr) = _; simp]
  simp [World.cell?, h, hq]
theorem intent_tape_number.at_alloc1 (w : World) (o1 : Obj) : (w.alloc o1).heap[w.heap.size]? = some o1 := by
  have h : (w.heap.push o1)[w.heap.size]? = some o1 := by simp
  exact h
theorem intent_tape_number.at_old (w : World) (o : Obj) (j : Nat) (hj : j < w.heap.size) : (w.alloc o).heap[j]? = w.heap[j]? := by
  have h : (w.heap.push o)[j]? = w.heap[j]? := by
    rw [Array.getElem?_push, if_neg (by omega)]
  exact h
theorem intent_tape_number.blk_lt {w : World} {g : Nat} {o : Obj} (h : w.heap[g]? = some o) : g < w.heap.size := (Array.getElem?_eq_some_iff.1 h).1
set_option maxRecDepth 100000 in
set_option maxHeartbeats 2000000 in
theorem intent_tape_number.put (w0 w : World) (g : Nat) (P : Nat → Prop) (xs : List Int) (n : Int) (hS : intent_tape_number.St w0 w g P xs) (hP : ∀ k, w.heap.size ≤ k → P k) (hl : xs.length + 4 < 140737488355328) :
    Calls Try.prog 41 #[.pointer (some ⟨g, 0, none⟩), .int .i64 n] w fun e w' => e = .returned (.tuple #[]) ∧ intent_tape_number.St w0 w' g P (xs ++ intent_tape_number.le n) ∧ intent_tape_number.Fr w w' g P := by
  obtain ⟨v, hg, hR, hB, hge⟩ := hS
  obtain ⟨A0, c0, rfl⟩ := Kd.R_slice hR
  have hlt := intent_tape_number.blk_lt hg
  have hc := blk_cell hg 0
  have hf := blk_frozen hg 0
  have HO := Aside0.mk hR
  have HB := Aside0.mk hB
  have HG := Aside0.mk hg
  have HP := Aside0.mk hP
  have LM := Aside0.mk hl
  have HLT := Aside0.mk hlt
  clear hR hB hg hP hl
  go_enter Try.func41, Try.ntmps41
  go_wp2_with (at_builtin; refine Kd.R_append_rows (Kd.int .u8) (w0 := w0) w0.heap.size rfl _ _ 26 5 (.int .u8 0) 1 rfl Try.underlying26 info5 rfl (by decide) (by omega) (.slice A0 xs.length c0) xs (intent_tape_number.le n) (some ⟨w.heap.size, 0, none⟩) 4 4 (fun k => P k ∧ k ≠ g) (fun _ => False) rfl rfl ?aO ?aR (fun _ _ h => h) (fun _ h => h.elim) ?aF ?aB ?aS ?aL ?_; (case aO => (with_reducible repeat (first | apply Kd.R_alloc | apply Kd.R_drewN | apply Kd.R_drew)); exact HO.out); (case aR => exact intent_tape_number.lits (cs := intent_tape_number.le n) (t := 5) (fr := (0, 0)) (intent_tape_number.at_alloc1 w _) (by simp [intent_tape_number.le])); (case aB => exact (by repeat (first | (with_reducible first | exact HB.out | apply below_alloc | apply pw_below_drewN | apply below_drew1) | exact HB.out))); (case aF => intro k_ h_; have h1_ := HLT.out; simp at h_; exact ⟨HP.out k_ (by omega), by omega⟩); (case aS => exact (below_size (by repeat (first | (with_reducible first | exact HB.out | apply below_alloc | apply pw_below_drewN | apply below_drew1) | exact HB.out)))); (case aL => have := LM.out; omega); intro v3 w3 ho hb hg_ hat; (obtain ⟨A3, c3, rfl⟩ := Kd.R_slice ho); have HF2 := Aside0.mk (show w.heap.size ≤ w3.heap.size ∧ ∀ k, k < w.heap.size → ¬ P k → w3.heap[k]? = w.heap[k]? from ⟨by have h_ := hg_.size; simp at h_; omega, fun k h1_ h2_ => (hg_.block k (by simp; omega) (fun e_ => h2_ (HO.out.1 k e_.symm).1)).trans (intent_tape_number.at_old w _ k h1_)⟩); have HG2 := Aside0.mk ((hg_.block g (by have h_ := HLT.out; simp; omega) (fun e_ => (HO.out.1 g e_.symm).2 rfl)).trans ((intent_tape_number.at_old w _ g HLT.out).trans HG.out)); have hc2 := blk_cell HG2.out 0; have hf2 := blk_frozen HG2.out 0; have HB2 := Aside0.mk hb; have HO2 := Aside0.mk ho; clear ho hb hg_ hat)
  go_end0
  have ho3 := HO2.out
  rw [List.length_append] at ho3
  refine ⟨rfl, ⟨.slice A3 (xs.length + (intent_tape_number.le n).length) c3, ?_, ?_, ?_, hge⟩, ?_, ?_⟩
  · refine blk_put (cs := #[.slice A0 xs.length c0, .bool false]) HG2.out 0 _ rfl
  · exact Kd.R_far (p := ⟨g, 0, none⟩) ho3 (fun k hk => hk.2) _
  · exact HB2.out.setCell (p := ⟨g, 0, none⟩) hge _
  · have h_ := HF2.out.1
    simp [World.setCell]
    omega
  · intro k h1 h2 h3
    rw [Below.heap_setCell _ _ _ _ h3]
    exact HF2.out.2 k h1 h2
theorem intent_tape_number.St.weak {w0 w : World} {g : Nat} {P P' : Nat → Prop} {xs : List Int} (h : intent_tape_number.St w0 w g P xs) (hp : ∀ k, P k → P' k) : intent_tape_number.St w0 w g P' xs := by
  obtain ⟨v, hg, hR, hB, hge⟩ := h
  exact ⟨v, hg, Kd.R_mono hR (fun k hk => ⟨hp k hk.1, hk.2⟩), hB, hge⟩
theorem intent_tape_number.St.below {w0 w : World} {g : Nat} {P : Nat → Prop} {xs : List Int} (h : intent_tape_number.St w0 w g P xs) : Below w0.heap.size w0 w := by
  obtain ⟨_, _, _, hB, _⟩ := h
  exact hB
/-- A new block is none of the tape's. -/
theorem intent_tape_number.St.grow {w0 w : World} {g : Nat} {P : Nat → Prop} {xs : List Int} (h : intent_tape_number.St w0 w g P xs) (o : Obj) : intent_tape_number.St w0 (w.alloc o) g (fun k => P k ∧ k ≠ w.heap.size) xs := by
  obtain ⟨v, hg, hR, hB, hge⟩ := h
  refine ⟨v, (intent_tape_number.at_old w o g (intent_tape_number.blk_lt hg)).trans hg, ?_, below_alloc hB o, hge⟩
  exact Kd.R_alloc (Kd.R_mono (Kd.R_bound hR) (fun k hk => ⟨⟨hk.1.1, Nat.ne_of_lt hk.2.2.1⟩, hk.1.2⟩)) o
theorem intent_tape_number.St.stored {w0 w3 : World} {g : Nat} {P : Nat → Prop} {ys : List Int} {A3 : Option Addr} {c3 : Nat} {old : Value} (hg : w3.heap[g]? = some (.cells #[old, .bool false] 73 (0, 0))) (ho : Kd.R (Kd.int .u8) 5 w3 w0.heap.size (fun k => P k ∧ k ≠ g) (.slice A3 ys.length c3) ys) (hb : Below w0.heap.size w0 w3) (hge : w0.heap.size ≤ g) :
    intent_tape_number.St w0 (w3.setCell ⟨g, 0, none⟩ (.slice A3 ys.length c3)) g P ys := by
  refine ⟨.slice A3 ys.length c3, ?_, ?_, ?_, hge⟩
  · exact blk_put hg 0 (.slice A3 ys.length c3) rfl
  · exact Kd.R_far (p := ⟨g, 0, none⟩) ho (fun k hk => hk.2) _
  · exact hb.setCell (p := ⟨g, 0, none⟩) hge _
theorem intent_tape_number.Fr.stored {w1 w3 : World} {g : Nat} {P : Nat → Prop} (u : Value) (h : w1.heap.size ≤ w3.heap.size ∧ ∀ k, k < w1.heap.size → ¬ P k → w3.heap[k]? = w1.heap[k]?) : intent_tape_number.Fr w1 (w3.setCell ⟨g, 0, none⟩ u) g P := by
  refine ⟨?_, fun k h1 h2 h3 => ?_⟩
  · have h_ := h.1
    simp [World.setCell]
    omega
  · rw [Below.heap_setCell _ _ _ _ h3]
    exact h.2 k h1 h2
theorem intent_tape_number.Fr.trans {w w1 w2 : World} {g : Nat} {P : Nat → Prop} (h : intent_tape_number.Fr w w1 g P) (h2 : intent_tape_number.Fr w1 w2 g P) : intent_tape_number.Fr w w2 g P :=
  ⟨Nat.le_trans h.1 h2.1, fun k hk hp hg => (h2.2 k (Nat.lt_of_lt_of_le hk h.1) hp hg).trans (h.2 k hk hp hg)⟩

/-! ### intent_tape_text: function 42, by hand -/
-- HAND rounds=0 making=1 imports=Derived.Laws.Cover3
-- INFO 5
def intent_tape_text.f (_a0 : Int) (_l0 : List Int) : Option Int := none
set_option maxRecDepth 100000 in
set_option maxHeartbeats 2000000 in
theorem intent_tape_text.put (w0 w : World) (g : Nat) (P : Nat → Prop) (xs : List Int) (A1 : Option Addr) (c1 : Nat) (l1 : List Int) (hr : Kd.C (Kd.int .u8) w0 A1 l1.length l1) (hS : intent_tape_number.St w0 w g P xs) (hP : ∀ k, w.heap.size ≤ k → P k) (hl : xs.length + 4 + l1.length < 140737488355328) :
    Calls Try.prog 42 #[.pointer (some ⟨g, 0, none⟩), .slice A1 l1.length c1] w fun e w' => e = .returned (.tuple #[]) ∧ intent_tape_number.St w0 w' g P (xs ++ intent_tape_number.le l1.length ++ l1) ∧ intent_tape_number.Fr w w' g P := by
  have hcall := intent_tape_number.put w0 w g P xs l1.length hS hP (by omega)
  have hl2 : (xs ++ intent_tape_number.le l1.length).length + l1.length < 140737488355328 := by
    rw [List.length_append, show (intent_tape_number.le l1.length).length = 4 from rfl]
    omega
  clear hl
  obtain ⟨ys, hys⟩ : ∃ ys, xs ++ intent_tape_number.le l1.length = ys := ⟨_, rfl⟩
  rw [hys] at hcall hl2 ⊢
  have HC := Aside0.mk hcall
  have HR := Aside0.mk hr
  have HP := Aside0.mk hP
  have LM := Aside0.mk hl2
  clear hcall hr hP hl2 hS hys
  go_enter Try.func42, Try.ntmps42
  go_wp2_with (first
    | (go_at_call 41; (with_reducible refine HC.out.mono ?_); rintro e w1 ⟨rfl, ⟨v, hg, hR, hB, hge⟩, hF⟩; (obtain ⟨A0, c0, rfl⟩ := Kd.R_slice hR); have hc := blk_cell hg 0; have hf := blk_frozen hg 0; have HO := Aside0.mk hR; have HB := Aside0.mk hB; have HG := Aside0.mk hg; have HF := Aside0.mk hF; have HGE := Aside0.mk hge; have HLT := Aside0.mk (intent_tape_number.blk_lt hg); clear hR hB hg hF hge)
    | (at_builtin; refine Kd.R_append_rows (Kd.int .u8) (w0 := w0) w0.heap.size rfl _ _ 26 5 (.int .u8 0) 1 rfl Try.underlying26 info5 rfl (by decide) (by omega) (.slice A0 ys.length c0) ys l1 A1 l1.length c1 (fun k => P k ∧ k ≠ g) (fun _ => False) rfl rfl ?aO ?aR (fun _ _ h => h) (fun _ h => h.elim) ?aF ?aB ?aS ?aL ?_; (case aO => exact HO.out); (case aR => exact Kd.C_below HR.out HB.out); (case aB => exact HB.out); (case aF => intro k_ h_; exact ⟨HP.out k_ (Nat.le_trans HF.out.1 h_), Nat.ne_of_gt (Nat.lt_of_lt_of_le HLT.out h_)⟩); (case aS => exact below_size HB.out); (case aL => have := LM.out; omega); intro v3 w3 ho hb hg_ hat; (obtain ⟨A3, c3, rfl⟩ := Kd.R_slice ho); have HF2 := Aside0.mk (show w1.heap.size ≤ w3.heap.size ∧ ∀ k, k < w1.heap.size → ¬ P k → w3.heap[k]? = w1.heap[k]? from ⟨hg_.size, fun k h1_ h2_ => hg_.block k h1_ (fun e_ => h2_ (HO.out.1 k e_.symm).1)⟩); have HG2 := Aside0.mk ((hg_.block g HLT.out (fun e_ => (HO.out.1 g e_.symm).2 rfl)).trans HG.out); have hc2 := blk_cell HG2.out 0; have hf2 := blk_frozen HG2.out 0; have HB2 := Aside0.mk hb; have HO2 := Aside0.mk ho; clear ho hb hg_ hat))
  go_end0
  have ho3 := HO2.out
  rw [List.length_append] at ho3
  refine ⟨rfl, ⟨.slice A3 (ys.length + l1.length) c3, ?_, ?_, ?_, HGE.out⟩, ?_, ?_⟩
  · have h_ := blk_put HG2.out 0 (.slice A3 (ys.length + l1.length) c3) rfl
    exact h_
  · exact Kd.R_far (p := ⟨g, 0, none⟩) ho3 (fun k hk => hk.2) _
  · exact HB2.out.setCell (p := ⟨g, 0, none⟩) HGE.out _
  · have h_ := HF2.out.1
    have h2_ := HF.out.1
    simp [World.setCell]
    omega
  · intro k h1 h2 h3
    rw [Below.heap_setCell _ _ _ _ h3]
    exact (HF2.out.2 k (Nat.lt_of_lt_of_le h1 HF.out.1) h2).trans (HF.out.2 k h1 h2 h3)

/-! ### intent_Encode: function 13, by hand -/
-- HAND rounds=1 making=1 imports=Derived.Laws.Cover3
-- INFO 5
def intent_Encode.range (r : S77) : List Int := intent_tape_number.le r.f0.length ++ r.f0 ++ intent_tape_number.le r.f1.length ++ r.f1
def intent_Encode.write (x : S80) : List Int := intent_tape_number.le x.f0.length ++ x.f0 ++ [if x.f2 = true then 1 else 0] ++ intent_tape_number.le x.f1.length ++ x.f1
def intent_Encode.head (a b c n : Int) : List Int := [a, b, c, n].flatMap intent_tape_number.le
def intent_Encode.bytes (a b c : Int) (l3 : List S77) (l4 : List S80) : List Int := intent_Encode.head a b c l3.length ++ l3.flatMap intent_Encode.range ++ intent_tape_number.le l4.length ++ l4.flatMap intent_Encode.write
def intent_Encode.f (k : Nat) (a0_0 a0_1 a0_2 : Int) (l0_3 : List S77) (l0_4 : List S80) : Option (List Int × Int) :=
  (intent_May.f k a0_0 a0_1 a0_2 l0_3 l0_4).bind fun ok => if ok = false then some ([], 4) else
    if (intent_Encode.bytes a0_0 a0_1 a0_2 l0_3 l0_4).length < 140737488355328 then (if ((intent_Encode.bytes a0_0 a0_1 a0_2 l0_3 l0_4).length : Int) > 4000 then some ([], 1) else some (intent_Encode.bytes a0_0 a0_1 a0_2 l0_3 l0_4, 0)) else none
theorem intent_Encode.mono : ∀ a0 a1 a2 a3 a4 k, LeO (intent_Encode.f k a0 a1 a2 a3 a4) (intent_Encode.f (k + 1) a0 a1 a2 a3 a4) := fun _ _ _ _ _ k => LeO.bind (intent_May.mono _ _ _ _ _ k) (fun _ => LeO.refl _)
theorem intent_Encode.at77 {w : World} {A : Option Addr} {l : List S77} (h : Kd.C k77 w A l.length l) (h0 : 0 < l.length) : ∃ b o, A = some ⟨b, o, none⟩ ∧ ∀ (i : Nat) (hi : i < l.length), ∃ A0_ c0_ A1_ c1_, w.cell? ⟨b, o + i * 2, none⟩ = some (.slice A0_ l[i].f0.length c0_) ∧ w.cell? ⟨b, o + i * 2 + 1, none⟩ = some (.slice A1_ l[i].f1.length c1_) ∧ l[i].f0.length ≤ c0_ ∧ Kd.C (Kd.int .u8) w A0_ l[i].f0.length l[i].f0 ∧ l[i].f1.length ≤ c1_ ∧ Kd.C (Kd.int .u8) w A1_ l[i].f1.length l[i].f1 := by
  obtain ⟨ad, A0_, c0_, A1_, c1_, rfl, g0, _⟩ := at_T77 h 0 (by omega) (by omega)
  have hs : ad.spot = none := by
    cases hsp : ad.spot with
    | none => rfl
    | some s =>
      exfalso
      rw [show ad.add ((0 : Int).toNat * 2) = ad from by simp [Addr.add]] at g0
      unfold World.cell? at g0
      split at g0
      · rw [hsp] at g0
        simp at g0
      · cases g0
  obtain ⟨b, o, sp⟩ := ad
  dsimp only at hs
  subst hs
  refine ⟨b, o, rfl, fun i hi => ?_⟩
  obtain ⟨ad, A0_, c0_, A1_, c1_, e, g0, g1, l0, r0, l1, r1⟩ := at_T77 h (i : Int) (by omega) (by omega)
  cases e
  have ee : rd_T77 l (i : Int) = l[i] := by simp [rd_T77, List.getD_eq_getElem?_getD, hi]
  have ha : (⟨b, o, none⟩ : Addr).add ((i : Int).toNat * 2) = ⟨b, o + i * 2, none⟩ := by rw [Int.toNat_natCast]; unfold Addr.add; split <;> simp_all
  rw [ee] at g0 g1 l0 r0 l1 r1
  rw [ha] at g0 g1
  exact ⟨A0_, c0_, A1_, c1_, g0, g1, l0, r0, l1, r1⟩
theorem intent_Encode.at80 {w : World} {A : Option Addr} {l : List S80} (h : Kd.C k80 w A l.length l) (h0 : 0 < l.length) : ∃ b o, A = some ⟨b, o, none⟩ ∧ ∀ (i : Nat) (hi : i < l.length), ∃ A0_ c0_ A1_ c1_, w.cell? ⟨b, o + i * 3, none⟩ = some (.slice A0_ l[i].f0.length c0_) ∧ w.cell? ⟨b, o + i * 3 + 1, none⟩ = some (.slice A1_ l[i].f1.length c1_) ∧ w.cell? ⟨b, o + i * 3 + 2, none⟩ = some (.bool l[i].f2) ∧ l[i].f0.length ≤ c0_ ∧ Kd.C (Kd.int .u8) w A0_ l[i].f0.length l[i].f0 ∧ l[i].f1.length ≤ c1_ ∧ Kd.C (Kd.int .u8) w A1_ l[i].f1.length l[i].f1 := by
  obtain ⟨ad, A0_, c0_, A1_, c1_, rfl, g0, _⟩ := at_T80 h 0 (by omega) (by omega)
  have hs : ad.spot = none := by
    cases hsp : ad.spot with
    | none => rfl
    | some s =>
      exfalso
      rw [show ad.add ((0 : Int).toNat * 3) = ad from by simp [Addr.add]] at g0
      unfold World.cell? at g0
      split at g0
      · rw [hsp] at g0
        simp at g0
      · cases g0
  obtain ⟨b, o, sp⟩ := ad
  dsimp only at hs
  subst hs
  refine ⟨b, o, rfl, fun i hi => ?_⟩
  obtain ⟨ad, A0_, c0_, A1_, c1_, e, g0, g1, g2, l0, r0, l1, r1⟩ := at_T80 h (i : Int) (by omega) (by omega)
  cases e
  have ee : rd_T80 l (i : Int) = l[i] := by simp [rd_T80, List.getD_eq_getElem?_getD, hi]
  have ha : (⟨b, o, none⟩ : Addr).add ((i : Int).toNat * 3) = ⟨b, o + i * 3, none⟩ := by rw [Int.toNat_natCast]; unfold Addr.add; split <;> simp_all
  rw [ee] at g0 g1 g2 l0 r0 l1 r1
  rw [ha] at g0 g1 g2
  exact ⟨A0_, c0_, A1_, c1_, g0, g1, g2, l0, r0, l1, r1⟩
theorem intent_Encode.head_at (a b c n : Int) : intent_Encode.head a b c n = intent_tape_number.le a ++ intent_tape_number.le b ++ intent_tape_number.le c ++ intent_tape_number.le n := by simp [intent_Encode.head]
theorem intent_Encode.len_le {l r : List Int} {n : Nat} (h : (l ++ r).length < n) : l.length < n := by rw [List.length_append] at h; omega
theorem intent_Encode.flat_take {α : Type} (f : α → List Int) (l : List α) (j : Nat) (h : j < l.length) : (l.take (j + 1)).flatMap f = (l.take j).flatMap f ++ f l[j] := by
  rw [List.take_succ_eq_append_getElem h, List.flatMap_append]
  simp
theorem intent_Encode.flat_len {α : Type} (f : α → List Int) (l : List α) (j : Nat) : ((l.take j).flatMap f).length ≤ (l.flatMap f).length := by
  have h : ((l.take j).flatMap f ++ (l.drop j).flatMap f).length = (l.flatMap f).length := by rw [← List.flatMap_append, List.take_append_drop]
  rw [List.length_append] at h
  omega
set_option maxRecDepth 100000 in
set_option maxHeartbeats 8000000 in
theorem intent_Encode.calls (k : Nat) (a0_0 : Int) (a0_1 : Int) (a0_2 : Int) (A0_3 : Option Addr) (c0_3 : Nat) (l0_3 : List (S77)) (A0_4 : Option Addr) (c0_4 : Nat) (l0_4 : List (S80)) (r1 : List Int) (r2 : Int) (w : World) (hr0_3 : Kd.C k77 w A0_3 l0_3.length l0_3) (hc0_3 : l0_3.length ≤ c0_3) (hr0_4 : Kd.C k80 w A0_4 l0_4.length l0_4) (hc0_4 : l0_4.length ≤ c0_4) (h : intent_Encode.f k a0_0 a0_1 a0_2 l0_3 l0_4 = some (r1, r2)) :
    Calls Try.prog 13 #[.agg #[.int .i64 a0_0, .int .i64 a0_1, .int .i64 a0_2, .slice A0_3 l0_3.length c0_3, .slice A0_4 l0_4.length c0_4]] w fun e w' => ∃ v0_ : Value, e = .returned (.tuple #[v0_, .int .i64 r2]) ∧ Kd.R (Kd.int .u8) 5 w' w.heap.size (fun _ => True) v0_ r1 ∧ Below w.heap.size w w' := by
  have hm3 := hr0_3.2.1
  have hm4 := hr0_4.2.1
  obtain ⟨ok, hok, h⟩ := Option.bind_eq_some_iff.1 h
  have HM : Aside0 (Calls Try.prog 40 #[.agg #[.int .i64 a0_0, .int .i64 a0_1, .int .i64 a0_2, .slice A0_3 l0_3.length c0_3, .slice A0_4 l0_4.length c0_4]] (w.alloc (.cells #[.int .i64 a0_0, .int .i64 a0_1, .int .i64 a0_2, .slice A0_3 l0_3.length c0_3, .slice A0_4 l0_4.length c0_4] 25)) fun e w' => e = .returned (.bool ok) ∧ Below (w.alloc (.cells #[.int .i64 a0_0, .int .i64 a0_1, .int .i64 a0_2, .slice A0_3 l0_3.length c0_3, .slice A0_4 l0_4.length c0_4] 25)).heap.size (w.alloc (.cells #[.int .i64 a0_0, .int .i64 a0_1, .int .i64 a0_2, .slice A0_3 l0_3.length c0_3, .slice A0_4 l0_4.length c0_4] 25)) w') :=
    ⟨intent_May.calls k a0_0 a0_1 a0_2 A0_3 c0_3 l0_3 A0_4 c0_4 l0_4 ok _ (Kd.C_below hr0_3 (below_alloc (Below.refl _ _) _)) hc0_3 (Kd.C_below hr0_4 (below_alloc (Below.refl _ _) _)) hc0_4 hok⟩
  have HR3 := Aside0.mk hr0_3
  have HR4 := Aside0.mk hr0_4
  have HS := Aside0.mk h
  clear hr0_3 hr0_4 h hok
  cases ok with
  | false =>
    have hs := HS.out
    rw [if_pos rfl] at hs
    obtain ⟨rfl, rfl⟩ : r1 = [] ∧ r2 = 4 := by simpa [eq_comm] using hs
    clear hs HS
    go_enter Try.func13, Try.ntmps13
    go_wp2_with (go_at_call 40; (with_reducible refine HM.out.mono ?_); rintro x w1 ⟨rfl, hb⟩; have HB := Aside0.mk hb; clear hb)
    go_ret2
    exact ⟨_, rfl, Kd.R_nil _ _ _ _ _, (below_alloc (Below.refl _ _) _).trans (HB.out.mono (below_alloc (Below.refl _ _) _).size)⟩
  | true =>
  have hs := HS.out
  rw [if_neg (by decide)] at hs
  split at hs
  case isFalse => cases hs
  rename_i hlm
  have LM := Aside0.mk hlm
  have HRES := Aside0.mk hs
  clear hlm hs HS
  go_enter Try.func13, Try.ntmps13
  go_wp2_with (go_at_call 40; (with_reducible refine HM.out.mono ?_); rintro x w1 ⟨rfl, hb⟩; have HB := Aside0.mk hb; have HB0 := Aside0.mk ((hb.block w.heap.size (by simp)).trans (intent_tape_number.at_alloc1 w _)); have y0 : w1.cell? ⟨w.heap.size, 0, none⟩ = some (.int .i64 a0_0) := (blk_cell HB0.out 0).trans rfl; have y1 : w1.cell? ⟨w.heap.size, 1, none⟩ = some (.int .i64 a0_1) := (blk_cell HB0.out 1).trans rfl; have y2 : w1.cell? ⟨w.heap.size, 2, none⟩ = some (.int .i64 a0_2) := (blk_cell HB0.out 2).trans rfl; have y3 : w1.cell? ⟨w.heap.size, 3, none⟩ = some (.slice A0_3 l0_3.length c0_3) := (blk_cell HB0.out 3).trans rfl; have hbs := intent_tape_number.blk_lt HB0.out; clear hb)
  have HBS := Aside0.mk hbs
  have HS1 : Aside0 (intent_tape_number.St w ((w1.alloc (.cells #[.slice none 0 0, .bool false] 73)).alloc (.cells #[.int .i64 a0_0, .int .i64 a0_1, .int .i64 a0_2, .int .i64 (l0_3.length : Int)] 3)) w1.heap.size (fun k_ => k_ ≠ w.heap.size ∧ k_ ≠ w1.heap.size + 1) []) :=
    ⟨⟨.slice none 0 0, (intent_tape_number.at_old _ _ _ (by simp)).trans (intent_tape_number.at_alloc1 w1 _), Kd.R_nil _ _ _ _ _, below_alloc (below_alloc ((below_alloc (Below.refl _ _) _).trans (HB.out.mono (below_alloc (Below.refl _ _) _).size)) _) _, Nat.le_of_lt hbs⟩⟩
  have HB1 := Aside0.mk ((intent_tape_number.at_old (w1.alloc (.cells #[.slice none 0 0, .bool false] 73)) (.cells #[.int .i64 a0_0, .int .i64 a0_1, .int .i64 a0_2, .int .i64 (l0_3.length : Int)] 3) w.heap.size (by simp; omega)).trans ((intent_tape_number.at_old w1 (.cells #[.slice none 0 0, .bool false] 73) w.heap.size hbs).trans HB0.out))
  have HL1 : Aside0 (((w1.alloc (.cells #[.slice none 0 0, .bool false] 73)).alloc (.cells #[.int .i64 a0_0, .int .i64 a0_1, .int .i64 a0_2, .int .i64 (l0_3.length : Int)] 3)).heap[w1.heap.size + 1]? = some (.cells #[.int .i64 a0_0, .int .i64 a0_1, .int .i64 a0_2, .int .i64 (l0_3.length : Int)] 3)) := ⟨by have h_ := intent_tape_number.at_alloc1 (w1.alloc (.cells #[.slice none 0 0, .bool false] 73)) (.cells #[.int .i64 a0_0, .int .i64 a0_1, .int .i64 a0_2, .int .i64 (l0_3.length : Int)] 3); simpa using h_⟩
  have HZ1 : Aside0 (w1.heap.size + 1 < ((w1.alloc (.cells #[.slice none 0 0, .bool false] 73)).alloc (.cells #[.int .i64 a0_0, .int .i64 a0_1, .int .i64 a0_2, .int .i64 (l0_3.length : Int)] 3)).heap.size) := ⟨by simp⟩
  clear y0 y1 y2 y3 HB HB0 HM
  go_loopw [6, 25] (fun _ i wr => ∃ j : Nat, j ≤ 4 ∧ i = .int .i64 j ∧ Aside0 (intent_tape_number.St w wr w1.heap.size (fun k_ => k_ ≠ w.heap.size ∧ k_ ≠ w1.heap.size + 1) (([a0_0, a0_1, a0_2, (l0_3.length : Int)].take j).flatMap intent_tape_number.le)) ∧ Aside0 (wr.heap[w.heap.size]? = some (.cells #[.int .i64 a0_0, .int .i64 a0_1, .int .i64 a0_2, .slice A0_3 l0_3.length c0_3, .slice A0_4 l0_4.length c0_4] 25)) ∧ Aside0 (wr.heap[w1.heap.size + 1]? = some (.cells #[.int .i64 a0_0, .int .i64 a0_1, .int .i64 a0_2, .int .i64 (l0_3.length : Int)] 3)) ∧ Aside0 (w1.heap.size + 1 < wr.heap.size)) (fun _ i _ => 4 - (intOf i).toNat)
  case atStart => exact ⟨0, by omega, rfl, HS1, HB1, HL1, HZ1⟩
  case round =>
    clear HS1 HB1 HL1 HZ1
    obtain ⟨j, hj, rfl, HS1, HB1, HL1, HZ1⟩ := hrel
    have hj' : j = 0 ∨ j = 1 ∨ j = 2 ∨ j = 3 ∨ j = 4 := by omega
    rcases hj' with rfl | rfl | rfl | rfl | rfl
    · have y : wr.cell? ⟨w1.heap.size + 1, 0, none⟩ = some (.int .i64 a0_0) := (blk_cell HL1.out 0).trans rfl
      have HC := Aside0.mk (intent_tape_number.put w wr w1.heap.size _ _ a0_0 HS1.out (fun k_ h_ => by have := HZ1.out; have := HBS.out; constructor <;> omega) (by simp [intent_tape_number.le]))
      go_wp2_with (go_at_call 41; (with_reducible refine HC.out.mono ?_); rintro e w2 ⟨rfl, hS2, hF2⟩; have HS3 := Aside0.mk hS2; have HF3 := Aside0.mk hF2; clear hS2 hF2)
      go_roundw
      case rel => exact ⟨1, by omega, by go_num, ⟨HS3.out⟩, ⟨(HF3.out.2 _ (by have := HZ1.out; have := HBS.out; omega) (fun h_ => h_.1 rfl) (by have := HBS.out; omega)).trans HB1.out⟩, ⟨(HF3.out.2 _ HZ1.out (fun h_ => h_.2 rfl) (by omega)).trans HL1.out⟩, ⟨Nat.lt_of_lt_of_le HZ1.out HF3.out.1⟩⟩
      case measure => simp [intOf]
    · have y : wr.cell? ⟨w1.heap.size + 1, 1, none⟩ = some (.int .i64 a0_1) := (blk_cell HL1.out 1).trans rfl
      have HC := Aside0.mk (intent_tape_number.put w wr w1.heap.size _ _ a0_1 HS1.out (fun k_ h_ => by have := HZ1.out; have := HBS.out; constructor <;> omega) (by simp [intent_tape_number.le]))
      go_wp2_with (go_at_call 41; (with_reducible refine HC.out.mono ?_); rintro e w2 ⟨rfl, hS2, hF2⟩; have HS3 := Aside0.mk hS2; have HF3 := Aside0.mk hF2; clear hS2 hF2)
      go_roundw
      case rel => exact ⟨2, by omega, by go_num, ⟨HS3.out⟩, ⟨(HF3.out.2 _ (by have := HZ1.out; have := HBS.out; omega) (fun h_ => h_.1 rfl) (by have := HBS.out; omega)).trans HB1.out⟩, ⟨(HF3.out.2 _ HZ1.out (fun h_ => h_.2 rfl) (by omega)).trans HL1.out⟩, ⟨Nat.lt_of_lt_of_le HZ1.out HF3.out.1⟩⟩
      case measure => simp [intOf]
    · have y : wr.cell? ⟨w1.heap.size + 1, 2, none⟩ = some (.int .i64 a0_2) := (blk_cell HL1.out 2).trans rfl
      have HC := Aside0.mk (intent_tape_number.put w wr w1.heap.size _ _ a0_2 HS1.out (fun k_ h_ => by have := HZ1.out; have := HBS.out; constructor <;> omega) (by simp [intent_tape_number.le]))
      go_wp2_with (go_at_call 41; (with_reducible refine HC.out.mono ?_); rintro e w2 ⟨rfl, hS2, hF2⟩; have HS3 := Aside0.mk hS2; have HF3 := Aside0.mk hF2; clear hS2 hF2)
      go_roundw
      case rel => exact ⟨3, by omega, by go_num, ⟨HS3.out⟩, ⟨(HF3.out.2 _ (by have := HZ1.out; have := HBS.out; omega) (fun h_ => h_.1 rfl) (by have := HBS.out; omega)).trans HB1.out⟩, ⟨(HF3.out.2 _ HZ1.out (fun h_ => h_.2 rfl) (by omega)).trans HL1.out⟩, ⟨Nat.lt_of_lt_of_le HZ1.out HF3.out.1⟩⟩
      case measure => simp [intOf]
    · have y : wr.cell? ⟨w1.heap.size + 1, 3, none⟩ = some (.int .i64 (l0_3.length : Int)) := (blk_cell HL1.out 3).trans rfl
      have HC := Aside0.mk (intent_tape_number.put w wr w1.heap.size _ _ (l0_3.length : Int) HS1.out (fun k_ h_ => by have := HZ1.out; have := HBS.out; constructor <;> omega) (by simp [intent_tape_number.le]))
      go_wp2_with (go_at_call 41; (with_reducible refine HC.out.mono ?_); rintro e w2 ⟨rfl, hS2, hF2⟩; have HS3 := Aside0.mk hS2; have HF3 := Aside0.mk hF2; clear hS2 hF2)
      go_roundw
      case rel => exact ⟨4, by omega, by go_num, ⟨HS3.out⟩, ⟨(HF3.out.2 _ (by have := HZ1.out; have := HBS.out; omega) (fun h_ => h_.1 rfl) (by have := HBS.out; omega)).trans HB1.out⟩, ⟨(HF3.out.2 _ HZ1.out (fun h_ => h_.2 rfl) (by omega)).trans HL1.out⟩, ⟨Nat.lt_of_lt_of_le HZ1.out HF3.out.1⟩⟩
      case measure => simp [intOf]
    · rw [show ((4 : Nat) : Int) = 4 from rfl]
      have HS2 := Aside0.mk (HS1.out.weak (P' := fun k_ => k_ ≠ w.heap.size) (fun k_ hk => hk.1))
      have y3 : wr.cell? ⟨w.heap.size, 3, none⟩ = some (.slice A0_3 l0_3.length c0_3) := (blk_cell HB1.out 3).trans rfl
      have HZ2 : Aside0 (w1.heap.size < wr.heap.size) := ⟨by have := HZ1.out; omega⟩
      clear HS1 HL1 HZ1
      go_wp2
      clear y3
      go_loopw [8, 35] (fun _ i wr => ∃ j : Nat, j ≤ l0_3.length ∧ i = .int .i64 j ∧ Aside0 (intent_tape_number.St w wr w1.heap.size (fun k_ => k_ ≠ w.heap.size) (intent_Encode.head a0_0 a0_1 a0_2 l0_3.length ++ (l0_3.take j).flatMap intent_Encode.range)) ∧ Aside0 (wr.heap[w.heap.size]? = some (.cells #[.int .i64 a0_0, .int .i64 a0_1, .int .i64 a0_2, .slice A0_3 l0_3.length c0_3, .slice A0_4 l0_4.length c0_4] 25)) ∧ Aside0 (w1.heap.size < wr.heap.size)) (fun _ i _ => l0_3.length - (intOf i).toNat)
      case atStart => exact ⟨0, by omega, rfl, ⟨by rw [List.take_zero, List.flatMap_nil, List.append_nil]; exact HS2.out⟩, HB1, HZ2⟩
      case round =>
        clear HS2 HB1 HZ2
        obtain ⟨j, hj, rfl, HS2, HB1, HZ2⟩ := hrel
        by_cases hlt : j < l0_3.length
        · have HW := Aside0.mk (HS2.out.below)
          obtain ⟨b, o, rfl, hcs⟩ := intent_Encode.at77 HR3.out (by omega)
          obtain ⟨A5, c5, A6, c6, p0, p1, h5, r5, h6, r6⟩ := hcs j hlt
          clear hcs
          replace p0 := pw_cell_below HW.out p0
          replace p1 := pw_cell_below HW.out p1
          have hft := intent_Encode.flat_take intent_Encode.range l0_3 j hlt
          have hfl := intent_Encode.flat_len intent_Encode.range l0_3 (j + 1)
          generalize l0_3[j] = x at *
          rw [hft, List.length_append] at hfl
          have HFT := Aside0.mk hft
          have hlx : (intent_Encode.head a0_0 a0_1 a0_2 l0_3.length ++ (l0_3.take j).flatMap intent_Encode.range).length + (intent_Encode.range x).length < 140737488355328 := by
            have h_ := LM.out
            unfold intent_Encode.bytes at h_
            simp only [List.length_append] at h_ ⊢
            omega
          clear hft hfl
          generalize hxs : intent_Encode.head a0_0 a0_1 a0_2 l0_3.length ++ (l0_3.take j).flatMap intent_Encode.range = xs at *
          have HXS := Aside0.mk hxs
          have hlx2 : xs.length + 8 + x.f0.length + x.f1.length < 140737488355328 := by
            unfold intent_Encode.range at hlx
            simp [intent_tape_number.le] at hlx
            omega
          have hgr := HS2.out.grow (.cells #[.slice A5 x.f0.length c5, .slice A6 x.f1.length c6] 77)
          have HC := Aside0.mk (intent_tape_text.put w _ w1.heap.size _ _ A5 c5 x.f0 r5 hgr (fun k_ h_ => by have h1_ := HZ2.out; have h2_ := HBS.out; simp at h_; constructor <;> omega) (by omega))
          have HR6 := Aside0.mk r6
          have LX := Aside0.mk hlx2
          clear hxs hlx hlx2 hgr r5 r6
          go_wp2_with (first
            | (go_at_call 42; (with_reducible refine HC.out.mono ?_); rintro e w2 ⟨rfl, hS2, hF2⟩; have HX2 := Aside0.mk ((hF2.2 wr.heap.size (by simp) (fun h_ => h_.2 rfl) (Nat.ne_of_gt HZ2.out)).trans (intent_tape_number.at_alloc1 wr _)); have z1 : w2.cell? ⟨wr.heap.size, 1, none⟩ = some (.slice A6 x.f1.length c6) := (blk_cell HX2.out 1).trans rfl; have HC2 := Aside0.mk (intent_tape_text.put w w2 w1.heap.size _ _ A6 c6 x.f1 HR6.out hS2 (fun k_ h_ => by have h0_ := hF2.1; have h1_ := HZ2.out; have h2_ := HBS.out; simp at h0_; constructor <;> omega) (by have h_ := LX.out; simp [intent_tape_number.le]; omega)); have HF2 := Aside0.mk hF2; clear hS2 hF2)
            | (go_at_call 42; (with_reducible refine HC2.out.mono ?_); rintro e w3 ⟨rfl, hS3, hF3⟩; have HS3 := Aside0.mk hS3; have HF3 := Aside0.mk hF3; clear hS3 hF3))
          go_roundw
          case rel =>
            refine ⟨j + 1, by omega, by go_num, ⟨?_⟩, ⟨?_⟩, ⟨?_⟩⟩
            · rw [HFT.out, ← List.append_assoc, HXS.out]
              have h_ := HS3.out.weak (P' := fun k_ => k_ ≠ w.heap.size) (fun k_ hk => hk.1)
              simp only [intent_Encode.range, List.append_assoc] at h_ ⊢
              exact h_
            · have h0_ := HF2.out.1
              have h1_ := HZ2.out
              have h2_ := HBS.out
              simp at h0_
              exact (HF3.out.2 _ (by omega) (fun h_ => h_.1 rfl) (by omega)).trans ((HF2.out.2 _ (by simp; omega) (fun h_ => h_.1 rfl) (by omega)).trans ((intent_tape_number.at_old _ _ _ (by omega)).trans HB1.out))
            · have h0_ := HF2.out.1
              have h1_ := HZ2.out
              have h2_ := HF3.out.1
              simp at h0_
              omega
          case measure => simp [intOf]; omega
        · obtain rfl : j = l0_3.length := by omega
          rw [List.take_length] at HS2
          have hlx : (intent_Encode.head a0_0 a0_1 a0_2 l0_3.length ++ l0_3.flatMap intent_Encode.range).length + 4 < 140737488355328 := by
            have h_ := LM.out
            unfold intent_Encode.bytes at h_
            simp only [List.length_append] at h_ ⊢
            have h2_ : (intent_tape_number.le l0_4.length).length = 4 := rfl
            omega
          have HC4 := Aside0.mk (intent_tape_number.put w wr w1.heap.size _ _ (l0_4.length : Int) HS2.out (fun k_ h_ => by have h1_ := HZ2.out; have h2_ := HBS.out; omega) hlx)
          have y4 : wr.cell? ⟨w.heap.size, 4, none⟩ = some (.slice A0_4 l0_4.length c0_4) := (blk_cell HB1.out 4).trans rfl
          clear hlx
          go_wp2_with (go_at_call 41; (with_reducible refine HC4.out.mono ?_); rintro e w4 ⟨rfl, hS4, hF4⟩; have HS4 := Aside0.mk hS4; have HB4 := Aside0.mk ((hF4.2 _ (by have h1_ := HZ2.out; have h2_ := HBS.out; omega) (fun h_ => h_ rfl) (by have h2_ := HBS.out; omega)).trans HB1.out); have HZ4 := Aside0.mk (Nat.lt_of_lt_of_le HZ2.out hF4.1); have y5 : w4.cell? ⟨w.heap.size, 4, none⟩ = some (.slice A0_4 l0_4.length c0_4) := (blk_cell HB4.out 4).trans rfl; clear hS4 hF4)
          clear y4 y5 HS2 HB1 HZ2 HC4
          go_loopw [10, 53] (fun _ i wr => ∃ j : Nat, j ≤ l0_4.length ∧ i = .int .i64 j ∧ Aside0 (intent_tape_number.St w wr w1.heap.size (fun k_ => k_ ≠ w.heap.size) (intent_Encode.head a0_0 a0_1 a0_2 l0_3.length ++ l0_3.flatMap intent_Encode.range ++ intent_tape_number.le l0_4.length ++ (l0_4.take j).flatMap intent_Encode.write)) ∧ Aside0 (wr.heap[w.heap.size]? = some (.cells #[.int .i64 a0_0, .int .i64 a0_1, .int .i64 a0_2, .slice A0_3 l0_3.length c0_3, .slice A0_4 l0_4.length c0_4] 25)) ∧ Aside0 (w1.heap.size < wr.heap.size)) (fun _ i _ => l0_4.length - (intOf i).toNat)
          case atStart => exact ⟨0, by omega, rfl, ⟨by rw [List.take_zero, List.flatMap_nil, List.append_nil]; exact HS4.out⟩, HB4, HZ4⟩
          case round =>
          clear HS4 HB4 HZ4
          obtain ⟨j, hj, rfl, HS2, HB1, HZ2⟩ := hrel
          by_cases hlt : j < l0_4.length
          · have HW := Aside0.mk (HS2.out.below)
            obtain ⟨b, o, rfl, hcs⟩ := intent_Encode.at80 HR4.out (by omega)
            obtain ⟨A5, c5, A6, c6, p0, p1, p2, h5, r5, h6, r6⟩ := hcs j hlt
            clear hcs
            replace p0 := pw_cell_below HW.out p0
            replace p1 := pw_cell_below HW.out p1
            replace p2 := pw_cell_below HW.out p2
            have hft := intent_Encode.flat_take intent_Encode.write l0_4 j hlt
            have hfl := intent_Encode.flat_len intent_Encode.write l0_4 (j + 1)
            generalize l0_4[j] = x at *
            rw [hft, List.length_append] at hfl
            have HFT := Aside0.mk hft
            have hlx : (intent_Encode.head a0_0 a0_1 a0_2 l0_3.length ++ l0_3.flatMap intent_Encode.range ++ intent_tape_number.le l0_4.length ++ (l0_4.take j).flatMap intent_Encode.write).length + (intent_Encode.write x).length < 140737488355328 := by
              have h_ := LM.out
              unfold intent_Encode.bytes at h_
              simp only [List.length_append] at h_ ⊢
              omega
            clear hft hfl
            generalize hxs : intent_Encode.head a0_0 a0_1 a0_2 l0_3.length ++ l0_3.flatMap intent_Encode.range ++ intent_tape_number.le l0_4.length ++ (l0_4.take j).flatMap intent_Encode.write = xs at *
            have HXS := Aside0.mk hxs
            have hlx2 : xs.length + 9 + x.f0.length + x.f1.length < 140737488355328 := by
              unfold intent_Encode.write at hlx
              simp [intent_tape_number.le] at hlx
              omega
            have hgr := HS2.out.grow (.cells #[.slice A5 x.f0.length c5, .slice A6 x.f1.length c6, .bool x.f2] 80)
            have hput := intent_tape_text.put w _ w1.heap.size _ _ A5 c5 x.f0 r5 hgr (fun k_ h_ => by have h1_ := HZ2.out; have h2_ := HBS.out; simp at h_; constructor <;> omega) (by omega)
            obtain ⟨ys, hys⟩ : ∃ ys, xs ++ intent_tape_number.le x.f0.length ++ x.f0 = ys := ⟨_, rfl⟩
            have HYS := Aside0.mk hys
            have HLY : ys.length + 5 + x.f1.length < 140737488355328 := by
              rw [← hys, List.length_append, List.length_append, show (intent_tape_number.le x.f0.length).length = 4 from rfl]
              omega
            rw [hys] at hput
            have HEX : Aside0 (intent_Encode.write x = intent_tape_number.le x.f0.length ++ x.f0 ++ [if x.f2 = true then 1 else 0] ++ intent_tape_number.le x.f1.length ++ x.f1) := ⟨rfl⟩
            have HR6 := Aside0.mk r6
            have LX := Aside0.mk HLY
            clear hxs hlx hlx2 hgr r5 r6 hys HLY
            by_cases hgone : x.f2 = true
            · rw [hgone] at hput p2 HEX
              have HC := Aside0.mk hput
              clear hput
              go_wp2_with (first
                | (go_at_call 42; (with_reducible refine HC.out.mono ?_); rintro e w2 ⟨rfl, ⟨v, hg2, hR2, hB2, hge2⟩, hF2⟩; (obtain ⟨A7, c7, rfl⟩ := Kd.R_slice hR2); have HX2 := Aside0.mk ((hF2.2 wr.heap.size (by simp) (fun h_ => h_.2 rfl) (Nat.ne_of_gt HZ2.out)).trans (intent_tape_number.at_alloc1 wr _)); have z1 : w2.cell? ⟨wr.heap.size, 1, none⟩ = some (.slice A6 x.f1.length c6) := (blk_cell HX2.out 1).trans rfl; have z2 : w2.cell? ⟨wr.heap.size, 2, none⟩ = some (.bool true) := (blk_cell HX2.out 2).trans rfl; have hc2 : w2.cell? ⟨w1.heap.size, 0, none⟩ = some (.slice A7 ys.length c7) := (blk_cell hg2 0).trans rfl; have hf2 := blk_frozen hg2 0; have HO := Aside0.mk hR2; have HB := Aside0.mk hB2; have HG := Aside0.mk hg2; have HF2 := Aside0.mk hF2; clear hR2 hB2 hg2 hge2 hF2)
                | (at_builtin; refine Kd.R_append (Kd.int .u8) (w0 := w) w.heap.size rfl _ _ 26 5 (.int .u8 0) 1 rfl Try.underlying26 info5 rfl (by decide) (by omega) (.slice A7 ys.length c7) ys 1 [.int .u8 1] (fun k_ => (k_ ≠ w.heap.size ∧ k_ ≠ wr.heap.size) ∧ k_ ≠ w1.heap.size) (fun _ => False) rfl rfl ?aP (fun _ hk => hk.elim) ?aF ?aO ?aB ?aS ?aL ?_; (case aP => exact rfl); (case aO => exact HO.out); (case aB => exact HB.out); (case aF => intro k_ h_; have h0_ := HF2.out.1; have h1_ := HZ2.out; have h2_ := HBS.out; simp at h0_; refine ⟨⟨?_, ?_⟩, ?_⟩ <;> omega); (case aS => exact below_size HB.out); (case aL => have := LX.out; omega); intro v3 w3 ho hb hg_ hat; (obtain ⟨A8, c8, rfl⟩ := Kd.R_slice ho); have HG3 := Aside0.mk ((hg_.block w1.heap.size (intent_tape_number.blk_lt HG.out) (fun e_ => (HO.out.1 _ e_.symm).2 rfl)).trans HG.out); have HX3 := Aside0.mk ((hg_.block wr.heap.size (intent_tape_number.blk_lt HX2.out) (fun e_ => (HO.out.1 _ e_.symm).1.2 rfl)).trans HX2.out); have hc3 : w3.cell? ⟨w1.heap.size, 0, none⟩ = some (.slice A7 ys.length c7) := (blk_cell HG3.out 0).trans rfl; have hf3 := blk_frozen HG3.out 0; have z3 : w3.cell? ⟨wr.heap.size, 1, none⟩ = some (.slice A6 x.f1.length c6) := (blk_cell HX3.out 1).trans rfl; have HF3 := Aside0.mk (intent_tape_number.Fr.stored (g := w1.heap.size) (P := fun k_ => k_ ≠ w.heap.size ∧ k_ ≠ wr.heap.size) (.slice A8 (ys.length + 1) c8) ⟨hg_.size, fun k h1_ h2_ => hg_.block k h1_ (fun e_ => h2_ (HO.out.1 k e_.symm).1)⟩); have HS4 := intent_tape_number.St.stored (P := fun k_ => k_ ≠ w.heap.size ∧ k_ ≠ wr.heap.size) HG3.out ho hb (Nat.le_of_lt HBS.out); rw [List.length_append, List.length_singleton] at HS4; have HC2 := Aside0.mk (intent_tape_text.put w _ w1.heap.size _ _ A6 c6 x.f1 HR6.out HS4 (fun k_ h_ => by have h3_ := HF3.out.1; have h0_ := HF2.out.1; have h1_ := HZ2.out; have h2_ := HBS.out; simp at h0_; constructor <;> omega) (by have h_ := LX.out; simp; omega)); clear ho hb hg_ hat HS4)
                | (go_at_call 42; (with_reducible refine HC2.out.mono ?_); rintro e w5 ⟨rfl, hS5, hF5⟩; have HS5 := Aside0.mk hS5; have HF5 := Aside0.mk hF5; clear hS5 hF5))
              go_roundw
              case rel =>
                refine ⟨j + 1, by omega, by go_num, ⟨?_⟩, ⟨?_⟩, ⟨?_⟩⟩
                · rw [HFT.out, ← List.append_assoc, HXS.out, HEX.out]
                  have h_ := HS5.out.weak (P' := fun k_ => k_ ≠ w.heap.size) (fun k_ hk => hk.1)
                  rw [← HYS.out] at h_
                  simp only [List.append_assoc] at h_ ⊢
                  exact h_
                · have h0_ := HF2.out.1
                  have h1_ := HZ2.out
                  have h2_ := HBS.out
                  have h3_ := HF3.out.1
                  simp at h0_
                  exact (HF5.out.2 _ (by omega) (fun h_ => h_.1 rfl) (by omega)).trans ((HF3.out.2 _ (by omega) (fun h_ => h_.1 rfl) (by omega)).trans ((HF2.out.2 _ (by simp; omega) (fun h_ => h_.1 rfl) (by omega)).trans ((intent_tape_number.at_old _ _ _ (by omega)).trans HB1.out)))
                · have h0_ := HF2.out.1
                  have h1_ := HZ2.out
                  have h2_ := HF3.out.1
                  have h3_ := HF5.out.1
                  simp at h0_
                  omega
              case measure => simp [intOf]; omega
            · have hgone2 : x.f2 = false := by simpa using hgone
              rw [hgone2] at hput p2 HEX
              have HC := Aside0.mk hput
              clear hput hgone
              go_wp2_with (first
                | (go_at_call 42; (with_reducible refine HC.out.mono ?_); rintro e w2 ⟨rfl, ⟨v, hg2, hR2, hB2, hge2⟩, hF2⟩; (obtain ⟨A7, c7, rfl⟩ := Kd.R_slice hR2); have HX2 := Aside0.mk ((hF2.2 wr.heap.size (by simp) (fun h_ => h_.2 rfl) (Nat.ne_of_gt HZ2.out)).trans (intent_tape_number.at_alloc1 wr _)); have z1 : w2.cell? ⟨wr.heap.size, 1, none⟩ = some (.slice A6 x.f1.length c6) := (blk_cell HX2.out 1).trans rfl; have z2 : w2.cell? ⟨wr.heap.size, 2, none⟩ = some (.bool false) := (blk_cell HX2.out 2).trans rfl; have hc2 : w2.cell? ⟨w1.heap.size, 0, none⟩ = some (.slice A7 ys.length c7) := (blk_cell hg2 0).trans rfl; have hf2 := blk_frozen hg2 0; have HO := Aside0.mk hR2; have HB := Aside0.mk hB2; have HG := Aside0.mk hg2; have HF2 := Aside0.mk hF2; clear hR2 hB2 hg2 hge2 hF2)
                | (at_builtin; refine Kd.R_append (Kd.int .u8) (w0 := w) w.heap.size rfl _ _ 26 5 (.int .u8 0) 1 rfl Try.underlying26 info5 rfl (by decide) (by omega) (.slice A7 ys.length c7) ys 0 [.int .u8 0] (fun k_ => (k_ ≠ w.heap.size ∧ k_ ≠ wr.heap.size) ∧ k_ ≠ w1.heap.size) (fun _ => False) rfl rfl ?aP (fun _ hk => hk.elim) ?aF ?aO ?aB ?aS ?aL ?_; (case aP => exact rfl); (case aO => exact HO.out); (case aB => exact HB.out); (case aF => intro k_ h_; have h0_ := HF2.out.1; have h1_ := HZ2.out; have h2_ := HBS.out; simp at h0_; refine ⟨⟨?_, ?_⟩, ?_⟩ <;> omega); (case aS => exact below_size HB.out); (case aL => have := LX.out; omega); intro v3 w3 ho hb hg_ hat; (obtain ⟨A8, c8, rfl⟩ := Kd.R_slice ho); have HG3 := Aside0.mk ((hg_.block w1.heap.size (intent_tape_number.blk_lt HG.out) (fun e_ => (HO.out.1 _ e_.symm).2 rfl)).trans HG.out); have HX3 := Aside0.mk ((hg_.block wr.heap.size (intent_tape_number.blk_lt HX2.out) (fun e_ => (HO.out.1 _ e_.symm).1.2 rfl)).trans HX2.out); have hc3 : w3.cell? ⟨w1.heap.size, 0, none⟩ = some (.slice A7 ys.length c7) := (blk_cell HG3.out 0).trans rfl; have hf3 := blk_frozen HG3.out 0; have z3 : w3.cell? ⟨wr.heap.size, 1, none⟩ = some (.slice A6 x.f1.length c6) := (blk_cell HX3.out 1).trans rfl; have HF3 := Aside0.mk (intent_tape_number.Fr.stored (g := w1.heap.size) (P := fun k_ => k_ ≠ w.heap.size ∧ k_ ≠ wr.heap.size) (.slice A8 (ys.length + 1) c8) ⟨hg_.size, fun k h1_ h2_ => hg_.block k h1_ (fun e_ => h2_ (HO.out.1 k e_.symm).1)⟩); have HS4 := intent_tape_number.St.stored (P := fun k_ => k_ ≠ w.heap.size ∧ k_ ≠ wr.heap.size) HG3.out ho hb (Nat.le_of_lt HBS.out); rw [List.length_append, List.length_singleton] at HS4; have HC2 := Aside0.mk (intent_tape_text.put w _ w1.heap.size _ _ A6 c6 x.f1 HR6.out HS4 (fun k_ h_ => by have h3_ := HF3.out.1; have h0_ := HF2.out.1; have h1_ := HZ2.out; have h2_ := HBS.out; simp at h0_; constructor <;> omega) (by have h_ := LX.out; simp; omega)); clear ho hb hg_ hat HS4)
                | (go_at_call 42; (with_reducible refine HC2.out.mono ?_); rintro e w5 ⟨rfl, hS5, hF5⟩; have HS5 := Aside0.mk hS5; have HF5 := Aside0.mk hF5; clear hS5 hF5))
              go_roundw
              case rel =>
                refine ⟨j + 1, by omega, by go_num, ⟨?_⟩, ⟨?_⟩, ⟨?_⟩⟩
                · rw [HFT.out, ← List.append_assoc, HXS.out, HEX.out]
                  have h_ := HS5.out.weak (P' := fun k_ => k_ ≠ w.heap.size) (fun k_ hk => hk.1)
                  rw [← HYS.out] at h_
                  simp only [List.append_assoc] at h_ ⊢
                  exact h_
                · have h0_ := HF2.out.1
                  have h1_ := HZ2.out
                  have h2_ := HBS.out
                  have h3_ := HF3.out.1
                  simp at h0_
                  exact (HF5.out.2 _ (by omega) (fun h_ => h_.1 rfl) (by omega)).trans ((HF3.out.2 _ (by omega) (fun h_ => h_.1 rfl) (by omega)).trans ((HF2.out.2 _ (by simp; omega) (fun h_ => h_.1 rfl) (by omega)).trans ((intent_tape_number.at_old _ _ _ (by omega)).trans HB1.out)))
                · have h0_ := HF2.out.1
                  have h1_ := HZ2.out
                  have h2_ := HF3.out.1
                  have h3_ := HF5.out.1
                  simp at h0_
                  omega
              case measure => simp [intOf]; omega
          · obtain rfl : j = l0_4.length := by omega
            rw [List.take_length] at HS2
            obtain ⟨v, hg, hR, hB, hge⟩ := HS2.out
            obtain ⟨A7, c7, rfl⟩ := Kd.R_slice hR
            have hrs := HRES.out
            have hxs : intent_Encode.head a0_0 a0_1 a0_2 l0_3.length ++ l0_3.flatMap intent_Encode.range ++ intent_tape_number.le l0_4.length ++ l0_4.flatMap intent_Encode.write = intent_Encode.bytes a0_0 a0_1 a0_2 l0_3 l0_4 := rfl
            rw [hxs] at hR hg
            have hcn := hR.2
            generalize intent_Encode.bytes a0_0 a0_1 a0_2 l0_3 l0_4 = xs at *
            have y6 : wr.cell? ⟨w1.heap.size, 0, none⟩ = some (.slice A7 xs.length c7) := (blk_cell hg 0).trans rfl
            have HO := Aside0.mk hR
            have HB := Aside0.mk hB
            clear hg hR hB hcn hxs HS2 HRES
            by_cases hbig : (xs.length : Int) > 4000
            · rw [if_pos hbig] at hrs
              obtain ⟨rfl, rfl⟩ : r1 = [] ∧ r2 = 1 := by simpa [eq_comm] using hrs
              clear hrs
              go_wp2
              go_ret2
              exact ⟨_, rfl, Kd.R_nil _ _ _ _ _, HB.out⟩
            · rw [if_neg hbig] at hrs
              obtain ⟨rfl, rfl⟩ : r1 = xs ∧ r2 = 0 := by simpa [eq_comm] using hrs
              clear hrs
              go_wp2
              go_ret2
              exact ⟨_, rfl, Kd.R_mono HO.out (fun _ _ => trivial), HB.out⟩

/-! ### commonholdref_textOrder: function 103 -/
mutual
def commonholdref_textOrder.l0 : Nat → ByteArray → ByteArray → Int → Option (Int)
  | 0, _, _, _ => none
  | k + 1, x0, x1, x5 => if x5 < (x0.size : Int) then (commonholdref_textOrder.j1 k x0 x1 x5 (decide (x5 < (x1.size : Int)))) else (commonholdref_textOrder.j1 k x0 x1 x5 false)
def commonholdref_textOrder.j1 : Nat → ByteArray → ByteArray → Int → Bool → Option (Int)
  | 0, _, _, _, _ => none
  | k + 1, x0, x1, x5, x15 => if x15 = true then (if 0 ≤ x5 then (if x5 < (x0.size : Int) then (if x5 < (x1.size : Int) then (if (bt x0 x5) < (bt x1 x5) then (some (-1)) else (if (bt x0 x5) > (bt x1 x5) then (some 1) else (commonholdref_textOrder.l0 k x0 x1 (wrap64 (x5 + 1))))) else (none)) else (none)) else (none)) else (if (x0.size : Int) < (x1.size : Int) then (some (-1)) else (if (x0.size : Int) > (x1.size : Int) then (some 1) else (some 0)))
end
def commonholdref_textOrder.f (k : Nat) (a0 : ByteArray) (a1 : ByteArray) : Option (Int) := commonholdref_textOrder.l0 k a0 a1 0
theorem commonholdref_textOrder.mono_l : ∀ k, (∀ y0 y1 y2, LeO (commonholdref_textOrder.l0 k y0 y1 y2) (commonholdref_textOrder.l0 (k + 1) y0 y1 y2)) ∧ (∀ y0 y1 y2 y3, LeO (commonholdref_textOrder.j1 k y0 y1 y2 y3) (commonholdref_textOrder.j1 (k + 1) y0 y1 y2 y3))
  | 0 => ⟨fun _ _ _ r h => by simp [commonholdref_textOrder.l0] at h, fun _ _ _ _ r h => by simp [commonholdref_textOrder.j1] at h⟩
  | k + 1 => by
    obtain ⟨ih0, ih1⟩ := commonholdref_textOrder.mono_l k
    refine ⟨?_, ?_⟩
    · intro y0 y1 y2
      unfold commonholdref_textOrder.l0
      repeat' first
      | (with_reducible exact ih0 _ _ _)
      | (with_reducible exact ih1 _ _ _ _)
      | (with_reducible exact LeO.refl _)
      | (with_reducible exact LeO.none _)
      | (with_reducible refine LeO.ite ?_ ?_)
      | (with_reducible refine LeO.bind ?_ (fun _ => ?_))
      | exact ih0 _ _ _
      | exact ih1 _ _ _ _
      | exact LeO.none _
      | refine LeO.ite ?_ ?_
      | refine LeO.bind ?_ (fun _ => ?_)
    · intro y0 y1 y2 y3
      unfold commonholdref_textOrder.j1
      repeat' first
      | (with_reducible exact ih0 _ _ _)
      | (with_reducible exact ih1 _ _ _ _)
      | (with_reducible exact LeO.refl _)
      | (with_reducible exact LeO.none _)
      | (with_reducible refine LeO.ite ?_ ?_)
      | (with_reducible refine LeO.bind ?_ (fun _ => ?_))
      | exact ih0 _ _ _
      | exact ih1 _ _ _ _
      | exact LeO.none _
      | refine LeO.ite ?_ ?_
      | refine LeO.bind ?_ (fun _ => ?_)
theorem commonholdref_textOrder.mono : ∀ a0 a1 k, LeO (commonholdref_textOrder.f k a0 a1) (commonholdref_textOrder.f (k + 1) a0 a1) := by
  intro a0 a1 k
  obtain ⟨ih0, ih1⟩ := commonholdref_textOrder.mono_l k
  unfold commonholdref_textOrder.f
  repeat' first
      | (with_reducible exact ih0 _ _ _)
      | (with_reducible exact ih1 _ _ _ _)
      | (with_reducible exact LeO.refl _)
      | (with_reducible exact LeO.none _)
      | (with_reducible refine LeO.ite ?_ ?_)
      | (with_reducible refine LeO.bind ?_ (fun _ => ?_))
      | exact ih0 _ _ _
      | exact ih1 _ _ _ _
      | exact LeO.none _
      | refine LeO.ite ?_ ?_
      | refine LeO.bind ?_ (fun _ => ?_)
set_option maxHeartbeats 8000000 in
set_option maxRecDepth 100000 in
theorem commonholdref_textOrder.calls (k : Nat) (a0 : ByteArray) (a1 : ByteArray) (r : Int) (w : World) (h : commonholdref_textOrder.f k a0 a1 = some r) :
    Calls Try.prog 103 #[.string a0, .string a1] w fun e w' => e = .returned (.int .i64 r) ∧ Drawn0 w w' := by
  have H : (commonholdref_textOrder.l0 k a0 a1 0) = some r := h
  clear h
  have H' := Aside0.mk H
  clear H
  go_enter Try.func103, Try.ntmps103
  go_wp2
  repeat (go_quiet (fail); try go_wp2)
  go_loopg [5] k (fun kq v5 w' => ∃ (x5_1 : Int), v5 = .int .i64 x5_1 ∧ Aside0 (commonholdref_textOrder.l0 kq a0 a1 x5_1 = some r) ∧ Aside0 (kq ≤ k) ∧ Drawn0 w w')
  case atStart => exact ⟨(0), (by first | rfl | (simp; done) | (simp [*]; done) | (generalize ByteArray.toList _ = q_; cases q_ <;> rfl)), H', ⟨Nat.le_refl _⟩, by repeat (first | exact Drawn0.refl _ | apply Drawn0.step)⟩
  case round =>
    clear H'
    try clear c1
    try clear p2
    obtain ⟨x5_1, rfl, HA, HK1, ⟨m1, rfl⟩⟩ := hrel
    cases gk with
    | zero => exact absurd HA.out (by simp [commonholdref_textOrder.l0])
    | succ k1 =>
      have H := HA.out
      clear HA
      simp only [commonholdref_textOrder.l0] at H
      have HC3 := Aside0.mk H
      clear H
      go_upto_region 2 with (fail)
      repeat (go_quiet (fail); go_upto_region 2 with (fail))
      go_cut [15] (fun v15 wc => ∃ (kq : Nat) (x15_2 : Bool), v15 = .bool x15_2 ∧ Aside0 (commonholdref_textOrder.j1 kq a0 a1 x5_1 x15_2 = some r) ∧ Aside0 (kq ≤ k1) ∧ Drawn0 w wc)
      case first =>
        have H := HC3.out
        clear HC3
        by_cases c4 : x5_1 < (a0.size : Int)
        · rw [if_pos c4] at H
          have c4b0 : decide (x5_1 < (a0.size : Int)) = true := decide_eq_true c4
          clear c4
          (first | rw [c4b0] | (simp only [i64_w, i32_w]; rw [c4b0]) | skip)
          have H' := Aside0.mk H
          clear H
          go_wp2
          repeat (go_quiet (fail); try go_wp2)
          go_meet
          case rel => exact ⟨_, (decide (x5_1 < (a1.size : Int))), (by first | rfl | (simp; done) | (simp [*]; done) | (generalize ByteArray.toList _ = q_; cases q_ <;> rfl)), H', ⟨by have := HK1.out; first | omega | exact Nat.le_refl _⟩, by repeat (first | exact Drawn0.refl _ | apply Drawn0.step)⟩
        · rw [if_neg c4] at H
          have c4b0 : decide (x5_1 < (a0.size : Int)) = false := decide_eq_false c4
          clear c4
          (first | rw [c4b0] | (simp only [i64_w, i32_w]; rw [c4b0]) | skip)
          have H' := Aside0.mk H
          clear H
          go_wp2
          repeat (go_quiet (fail); try go_wp2)
          go_meet
          case rel => exact ⟨_, (false), (by first | rfl | (simp; done) | (simp [*]; done) | (generalize ByteArray.toList _ = q_; cases q_ <;> rfl)), H', ⟨by have := HK1.out; first | omega | exact Nat.le_refl _⟩, by repeat (first | exact Drawn0.refl _ | apply Drawn0.step)⟩
      case rest =>
        clear HC3
        try clear c1
        try clear p2
        try clear c4
        try clear c4b0
        try clear p2
        obtain ⟨kq, x15_2, rfl, HA, HJ2, ⟨mc2, rfl⟩⟩ := hcut
        cases kq with
        | zero => exact absurd HA.out (by simp [commonholdref_textOrder.j1])
        | succ kj2 =>
          have H := HA.out
          clear HA
          simp only [commonholdref_textOrder.j1] at H
          by_cases c5 : x15_2 = true
          · subst c5
            have H1 : (if 0 ≤ x5_1 then (if x5_1 < (a0.size : Int) then (if x5_1 < (a1.size : Int) then (if (bt a0 x5_1) < (bt a1 x5_1) then (some (-1)) else (if (bt a0 x5_1) > (bt a1 x5_1) then (some 1) else (commonholdref_textOrder.l0 kj2 a0 a1 (wrap64 (x5_1 + 1))))) else (none)) else (none)) else (none)) = some r := by rw [if_pos rfl] at H; exact H
            clear H
            have H := H1
            clear H1
            by_cases c6 : 0 ≤ x5_1
            · rw [if_pos c6] at H
              have c6b0 : decide (0 ≤ x5_1) = true := decide_eq_true c6
              clear c6
              by_cases c7 : x5_1 < (a0.size : Int)
              · rw [if_pos c7] at H
                have c7b0 : decide (x5_1 < (a0.size : Int)) = true := decide_eq_true c7
                clear c7
                by_cases c9 : x5_1 < (a1.size : Int)
                · rw [if_pos c9] at H
                  have c9b0 : decide (x5_1 < (a1.size : Int)) = true := decide_eq_true c9
                  clear c9
                  by_cases c11 : (bt a0 x5_1) < (bt a1 x5_1)
                  · rw [if_pos c11] at H
                    have c11b0 : decide ((bt a0 x5_1) < (bt a1 x5_1)) = true := decide_eq_true c11
                    clear c11
                    obtain rfl := Option.some.inj H
                    have p8 : 0 ≤ (x5_1 : Int) := of_decide_eq_true (by first | (with_reducible assumption) | assumption)
                    have q8 : x5_1 < (a0.size : Int) := of_decide_eq_true (by first | (with_reducible assumption) | assumption)
                    have hx8 := bt_at a0 x5_1
                    replace p8 := eq_true p8
                    replace q8 := eq_true q8
                    have p10 : 0 ≤ (x5_1 : Int) := of_decide_eq_true (by first | (with_reducible assumption) | assumption)
                    have q10 : x5_1 < (a1.size : Int) := of_decide_eq_true (by first | (with_reducible assumption) | assumption)
                    have hx10 := bt_at a1 x5_1
                    replace p10 := eq_true p10
                    replace q10 := eq_true q10
                    go_wp2
                    repeat (go_quiet (fail); try go_wp2)
                    go_ret
                    exact ⟨by first | rfl | (simp; done) | (simp [*]; done), by repeat (first | exact Drawn0.refl _ | apply Drawn0.step)⟩
                  · rw [if_neg c11] at H
                    have c11b0 : decide ((bt a0 x5_1) < (bt a1 x5_1)) = false := decide_eq_false c11
                    clear c11
                    by_cases c14 : (bt a0 x5_1) > (bt a1 x5_1)
                    · rw [if_pos c14] at H
                      have c14b0 : decide ((bt a1 x5_1) < (bt a0 x5_1)) = true := decide_eq_true c14
                      clear c14
                      obtain rfl := Option.some.inj H
                      have p8 : 0 ≤ (x5_1 : Int) := of_decide_eq_true (by first | (with_reducible assumption) | assumption)
                      have q8 : x5_1 < (a0.size : Int) := of_decide_eq_true (by first | (with_reducible assumption) | assumption)
                      have hx8 := bt_at a0 x5_1
                      replace p8 := eq_true p8
                      replace q8 := eq_true q8
                      have p10 : 0 ≤ (x5_1 : Int) := of_decide_eq_true (by first | (with_reducible assumption) | assumption)
                      have q10 : x5_1 < (a1.size : Int) := of_decide_eq_true (by first | (with_reducible assumption) | assumption)
                      have hx10 := bt_at a1 x5_1
                      replace p10 := eq_true p10
                      replace q10 := eq_true q10
                      have p12 : 0 ≤ (x5_1 : Int) := of_decide_eq_true (by first | (with_reducible assumption) | assumption)
                      have q12 : x5_1 < (a0.size : Int) := of_decide_eq_true (by first | (with_reducible assumption) | assumption)
                      have hx12 := bt_at a0 x5_1
                      replace p12 := eq_true p12
                      replace q12 := eq_true q12
                      have p13 : 0 ≤ (x5_1 : Int) := of_decide_eq_true (by first | (with_reducible assumption) | assumption)
                      have q13 : x5_1 < (a1.size : Int) := of_decide_eq_true (by first | (with_reducible assumption) | assumption)
                      have hx13 := bt_at a1 x5_1
                      replace p13 := eq_true p13
                      replace q13 := eq_true q13
                      go_wp2
                      repeat (go_quiet (fail); try go_wp2)
                      go_ret
                      exact ⟨by first | rfl | (simp; done) | (simp [*]; done), by repeat (first | exact Drawn0.refl _ | apply Drawn0.step)⟩
                    · rw [if_neg c14] at H
                      have c14b0 : decide ((bt a1 x5_1) < (bt a0 x5_1)) = false := decide_eq_false c14
                      clear c14
                      have H' := Aside0.mk H
                      clear H
                      have p8 : 0 ≤ (x5_1 : Int) := of_decide_eq_true (by first | (with_reducible assumption) | assumption)
                      have q8 : x5_1 < (a0.size : Int) := of_decide_eq_true (by first | (with_reducible assumption) | assumption)
                      have hx8 := bt_at a0 x5_1
                      replace p8 := eq_true p8
                      replace q8 := eq_true q8
                      have p10 : 0 ≤ (x5_1 : Int) := of_decide_eq_true (by first | (with_reducible assumption) | assumption)
                      have q10 : x5_1 < (a1.size : Int) := of_decide_eq_true (by first | (with_reducible assumption) | assumption)
                      have hx10 := bt_at a1 x5_1
                      replace p10 := eq_true p10
                      replace q10 := eq_true q10
                      have p12 : 0 ≤ (x5_1 : Int) := of_decide_eq_true (by first | (with_reducible assumption) | assumption)
                      have q12 : x5_1 < (a0.size : Int) := of_decide_eq_true (by first | (with_reducible assumption) | assumption)
                      have hx12 := bt_at a0 x5_1
                      replace p12 := eq_true p12
                      replace q12 := eq_true q12
                      have p13 : 0 ≤ (x5_1 : Int) := of_decide_eq_true (by first | (with_reducible assumption) | assumption)
                      have q13 : x5_1 < (a1.size : Int) := of_decide_eq_true (by first | (with_reducible assumption) | assumption)
                      have hx13 := bt_at a1 x5_1
                      replace p13 := eq_true p13
                      replace q13 := eq_true q13
                      go_wp2
                      repeat (go_quiet (fail); try go_wp2)
                      go_roundg kj2
                      case measure => have := HK1.out; have := HJ2.out; omega
                      case rel => exact ⟨(wrap64 (x5_1 + 1)), (by first | rfl | (simp; done) | (simp [*]; done) | (generalize ByteArray.toList _ = q_; cases q_ <;> rfl)), H', ⟨by have := HK1.out; have := HJ2.out; omega⟩, by repeat (first | exact Drawn0.refl _ | apply Drawn0.step)⟩
                · rw [if_neg c9] at H
                  exact absurd H (by simp)
              · rw [if_neg c7] at H
                exact absurd H (by simp)
            · rw [if_neg c6] at H
              exact absurd H (by simp)
          · replace c5 := Bool.eq_false_iff.mpr c5
            subst c5
            have H1 : (if (a0.size : Int) < (a1.size : Int) then (some (-1)) else (if (a0.size : Int) > (a1.size : Int) then (some 1) else (some 0))) = some r := by rw [if_neg (show ¬ (false = true) by decide)] at H; exact H
            clear H
            have H := H1
            clear H1
            by_cases c15 : (a0.size : Int) < (a1.size : Int)
            · rw [if_pos c15] at H
              have c15b0 : decide ((a0.size : Int) < (a1.size : Int)) = true := decide_eq_true c15
              have c15b1 : decide (a0.size < a1.size) = true := decide_eq_true (Int.ofNat_lt.mp c15)
              clear c15
              obtain rfl := Option.some.inj H
              go_wp2
              repeat (go_quiet (fail); try go_wp2)
              go_ret
              exact ⟨by first | rfl | (simp; done) | (simp [*]; done), by repeat (first | exact Drawn0.refl _ | apply Drawn0.step)⟩
            · rw [if_neg c15] at H
              have c15b0 : decide ((a0.size : Int) < (a1.size : Int)) = false := decide_eq_false c15
              have c15b1 : decide (a0.size < a1.size) = false := decide_eq_false (fun h => c15 (Int.ofNat_lt.mpr h))
              clear c15
              by_cases c16 : (a0.size : Int) > (a1.size : Int)
              · rw [if_pos c16] at H
                have c16b0 : decide ((a1.size : Int) < (a0.size : Int)) = true := decide_eq_true c16
                have c16b1 : decide (a1.size < a0.size) = true := decide_eq_true (Int.ofNat_lt.mp c16)
                clear c16
                obtain rfl := Option.some.inj H
                go_wp2
                repeat (go_quiet (fail); try go_wp2)
                go_ret
                exact ⟨by first | rfl | (simp; done) | (simp [*]; done), by repeat (first | exact Drawn0.refl _ | apply Drawn0.step)⟩
              · rw [if_neg c16] at H
                have c16b0 : decide ((a1.size : Int) < (a0.size : Int)) = false := decide_eq_false c16
                have c16b1 : decide (a1.size < a0.size) = false := decide_eq_false (fun h => c16 (Int.ofNat_lt.mpr h))
                clear c16
                obtain rfl := Option.some.inj H
                go_wp2
                repeat (go_quiet (fail); try go_wp2)
                go_ret
                exact ⟨by first | rfl | (simp; done) | (simp [*]; done), by repeat (first | exact Drawn0.refl _ | apply Drawn0.step)⟩

/-! ### commonholdref_bytesLess: function 62 -/
def commonholdref_bytesLess.f (k : Nat) (l0 : List Int) (l1 : List Int) : Option (Bool) := (commonholdref_textOrder.f k (strOfNums l0) (strOfNums l1)).bind fun t111 => (some (decide (t111 < 0)))
theorem commonholdref_bytesLess.mono : ∀ a0 a1 k, LeO (commonholdref_bytesLess.f k a0 a1) (commonholdref_bytesLess.f (k + 1) a0 a1) := by
  intro a0 a1 k
  unfold commonholdref_bytesLess.f
  repeat' first
      | (with_reducible exact commonholdref_textOrder.mono _ _ _)
      | (with_reducible exact LeO.refl _)
      | (with_reducible exact LeO.none _)
      | (with_reducible refine LeO.ite ?_ ?_)
      | (with_reducible refine LeO.bind ?_ (fun _ => ?_))
      | exact commonholdref_textOrder.mono _ _ _
      | exact LeO.none _
      | refine LeO.ite ?_ ?_
      | refine LeO.bind ?_ (fun _ => ?_)
set_option maxHeartbeats 8000000 in
set_option maxRecDepth 100000 in
theorem commonholdref_bytesLess.calls (k : Nat) (A0 : Option Addr) (c0 : Nat) (l0 : List Int) (A1 : Option Addr) (c1 : Nat) (l1 : List Int) (r : Bool) (w : World) (hr0 : Kd.C (Kd.int .u8) w A0 l0.length l0) (hc0 : l0.length ≤ c0) (hr1 : Kd.C (Kd.int .u8) w A1 l1.length l1) (hc1 : l1.length ≤ c1) (h : commonholdref_bytesLess.f k l0 l1 = some r) :
    Calls Try.prog 62 #[.slice A0 l0.length c0, .slice A1 l1.length c1] w fun e w' => e = .returned (.bool r) ∧ Drawn0 w w' := by
  have HR0 := Aside0.mk hr0
  have HC0 := Aside0.mk hc0
  clear hr0 hc0
  have HR1 := Aside0.mk hr1
  have HC1 := Aside0.mk hc1
  clear hr1 hc1
  have H : ((commonholdref_textOrder.f k (strOfNums l0) (strOfNums l1)).bind fun t111 => (some (decide (t111 < 0)))) = some r := h
  clear h
  replace H := Option.bind_eq_some_iff.mp H
  obtain ⟨t111, A30, H⟩ := H
  replace H : (some (decide (t111 < 0))) = some r := H
  have A3 := Aside0.mk A30
  clear A30
  obtain rfl := Option.some.inj H
  have hcv4 := Kd.C_string (P := Try.prog) (A := A0) (c := c0) Try.underlying26 Try.underlying5 Try.underlying9 HR0.out
  have hcv5 := Kd.C_string (P := Try.prog) (A := A1) (c := c1) Try.underlying26 Try.underlying5 Try.underlying9 HR1.out
  go_enter Try.func62, Try.ntmps62
  go_wp2_with (first | ((with_reducible refine gate_callee (f := 103) rfl ?_); refine goesL_ (some 9) rfl rfl Try.func103 (by kernel_rfl) rfl #[.string (strOfNums l0), .string (strOfNums l1)] rfl (by (try simp only [List.map_toArray, List.map_cons, List.map_nil]); first | done | rfl | (simp only [List.length_drop, List.length_take]; rfl)) ?_; (with_reducible refine (commonholdref_textOrder.calls k (strOfNums l0) (strOfNums l1) t111 _ A3.out).mono ?_); rintro e w' ⟨rfl, ⟨nd, rfl⟩⟩; refine ⟨_, rfl, ?_⟩))
  go_ret
  exact ⟨by first | rfl | (simp; done) | (simp [*]; done), by repeat (first | exact Drawn0.refl _ | apply Drawn0.step)⟩

end Go.Proofs.Ytdepkigheacdnab.PIntentEncodes
