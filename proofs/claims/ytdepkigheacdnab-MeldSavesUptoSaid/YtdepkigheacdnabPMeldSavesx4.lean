-- Written by wip/pp of this repo (over the kit's print, with additions of this session); Lean checks every line.
import Derived.Test.YtdepkigheacdnabPMeldSavesx0
import Derived.Test.YtdepkigheacdnabPMeldSavesx3
namespace Go.Proofs.Ytdepkigheacdnab.PMeldSaves
open Go.RowKit Go.Proofs.YtdepkigheacdnabW.PrintWords Go.Proofs.YtdepkigheacdnabW.PrintLast Go.Proofs.YtdepkigheacdnabW.PrintMore
attribute [local go_sem] max2_int min2_int max_two min_two max_three min_three max_four min_four   -- for this text's walks alone
set_option linter.unusedVariables false
set_option linter.unusedSimpArgs false

/-! ### meld_writer_number: function 66, by hand -/
-- HAND rounds=0 making=1 imports=Derived.Laws.Cover3,Derived.Deep.Heap
-- INFO 5
def meld_writer_number.f (_l0 : List Int) : Option Int := none
def meld_writer_number.le (n : Int) : List Int := [n % 256, n / 256 % 256, n / 65536 % 256, n / 16777216 % 256]
/-- The writer at block g holds these bytes, in a row of the call's own. -/
def meld_writer_number.St (w0 w : World) (g : Nat) (P : Nat → Prop) (xs : List Int) : Prop :=
  ∃ v, w.heap[g]? = some (.cells #[v] 107 (0, 0)) ∧ Kd.R (Kd.int .u8) 5 w w0.heap.size (fun k => P k ∧ k ≠ g) v xs ∧ Below w0.heap.size w0 w ∧ w0.heap.size ≤ g
/-- Nothing but the writer, its row and what is new has been written. -/
def meld_writer_number.Fr (w w' : World) (g : Nat) (P : Nat → Prop) : Prop := w.heap.size ≤ w'.heap.size ∧ ∀ k, k < w.heap.size → ¬ P k → k ≠ g → w'.heap[k]? = w.heap[k]?
theorem meld_writer_number.lits {w : World} {b t : Nat} {fr : Nat × Nat} {cs : List Int} (h : w.heap[b]? = some (.cells (cs.map (Value.int .u8)).toArray t fr)) (hl : cs.length ≤ 9223372036854775807) :
    ReadsRow ((Kd.int .u8).K w) (Kd.int .u8).sz w (some ⟨b, 0, none⟩) cs.length cs := by
  refine ⟨rfl, hl, fun _ => ⟨_, rfl, fun j q hq => ⟨[.int .u8 q], rfl, rfl, fun i u hu => ?_⟩⟩⟩
  obtain rfl : i = 0 := by
    rcases i with _ | i
    · rfl
    · simp at hu
  obtain rfl : Value.int .u8 q = u := by simpa using hu
  rw [show (⟨b, 0, none⟩ : Addr).add (j * (Kd.int .u8).sz + 0) = ⟨b, j, none⟩ from by rw [add_plain]; show (⟨_, j * 1 + 0, none⟩ : Addr) = _; simp]
  simp [World.cell?, h, hq]
theorem meld_writer_number.at_alloc1 (w : World) (o1 : Obj) : (w.alloc o1).heap[w.heap.size]? = some o1 := by
  have h : (w.heap.push o1)[w.heap.size]? = some o1 := by simp
  exact h
theorem meld_writer_number.at_old (w : World) (o : Obj) (j : Nat) (hj : j < w.heap.size) : (w.alloc o).heap[j]? = w.heap[j]? := by
  have h : (w.heap.push o)[j]? = w.heap[j]? := by
    rw [Array.getElem?_push, if_neg (by omega)]
  exact h
theorem meld_writer_number.blk_lt {w : World} {g : Nat} {o : Obj} (h : w.heap[g]? = some o) : g < w.heap.size := (Array.getElem?_eq_some_iff.1 h).1
theorem meld_writer_number.flat_take {α : Type} (f : α → List Int) (l : List α) (j : Nat) (h : j < l.length) : (l.take (j + 1)).flatMap f = (l.take j).flatMap f ++ f l[j] := by
  rw [List.take_succ_eq_append_getElem h, List.flatMap_append]
  simp
theorem meld_writer_number.flat_len {α : Type} (f : α → List Int) (l : List α) (j : Nat) : ((l.take j).flatMap f).length ≤ (l.flatMap f).length := by
  have h : ((l.take j).flatMap f ++ (l.drop j).flatMap f).length = (l.flatMap f).length := by rw [← List.flatMap_append, List.take_append_drop]
  rw [List.length_append] at h
  omega
theorem meld_writer_number.les_len (l : List Int) : (l.flatMap meld_writer_number.le).length = 4 * l.length := by
  induction l with
  | nil => rfl
  | cons x l ih => simp [List.flatMap_cons, ih, meld_writer_number.le]; omega
theorem meld_writer_number.St.weak {w0 w : World} {g : Nat} {P P' : Nat → Prop} {xs : List Int} (h : meld_writer_number.St w0 w g P xs) (hp : ∀ k, P k → P' k) : meld_writer_number.St w0 w g P' xs := by
  obtain ⟨v, hg, hR, hB, hge⟩ := h
  exact ⟨v, hg, Kd.R_mono hR (fun k hk => ⟨hp k hk.1, hk.2⟩), hB, hge⟩
theorem meld_writer_number.St.below {w0 w : World} {g : Nat} {P : Nat → Prop} {xs : List Int} (h : meld_writer_number.St w0 w g P xs) : Below w0.heap.size w0 w := by
  obtain ⟨_, _, _, hB, _⟩ := h
  exact hB
theorem meld_writer_number.St.lt {w0 w : World} {g : Nat} {P : Nat → Prop} {xs : List Int} (h : meld_writer_number.St w0 w g P xs) : g < w.heap.size := by
  obtain ⟨_, hg, _⟩ := h
  exact meld_writer_number.blk_lt hg
/-- A new block is none of the writer's. -/
theorem meld_writer_number.St.grow {w0 w : World} {g : Nat} {P : Nat → Prop} {xs : List Int} (h : meld_writer_number.St w0 w g P xs) (o : Obj) : meld_writer_number.St w0 (w.alloc o) g (fun k => P k ∧ k ≠ w.heap.size) xs := by
  obtain ⟨v, hg, hR, hB, hge⟩ := h
  refine ⟨v, (meld_writer_number.at_old w o g (meld_writer_number.blk_lt hg)).trans hg, ?_, below_alloc hB o, hge⟩
  exact Kd.R_alloc (Kd.R_mono (Kd.R_bound hR) (fun k hk => ⟨⟨hk.1.1, Nat.ne_of_lt hk.2.2.1⟩, hk.1.2⟩)) o
theorem meld_writer_number.St.stored {w0 w3 : World} {g : Nat} {P : Nat → Prop} {ys : List Int} {A3 : Option Addr} {c3 : Nat} {old : Value} (hg : w3.heap[g]? = some (.cells #[old] 107 (0, 0))) (ho : Kd.R (Kd.int .u8) 5 w3 w0.heap.size (fun k => P k ∧ k ≠ g) (.slice A3 ys.length c3) ys) (hb : Below w0.heap.size w0 w3) (hge : w0.heap.size ≤ g) :
    meld_writer_number.St w0 (w3.setCell ⟨g, 0, none⟩ (.slice A3 ys.length c3)) g P ys := by
  refine ⟨.slice A3 ys.length c3, ?_, ?_, ?_, hge⟩
  · exact blk_put hg 0 (.slice A3 ys.length c3) rfl
  · exact Kd.R_far (p := ⟨g, 0, none⟩) ho (fun k hk => hk.2) _
  · exact hb.setCell (p := ⟨g, 0, none⟩) hge _
theorem meld_writer_number.Fr.stored {w1 w3 : World} {g : Nat} {P : Nat → Prop} (u : Value) (h : w1.heap.size ≤ w3.heap.size ∧ ∀ k, k < w1.heap.size → ¬ P k → w3.heap[k]? = w1.heap[k]?) : meld_writer_number.Fr w1 (w3.setCell ⟨g, 0, none⟩ u) g P := by
  refine ⟨?_, fun k h1 h2 h3 => ?_⟩
  · have h_ := h.1
    simp [World.setCell]
    omega
  · rw [Below.heap_setCell _ _ _ _ h3]
    exact h.2 k h1 h2
theorem meld_writer_number.Fr.refl (w : World) (g : Nat) (P : Nat → Prop) : meld_writer_number.Fr w w g P := ⟨Nat.le_refl _, fun _ _ _ _ => rfl⟩
theorem meld_writer_number.Fr.trans {w w1 w2 : World} {g : Nat} {P : Nat → Prop} (h : meld_writer_number.Fr w w1 g P) (h2 : meld_writer_number.Fr w1 w2 g P) : meld_writer_number.Fr w w2 g P :=
  ⟨Nat.le_trans h.1 h2.1, fun k hk hp hg => (h2.2 k (Nat.lt_of_lt_of_le hk h.1) hp hg).trans (h.2 k hk hp hg)⟩
/-- What was written beside a new block -/
theorem meld_writer_number.Fr.grew {w w' : World} {g : Nat} {P : Nat → Prop} {o : Obj} (h : meld_writer_number.Fr (w.alloc o) w' g (fun k => P k ∧ k ≠ w.heap.size)) : meld_writer_number.Fr w w' g P := by
  have h1 := h.1
  simp at h1
  exact ⟨by omega, fun k hk hp hg => (h.2 k (by simp; omega) (fun q => hp q.1) hg).trans (meld_writer_number.at_old w o k hk)⟩
set_option maxRecDepth 100000 in
set_option maxHeartbeats 4000000 in
theorem meld_writer_number.put (w0 w : World) (g : Nat) (P : Nat → Prop) (xs : List Int) (a n : Nat) (ns : List Int) (hn : ns.length = n) (t : Nat) (hS : meld_writer_number.St w0 w g P xs) (hP : ∀ k, w.heap.size ≤ k → P k) (ha : w.heap[a]? = some (.cells (ns.map (Value.int .i64)).toArray t)) (hna : ¬ P a) (hag : a ≠ g) (hl : xs.length + 4 * n < 140737488355328) :
    Calls Try.prog 66 #[.pointer (some ⟨g, 0, none⟩), .slice (some ⟨a, 0, none⟩) n n] w fun e w' => e = .returned (.tuple #[]) ∧ meld_writer_number.St w0 w' g P (xs ++ ns.flatMap meld_writer_number.le) ∧ meld_writer_number.Fr w w' g P := by
  subst hn
  have HS := Aside0.mk hS
  have HP0 := Aside0.mk hP
  have HA := Aside0.mk ha
  have HNA := Aside0.mk hna
  have HAG := Aside0.mk hag
  have LM := Aside0.mk hl
  clear hS hP ha hna hag hl
  have hnl : ns.length < 140737488355328 := by have := LM.out; omega
  go_enter Try.func66, Try.ntmps66
  go_wp2
  go_loopw [5, 8] (fun _ i wr => ∃ j : Nat, j ≤ ns.length ∧ i = .int .i64 j ∧ Aside0 (meld_writer_number.St w0 wr g P (xs ++ (ns.take j).flatMap meld_writer_number.le)) ∧ Aside0 (meld_writer_number.Fr w wr g P)) (fun _ i _ => ns.length - (intOf i).toNat)
  case atStart => exact ⟨0, by omega, rfl, ⟨by rw [List.take_zero, List.flatMap_nil, List.append_nil]; exact HS.out⟩, ⟨meld_writer_number.Fr.refl _ _ _⟩⟩
  case round =>
    clear HS
    obtain ⟨j, hj, rfl, HS, HF⟩ := hrel
    by_cases hlt : j < ns.length
    · have hft := meld_writer_number.flat_take meld_writer_number.le ns j hlt
      have hyl : (xs ++ (ns.take j).flatMap meld_writer_number.le).length + 4 < 140737488355328 := by
        rw [List.length_append, meld_writer_number.les_len, List.length_take]
        have := LM.out
        omega
      have y : wr.cell? ⟨a, j, none⟩ = some (.int .i64 ns[j]) := (blk_cell ((HF.out.2 a (meld_writer_number.blk_lt HA.out) HNA.out HAG.out).trans HA.out) j).trans (by simp [hlt])
      generalize ns[j] = n at *
      obtain ⟨ys, hys⟩ : ∃ ys, xs ++ (ns.take j).flatMap meld_writer_number.le = ys := ⟨_, rfl⟩
      rw [hys] at HS hyl
      have HYS := Aside0.mk hys
      have HFT := Aside0.mk hft
      have LY := Aside0.mk hyl
      clear hys hft hyl
      obtain ⟨v, hg, hR, hB, hge⟩ := HS.out
      obtain ⟨A0, c0, rfl⟩ := Kd.R_slice hR
      have hlt2 := meld_writer_number.blk_lt hg
      have hc : wr.cell? ⟨g, 0, none⟩ = some (.slice A0 ys.length c0) := (blk_cell hg 0).trans rfl
      have hf := blk_frozen hg 0
      have HO := Aside0.mk hR
      have HB := Aside0.mk hB
      have HG := Aside0.mk hg
      have HGE := Aside0.mk hge
      have HLT := Aside0.mk hlt2
      have HP := Aside0.mk (show ∀ k, wr.heap.size ≤ k → P k from fun k hk => HP0.out k (Nat.le_trans HF.out.1 hk))
      clear hR hB hg hge HS
      go_wp2_with (at_builtin; refine Kd.R_append_rows (Kd.int .u8) (w0 := w0) w0.heap.size rfl _ _ 107 5 (.int .u8 0) 1 rfl Try.underlying107 info5 rfl (by decide) (by omega) (.slice A0 ys.length c0) ys (meld_writer_number.le n) (some ⟨wr.heap.size, 0, none⟩) 4 4 (fun k => P k ∧ k ≠ g) (fun _ => False) rfl rfl ?aO ?aR (fun _ _ h => h) (fun _ h => h.elim) ?aF ?aB ?aS ?aL ?_; (case aO => (with_reducible repeat (first | apply Kd.R_alloc | apply Kd.R_drewN | apply Kd.R_drew)); exact HO.out); (case aR => exact meld_writer_number.lits (cs := meld_writer_number.le n) (t := 5) (fr := (0, 0)) (meld_writer_number.at_alloc1 wr _) (by simp [meld_writer_number.le])); (case aB => exact (by repeat (first | (with_reducible first | exact HB.out | apply below_alloc | apply pw_below_drewN | apply below_drew1) | exact HB.out))); (case aF => intro k_ h_; have h1_ := HLT.out; simp at h_; exact ⟨HP.out k_ (by omega), by omega⟩); (case aS => exact (below_size (by repeat (first | (with_reducible first | exact HB.out | apply below_alloc | apply pw_below_drewN | apply below_drew1) | exact HB.out)))); (case aL => have := LY.out; omega); intro v3 w3 ho hb hg_ hat; (obtain ⟨A3, c3, rfl⟩ := Kd.R_slice ho); have HF2 := Aside0.mk (show wr.heap.size ≤ w3.heap.size ∧ ∀ k, k < wr.heap.size → ¬ P k → w3.heap[k]? = wr.heap[k]? from ⟨by have h_ := hg_.size; simp at h_; omega, fun k h1_ h2_ => (hg_.block k (by simp; omega) (fun e_ => h2_ (HO.out.1 k e_.symm).1)).trans (meld_writer_number.at_old wr _ k h1_)⟩); have HG2 := Aside0.mk ((hg_.block g (by have h_ := HLT.out; simp; omega) (fun e_ => (HO.out.1 g e_.symm).2 rfl)).trans ((meld_writer_number.at_old wr _ g HLT.out).trans HG.out)); have hc2 : w3.cell? ⟨g, 0, none⟩ = some (.slice A0 ys.length c0) := (blk_cell HG2.out 0).trans rfl; have hf2 := blk_frozen HG2.out 0; have HB2 := Aside0.mk hb; have HO2 := Aside0.mk ho; clear ho hb hg_ hat)
      go_roundw
      case rel =>
        have ho3 := HO2.out
        have hsn : ys ++ meld_writer_number.le n = xs ++ (ns.take (j + 1)).flatMap meld_writer_number.le := by rw [HFT.out, ← List.append_assoc, HYS.out]
        refine ⟨j + 1, by omega, by go_num, ⟨?_⟩, ⟨?_⟩⟩
        · rw [← hsn]
          have h_ := meld_writer_number.St.stored HG2.out ho3 HB2.out HGE.out
          rw [List.length_append] at h_
          exact h_
        · exact HF.out.trans (meld_writer_number.Fr.stored _ HF2.out)
      case measure => simp [intOf]; omega
    · obtain rfl : j = ns.length := by omega
      rw [List.take_length] at HS
      go_wp2
      go_end0
      exact ⟨rfl, HS.out, HF.out⟩
theorem meld_writer_number.Fr.keep {w w' : World} {g k : Nat} {P : Nat → Prop} {o : Obj} (h : meld_writer_number.Fr w w' g P) (hk : w.heap[k]? = some o) (hp : ¬ P k) (hg : k ≠ g) : w'.heap[k]? = some o := (h.2 k (meld_writer_number.blk_lt hk) hp hg).trans hk
/-- With numbers that stand in a row laid for the call -/
theorem meld_writer_number.putL (w0 w : World) (g : Nat) (P : Nat → Prop) (xs : List Int) (b n : Nat) (hb : b = w.heap.size) (ns : List Int) (hn : ns.length = n) (hS : meld_writer_number.St w0 w g P xs) (hP : ∀ k, w.heap.size ≤ k → P k) (hl : xs.length + 4 * n < 140737488355328) :
    Calls Try.prog 66 #[.pointer (some ⟨g, 0, none⟩), .slice (some ⟨b, 0, none⟩) n n] (w.alloc (.cells (ns.map (Value.int .i64)).toArray 3)) fun e w' => e = .returned (.tuple #[]) ∧ meld_writer_number.St w0 w' g P (xs ++ ns.flatMap meld_writer_number.le) ∧ meld_writer_number.Fr w w' g P := by
  subst hb
  exact (meld_writer_number.put w0 (w.alloc (.cells (ns.map (Value.int .i64)).toArray 3)) g (fun k => P k ∧ k ≠ w.heap.size) xs w.heap.size n ns hn 3 (hS.grow _) (fun k hk => ⟨hP k (by simp at hk; omega), by simp at hk; omega⟩) (meld_writer_number.at_alloc1 w _) (fun h => h.2 rfl) (Nat.ne_of_gt hS.lt) hl).mono
      fun e w' h => ⟨h.1, h.2.1.weak (fun k hk => hk.1), h.2.2.grew⟩

/-! ### meld_writer_text: function 67, by hand -/
-- HAND rounds=0 making=1 imports=Derived.Laws.Cover3
-- INFO 5
def meld_writer_text.f (_l0 : List Int) : Option Int := none
theorem meld_writer_text.app_types {P : Program} {t t' e e' : TypeId} (ht : P.underlying t = some (.slice e)) (ht' : P.underlying t' = some (.slice e')) (r : TypeId) (u x : Value) (W : World) : (Builtin.append_ #[t, t'] r #[u, x]).run P W = (Builtin.append_ #[t, t] r #[u, x]).run P W := by
  cases u <;> simp [Builtin.append_, Sem.run_bind, run_underlying ht, run_underlying ht']
/-- append(v, ys...) where ys is of another slice type -/
theorem meld_writer_text.append2 {P : Program} {ops : Array Oper} {rest : List Oper} {o : Oper} {a : Act} {Q : Exit → Act → World → Prop} {α : Type} (d : Kd α) {Rr : α → List Value → Prop} {w0 W : World} (base : Nat) (hgd : o.guard = none) (s x : Operand) (t t' e e' : TypeId) (z : Value) (bytes : Nat)
    (ho : o.op = .call { callee := .builtin .append, args := #[s, x], argTypes := #[t, t'] })
    (ht : P.underlying t = some (.slice e)) (ht' : P.underlying t' = some (.slice e')) (hinfo : (P.info? e).map (fun i => (i.zero, i.size, i.bytes)) = some (some z, d.sz, bytes)) (hz : z.cells.size = d.sz) (hs0 : 0 < d.sz) (hb0 : 0 < bytes)
    (v : Value) (xs ys : List α) (A : Option Addr) (m c : Nat) (ok okp : Nat → Prop) (hs : a.eval s = v) (hx : a.eval x = .slice A m c)
    (HO : d.R e W base ok v xs) (HR : ReadsRow Rr d.sz W A m ys) (hKM : ∀ x cs, Rr x cs → d.M W base okp x cs) (hokp : ∀ k, okp k → ok k ∧ some k ≠ v.ownBlock) (hfresh : ∀ k, W.heap.size ≤ k → ok k)
    (HB : Below base w0 W) (hbase : base ≤ W.heap.size) (hl : (xs.length + m) * bytes ≤ 140737488355328)
    (h : ∀ v1 w1, d.R e w1 base ok v1 (xs ++ ys) → Below base w0 w1 → W.grownBy w1 v.ownBlock → (v1.ownBlock = v.ownBlock ∨ ∃ b, v1.ownBlock = some b ∧ W.heap.size ≤ b) → wpList P ops Q rest (a.put o.dst v1) w1) :
    wpList P ops Q (o :: rest) a W := by
  refine wpList_plain hgd fun K hK => ?_
  have hw : Region.wanted { o with op := .call { callee := .builtin .append, args := #[s, x], argTypes := #[t, t] } } (yielded ops a.tmps) = true := by simp only [Region.wanted, hgd]
  have h1 := Kd.R_append_rows_step (P := P) (ops := ops) (o := { o with op := .call { callee := .builtin .append, args := #[s, x], argTypes := #[t, t] } }) (a := a) (Q := Q) (Kc := K) d base hw s x t e z bytes rfl ht hinfo hz hs0 hb0 v xs ys A m c ok okp hs hx HO HR hKM hokp hfresh HB hbase hl (fun v1 w1 q1 q2 q3 q4 => hK _ _ (h v1 w1 q1 q2 q3 q4))
  rw [if_pos hw] at h1
  unfold Oper.wp execOp at h1 ⊢
  simp only [ho, resolve, invoke, builtin, Sem.run_bind, Sem.run_pure, Result.andThen_ok, List.map_toArray, List.map_cons, List.map_nil] at h1 ⊢
  rw [meld_writer_text.app_types ht ht']
  exact h1
set_option maxRecDepth 100000 in
set_option maxHeartbeats 2000000 in
theorem meld_writer_text.put (w0 w : World) (g : Nat) (P : Nat → Prop) (xs : List Int) (A1 : Option Addr) (c1 : Nat) (l1 : List Int) (hr : Kd.C (Kd.int .u8) w0 A1 l1.length l1) (hS : meld_writer_number.St w0 w g P xs) (hP : ∀ k, w.heap.size ≤ k → P k) (hl : xs.length + 4 + l1.length < 140737488355328) :
    Calls Try.prog 67 #[.pointer (some ⟨g, 0, none⟩), .slice A1 l1.length c1] w fun e w' => e = .returned (.tuple #[]) ∧ meld_writer_number.St w0 w' g P (xs ++ meld_writer_number.le l1.length ++ l1) ∧ meld_writer_number.Fr w w' g P := by
  have hcall : Calls Try.prog 66 #[.pointer (some ⟨g, 0, none⟩), .slice (some ⟨w.heap.size, 0, none⟩) 1 1] (w.alloc (.cells #[.int .i64 (l1.length : Int)] 3)) fun e w' => e = .returned (.tuple #[]) ∧ meld_writer_number.St w0 w' g P (xs ++ meld_writer_number.le l1.length) ∧ meld_writer_number.Fr w w' g P :=
    (meld_writer_number.put w0 (w.alloc (.cells #[.int .i64 (l1.length : Int)] 3)) g (fun k => P k ∧ k ≠ w.heap.size) xs w.heap.size 1 [(l1.length : Int)] rfl 3 (hS.grow _) (fun k hk => ⟨hP k (by simp at hk; omega), by simp at hk; omega⟩) (meld_writer_number.at_alloc1 w _) (fun h => h.2 rfl) (Nat.ne_of_gt hS.lt) (by omega)).mono
      fun e w' h => ⟨h.1, by have h_ := h.2.1.weak (P' := P) (fun k hk => hk.1); simpa using h_, h.2.2.grew⟩
  have hl2 : (xs ++ meld_writer_number.le l1.length).length + l1.length < 140737488355328 := by
    rw [List.length_append, show (meld_writer_number.le l1.length).length = 4 from rfl]
    omega
  clear hl
  obtain ⟨ys, hys⟩ : ∃ ys, xs ++ meld_writer_number.le l1.length = ys := ⟨_, rfl⟩
  rw [hys] at hcall hl2 ⊢
  have HC := Aside0.mk hcall
  have HR := Aside0.mk hr
  have HP := Aside0.mk hP
  have LM := Aside0.mk hl2
  clear hcall hr hP hl2 hS hys
  go_enter Try.func67, Try.ntmps67
  go_wp2_with (first
    | (go_at_call 66; (with_reducible refine HC.out.mono ?_); rintro e w1 ⟨rfl, ⟨v, hg, hR, hB, hge⟩, hF⟩; (obtain ⟨A0, c0, rfl⟩ := Kd.R_slice hR); have hc : w1.cell? ⟨g, 0, none⟩ = some (.slice A0 ys.length c0) := (blk_cell hg 0).trans rfl; have hf := blk_frozen hg 0; have HO := Aside0.mk hR; have HB := Aside0.mk hB; have HG := Aside0.mk hg; have HF := Aside0.mk hF; have HGE := Aside0.mk hge; have HLT := Aside0.mk (meld_writer_number.blk_lt hg); clear hR hB hg hF hge)
    | (at_builtin; refine meld_writer_text.append2 (Kd.int .u8) (w0 := w0) w0.heap.size rfl _ _ 107 26 5 5 (.int .u8 0) 1 rfl Try.underlying107 Try.underlying26 info5 rfl (by decide) (by omega) (.slice A0 ys.length c0) ys l1 A1 l1.length c1 (fun k => P k ∧ k ≠ g) (fun _ => False) rfl rfl ?aO ?aR (fun _ _ h => h) (fun _ h => h.elim) ?aF ?aB ?aS ?aL ?_; (case aO => exact HO.out); (case aR => exact Kd.C_below HR.out HB.out); (case aB => exact HB.out); (case aF => intro k_ h_; exact ⟨HP.out k_ (Nat.le_trans HF.out.1 h_), Nat.ne_of_gt (Nat.lt_of_lt_of_le HLT.out h_)⟩); (case aS => exact below_size HB.out); (case aL => have := LM.out; omega); intro v3 w3 ho hb hg_ hat; (obtain ⟨A3, c3, rfl⟩ := Kd.R_slice ho); have HF2 := Aside0.mk (show w1.heap.size ≤ w3.heap.size ∧ ∀ k, k < w1.heap.size → ¬ P k → w3.heap[k]? = w1.heap[k]? from ⟨hg_.size, fun k h1_ h2_ => hg_.block k h1_ (fun e_ => h2_ (HO.out.1 k e_.symm).1)⟩); have HG2 := Aside0.mk ((hg_.block g HLT.out (fun e_ => (HO.out.1 g e_.symm).2 rfl)).trans HG.out); have hc2 : w3.cell? ⟨g, 0, none⟩ = some (.slice A0 ys.length c0) := (blk_cell HG2.out 0).trans rfl; have hf2 := blk_frozen HG2.out 0; have HB2 := Aside0.mk hb; have HO2 := Aside0.mk ho; clear ho hb hg_ hat))
  go_end0
  have ho3 := HO2.out
  refine ⟨rfl, ?_, ?_⟩
  · have h_ := meld_writer_number.St.stored HG2.out ho3 HB2.out HGE.out
    rw [List.length_append] at h_
    exact h_
  · exact HF.out.trans (meld_writer_number.Fr.stored _ HF2.out)

/-! ### meld_writer_flag: function 68, by hand -/
-- HAND rounds=0 making=1 imports=Derived.Laws.Cover3
-- INFO 5
def meld_writer_flag.f (_a0 : Bool) : Option Int := none
set_option maxRecDepth 100000 in
set_option maxHeartbeats 2000000 in
theorem meld_writer_flag.put (w0 w : World) (g : Nat) (P : Nat → Prop) (ys : List Int) (b : Bool) (hS : meld_writer_number.St w0 w g P ys) (hP : ∀ k, w.heap.size ≤ k → P k) (hl : ys.length + 1 < 140737488355328) :
    Calls Try.prog 68 #[.pointer (some ⟨g, 0, none⟩), .bool b] w fun e w' => e = .returned (.tuple #[]) ∧ meld_writer_number.St w0 w' g P (ys ++ [if b = true then 1 else 0]) ∧ meld_writer_number.Fr w w' g P := by
  obtain ⟨v, hg, hR, hB, hge⟩ := hS
  obtain ⟨A0, c0, rfl⟩ := Kd.R_slice hR
  have hlt2 := meld_writer_number.blk_lt hg
  have hc : w.cell? ⟨g, 0, none⟩ = some (.slice A0 ys.length c0) := (blk_cell hg 0).trans rfl
  have hf := blk_frozen hg 0
  have HO := Aside0.mk hR
  have HB := Aside0.mk hB
  have HG := Aside0.mk hg
  have HGE := Aside0.mk hge
  have HLT := Aside0.mk hlt2
  have HP := Aside0.mk hP
  have LY := Aside0.mk hl
  clear hR hB hg hge hP hl
  cases b with
  | true =>
    go_enter Try.func68, Try.ntmps68
    go_wp2_with (at_builtin; refine Kd.R_append_rows (Kd.int .u8) (w0 := w0) w0.heap.size rfl _ _ 107 5 (.int .u8 0) 1 rfl Try.underlying107 info5 rfl (by decide) (by omega) (.slice A0 ys.length c0) ys ([1]) (some ⟨w.heap.size, 0, none⟩) 1 1 (fun k => P k ∧ k ≠ g) (fun _ => False) rfl rfl ?aO ?aR (fun _ _ h => h) (fun _ h => h.elim) ?aF ?aB ?aS ?aL ?_; (case aO => (with_reducible repeat (first | apply Kd.R_alloc | apply Kd.R_drewN | apply Kd.R_drew)); exact HO.out); (case aR => exact meld_writer_number.lits (cs := [1]) (t := 5) (fr := (0, 0)) (meld_writer_number.at_alloc1 w _) (by simp [meld_writer_number.le])); (case aB => exact (by repeat (first | (with_reducible first | exact HB.out | apply below_alloc | apply pw_below_drewN | apply below_drew1) | exact HB.out))); (case aF => intro k_ h_; have h1_ := HLT.out; simp at h_; exact ⟨HP.out k_ (by omega), by omega⟩); (case aS => exact (below_size (by repeat (first | (with_reducible first | exact HB.out | apply below_alloc | apply pw_below_drewN | apply below_drew1) | exact HB.out)))); (case aL => have := LY.out; omega); intro v3 w3 ho hb hg_ hat; (obtain ⟨A3, c3, rfl⟩ := Kd.R_slice ho); have HF2 := Aside0.mk (show w.heap.size ≤ w3.heap.size ∧ ∀ k, k < w.heap.size → ¬ P k → w3.heap[k]? = w.heap[k]? from ⟨by have h_ := hg_.size; simp at h_; omega, fun k h1_ h2_ => (hg_.block k (by simp; omega) (fun e_ => h2_ (HO.out.1 k e_.symm).1)).trans (meld_writer_number.at_old w _ k h1_)⟩); have HG2 := Aside0.mk ((hg_.block g (by have h_ := HLT.out; simp; omega) (fun e_ => (HO.out.1 g e_.symm).2 rfl)).trans ((meld_writer_number.at_old w _ g HLT.out).trans HG.out)); have hc2 : w3.cell? ⟨g, 0, none⟩ = some (.slice A0 ys.length c0) := (blk_cell HG2.out 0).trans rfl; have hf2 := blk_frozen HG2.out 0; have HB2 := Aside0.mk hb; have HO2 := Aside0.mk ho; clear ho hb hg_ hat)
    go_end0
    have ho3 := HO2.out
    refine ⟨rfl, ?_, meld_writer_number.Fr.stored _ HF2.out⟩
    have h_ := meld_writer_number.St.stored HG2.out ho3 HB2.out HGE.out
    rw [List.length_append] at h_
    exact h_
  | false =>
    go_enter Try.func68, Try.ntmps68
    go_wp2_with (at_builtin; refine Kd.R_append_rows (Kd.int .u8) (w0 := w0) w0.heap.size rfl _ _ 107 5 (.int .u8 0) 1 rfl Try.underlying107 info5 rfl (by decide) (by omega) (.slice A0 ys.length c0) ys ([0]) (some ⟨w.heap.size, 0, none⟩) 1 1 (fun k => P k ∧ k ≠ g) (fun _ => False) rfl rfl ?aO ?aR (fun _ _ h => h) (fun _ h => h.elim) ?aF ?aB ?aS ?aL ?_; (case aO => (with_reducible repeat (first | apply Kd.R_alloc | apply Kd.R_drewN | apply Kd.R_drew)); exact HO.out); (case aR => exact meld_writer_number.lits (cs := [0]) (t := 5) (fr := (0, 0)) (meld_writer_number.at_alloc1 w _) (by simp [meld_writer_number.le])); (case aB => exact (by repeat (first | (with_reducible first | exact HB.out | apply below_alloc | apply pw_below_drewN | apply below_drew1) | exact HB.out))); (case aF => intro k_ h_; have h1_ := HLT.out; simp at h_; exact ⟨HP.out k_ (by omega), by omega⟩); (case aS => exact (below_size (by repeat (first | (with_reducible first | exact HB.out | apply below_alloc | apply pw_below_drewN | apply below_drew1) | exact HB.out)))); (case aL => have := LY.out; omega); intro v3 w3 ho hb hg_ hat; (obtain ⟨A3, c3, rfl⟩ := Kd.R_slice ho); have HF2 := Aside0.mk (show w.heap.size ≤ w3.heap.size ∧ ∀ k, k < w.heap.size → ¬ P k → w3.heap[k]? = w.heap[k]? from ⟨by have h_ := hg_.size; simp at h_; omega, fun k h1_ h2_ => (hg_.block k (by simp; omega) (fun e_ => h2_ (HO.out.1 k e_.symm).1)).trans (meld_writer_number.at_old w _ k h1_)⟩); have HG2 := Aside0.mk ((hg_.block g (by have h_ := HLT.out; simp; omega) (fun e_ => (HO.out.1 g e_.symm).2 rfl)).trans ((meld_writer_number.at_old w _ g HLT.out).trans HG.out)); have hc2 : w3.cell? ⟨g, 0, none⟩ = some (.slice A0 ys.length c0) := (blk_cell HG2.out 0).trans rfl; have hf2 := blk_frozen HG2.out 0; have HB2 := Aside0.mk hb; have HO2 := Aside0.mk ho; clear ho hb hg_ hat)
    go_end0
    have ho3 := HO2.out
    refine ⟨rfl, ?_, meld_writer_number.Fr.stored _ HF2.out⟩
    have h_ := meld_writer_number.St.stored HG2.out ho3 HB2.out HGE.out
    rw [List.length_append] at h_
    exact h_

/-! ### meld_Save: function 25, by hand -/
-- HAND rounds=1 making=1 imports=Derived.Laws.Cover3
-- INFO 5
def meld_Save.cell (x : S98) : List Int := meld_writer_number.le x.f0.length ++ x.f0 ++ [if x.f2 = true then 1 else 0] ++ meld_writer_number.le x.f1.length ++ x.f1 ++ meld_writer_number.le x.f3
def meld_Save.done (x : S102) : List Int := [x.f0, x.f1, x.f2].flatMap meld_writer_number.le ++ [if x.f3 = true then 1 else 0]
def meld_Save.bytes (a : Int) (l1 : List S98) (l2 : List S102) : List Int := [a, (l1.length : Int)].flatMap meld_writer_number.le ++ l1.flatMap meld_Save.cell ++ meld_writer_number.le l2.length ++ l2.flatMap meld_Save.done
def meld_Save.f (k : Nat) (a0_0 : Int) (l0_1 : List S98) (l0_2 : List S102) : Option (List Int × Int) :=
  (meld_May.f k a0_0 l0_1 l0_2).bind fun ok => if ok = false then some ([], 4) else
    if (meld_Save.bytes a0_0 l0_1 l0_2).length < 140737488355328 then some (meld_Save.bytes a0_0 l0_1 l0_2, 0) else none
theorem meld_Save.mono : ∀ a0 a1 a2 k, LeO (meld_Save.f k a0 a1 a2) (meld_Save.f (k + 1) a0 a1 a2) := fun _ _ _ k => LeO.bind (meld_May.mono _ _ _ k) (fun _ => LeO.refl _)
theorem meld_Save.at98 {w : World} {A : Option Addr} {l : List S98} (h : Kd.C k98 w A l.length l) (h0 : 0 < l.length) : ∃ b o, A = some ⟨b, o, none⟩ ∧ ∀ (i : Nat) (hi : i < l.length), ∃ A0_ c0_ A1_ c1_, w.cell? ⟨b, o + i * 4, none⟩ = some (.slice A0_ l[i].f0.length c0_) ∧ w.cell? ⟨b, o + i * 4 + 1, none⟩ = some (.slice A1_ l[i].f1.length c1_) ∧ w.cell? ⟨b, o + i * 4 + 2, none⟩ = some (.bool l[i].f2) ∧ w.cell? ⟨b, o + i * 4 + 3, none⟩ = some (.int .i64 l[i].f3) ∧ l[i].f0.length ≤ c0_ ∧ Kd.C (Kd.int .u8) w A0_ l[i].f0.length l[i].f0 ∧ l[i].f1.length ≤ c1_ ∧ Kd.C (Kd.int .u8) w A1_ l[i].f1.length l[i].f1 := by
  obtain ⟨ad, A0_, c0_, A1_, c1_, rfl, g0, _⟩ := at_T98 h 0 (by omega) (by omega)
  have hs : ad.spot = none := by
    cases hsp : ad.spot with
    | none => rfl
    | some s =>
      exfalso
      rw [show ad.add ((0 : Int).toNat * 4) = ad from by simp [Addr.add]] at g0
      unfold World.cell? at g0
      split at g0
      · rw [hsp] at g0
        simp at g0
      · cases g0
  obtain ⟨b, o, sp⟩ := ad
  dsimp only at hs
  subst hs
  refine ⟨b, o, rfl, fun i hi => ?_⟩
  obtain ⟨ad, A0_, c0_, A1_, c1_, e, g0, g1, g2, g3, l0, r0, l1, r1⟩ := at_T98 h (i : Int) (by omega) (by omega)
  cases e
  have ee : rd_T98 l (i : Int) = l[i] := by simp [rd_T98, List.getD_eq_getElem?_getD, hi]
  have ha : (⟨b, o, none⟩ : Addr).add ((i : Int).toNat * 4) = ⟨b, o + i * 4, none⟩ := by rw [Int.toNat_natCast]; unfold Addr.add; split <;> simp_all
  rw [ee] at g0 g1 g2 g3 l0 r0 l1 r1
  rw [ha] at g0 g1 g2 g3
  exact ⟨A0_, c0_, A1_, c1_, g0, g1, g2, g3, l0, r0, l1, r1⟩
theorem meld_Save.at102 {w : World} {A : Option Addr} {l : List S102} (h : Kd.C k102 w A l.length l) (h0 : 0 < l.length) : ∃ b o, A = some ⟨b, o, none⟩ ∧ ∀ (i : Nat) (hi : i < l.length), w.cell? ⟨b, o + i * 4, none⟩ = some (.int .i64 l[i].f0) ∧ w.cell? ⟨b, o + i * 4 + 1, none⟩ = some (.int .i64 l[i].f1) ∧ w.cell? ⟨b, o + i * 4 + 2, none⟩ = some (.int .i64 l[i].f2) ∧ w.cell? ⟨b, o + i * 4 + 3, none⟩ = some (.bool l[i].f3) := by
  obtain ⟨ad, rfl, g0, _⟩ := at_T102 h 0 (by omega) (by omega)
  have hs : ad.spot = none := by
    cases hsp : ad.spot with
    | none => rfl
    | some s =>
      exfalso
      rw [show ad.add ((0 : Int).toNat * 4) = ad from by simp [Addr.add]] at g0
      unfold World.cell? at g0
      split at g0
      · rw [hsp] at g0
        simp at g0
      · cases g0
  obtain ⟨b, o, sp⟩ := ad
  dsimp only at hs
  subst hs
  refine ⟨b, o, rfl, fun i hi => ?_⟩
  obtain ⟨ad, e, g0, g1, g2, g3⟩ := at_T102 h (i : Int) (by omega) (by omega)
  cases e
  have ee : rd_T102 l (i : Int) = l[i] := by simp [rd_T102, List.getD_eq_getElem?_getD, hi]
  have ha : (⟨b, o, none⟩ : Addr).add ((i : Int).toNat * 4) = ⟨b, o + i * 4, none⟩ := by rw [Int.toNat_natCast]; unfold Addr.add; split <;> simp_all
  rw [ee] at g0 g1 g2 g3
  rw [ha] at g0 g1 g2 g3
  exact ⟨g0, g1, g2, g3⟩
set_option maxRecDepth 100000 in
set_option maxHeartbeats 8000000 in
theorem meld_Save.calls (k : Nat) (a0_0 : Int) (A0_1 : Option Addr) (c0_1 : Nat) (l0_1 : List (S98)) (A0_2 : Option Addr) (c0_2 : Nat) (l0_2 : List (S102)) (r1 : List Int) (r2 : Int) (w : World) (hr0_1 : Kd.C k98 w A0_1 l0_1.length l0_1) (hc0_1 : l0_1.length ≤ c0_1) (hr0_2 : Kd.C k102 w A0_2 l0_2.length l0_2) (hc0_2 : l0_2.length ≤ c0_2) (h : meld_Save.f k a0_0 l0_1 l0_2 = some (r1, r2)) :
    Calls Try.prog 25 #[.agg #[.int .i64 a0_0, .slice A0_1 l0_1.length c0_1, .slice A0_2 l0_2.length c0_2]] w fun e w' => ∃ v0_ : Value, e = .returned (.tuple #[v0_, .int .i64 r2]) ∧ Kd.R (Kd.int .u8) 5 w' w.heap.size (fun _ => True) v0_ r1 ∧ Below w.heap.size w w' := by
  have hm1 := hr0_1.2.1
  have hm2 := hr0_2.2.1
  obtain ⟨ok, hok, h⟩ := Option.bind_eq_some_iff.1 h
  have HM : Aside0 (Calls Try.prog 20 #[.agg #[.int .i64 a0_0, .slice A0_1 l0_1.length c0_1, .slice A0_2 l0_2.length c0_2]] (w.alloc (.cells #[.int .i64 a0_0, .slice A0_1 l0_1.length c0_1, .slice A0_2 l0_2.length c0_2] 40)) fun e w' => e = .returned (.bool ok) ∧ Below (w.alloc (.cells #[.int .i64 a0_0, .slice A0_1 l0_1.length c0_1, .slice A0_2 l0_2.length c0_2] 40)).heap.size (w.alloc (.cells #[.int .i64 a0_0, .slice A0_1 l0_1.length c0_1, .slice A0_2 l0_2.length c0_2] 40)) w') :=
    ⟨meld_May.calls k a0_0 A0_1 c0_1 l0_1 A0_2 c0_2 l0_2 ok _ (Kd.C_below hr0_1 (below_alloc (Below.refl _ _) _)) hc0_1 (Kd.C_below hr0_2 (below_alloc (Below.refl _ _) _)) hc0_2 hok⟩
  have HR1 := Aside0.mk hr0_1
  have HR2 := Aside0.mk hr0_2
  have HS := Aside0.mk h
  clear hr0_1 hr0_2 h hok
  cases ok with
  | false =>
    have hs := HS.out
    rw [if_pos rfl] at hs
    obtain ⟨rfl, rfl⟩ : r1 = [] ∧ r2 = 4 := by simpa [eq_comm] using hs
    clear hs HS
    go_enter Try.func25, Try.ntmps25
    go_wp2_with (go_at_call 20; (with_reducible refine HM.out.mono ?_); rintro x w1 ⟨rfl, hb⟩; have HB := Aside0.mk hb; clear hb)
    go_ret2
    exact ⟨_, rfl, Kd.R_nil _ _ _ _ _, (below_alloc (Below.refl _ _) _).trans (HB.out.mono (below_alloc (Below.refl _ _) _).size)⟩
  | true =>
  have hs := HS.out
  rw [if_neg (by decide)] at hs
  split at hs
  case isFalse => cases hs
  rename_i hlm
  have LM := Aside0.mk hlm
  have HRES := Aside0.mk hs
  clear hlm hs HS
  go_enter Try.func25, Try.ntmps25
  go_wp2_with (first
    | (go_at_call 20; (with_reducible refine HM.out.mono ?_); rintro x w1 ⟨rfl, hb⟩; have HB0 := Aside0.mk ((hb.block w.heap.size (by simp)).trans (meld_writer_number.at_alloc1 w _)); have y0 : w1.cell? ⟨w.heap.size, 0, none⟩ = some (.int .i64 a0_0) := (blk_cell HB0.out 0).trans rfl; have y1 : w1.cell? ⟨w.heap.size, 1, none⟩ = some (.slice A0_1 l0_1.length c0_1) := (blk_cell HB0.out 1).trans rfl; have hbs := meld_writer_number.blk_lt HB0.out; have HS0 := Aside0.mk (show meld_writer_number.St w (w1.alloc (.cells #[.slice none 0 0] 107)) w1.heap.size (fun k_ => k_ ≠ w.heap.size) [] from ⟨.slice none 0 0, meld_writer_number.at_alloc1 w1 _, Kd.R_nil _ _ _ _ _, below_alloc ((below_alloc (Below.refl _ _) _).trans (hb.mono (below_alloc (Below.refl _ _) _).size)) _, Nat.le_of_lt hbs⟩); have HC0 : Aside0 (Calls Try.prog 66 #[.pointer (some ⟨w1.heap.size, 0, none⟩), .slice (some ⟨w1.heap.size + 1, 0, none⟩) 2 2] ((w1.alloc (.cells #[.slice none 0 0] 107)).alloc (.cells #[.int .i64 a0_0, .int .i64 (l0_1.length : Int)] 3)) fun e w' => e = .returned (.tuple #[]) ∧ meld_writer_number.St w w' w1.heap.size (fun k_ => k_ ≠ w.heap.size) ([] ++ [a0_0, (l0_1.length : Int)].flatMap meld_writer_number.le) ∧ meld_writer_number.Fr (w1.alloc (.cells #[.slice none 0 0] 107)) w' w1.heap.size (fun k_ => k_ ≠ w.heap.size)) := ⟨meld_writer_number.putL w _ w1.heap.size (fun k_ => k_ ≠ w.heap.size) [] (w1.heap.size + 1) 2 (by simp) [a0_0, (l0_1.length : Int)] rfl HS0.out (fun k_ h_ => by simp at h_; omega) (by simp)⟩; have HBS := Aside0.mk hbs; clear hb HS0)
    | (go_at_call 66; (with_reducible refine HC0.out.mono ?_); rintro e w2 ⟨rfl, hS2, hF2⟩; have HS1 := Aside0.mk hS2; have HB1 := Aside0.mk (hF2.keep ((meld_writer_number.at_old w1 _ _ HBS.out).trans HB0.out) (fun h_ => h_ rfl) (Nat.ne_of_lt HBS.out)); have HZ1 := Aside0.mk (show w1.heap.size < w2.heap.size from by have h_ := hF2.1; simp at h_; omega); have y2 : w2.cell? ⟨w.heap.size, 1, none⟩ = some (.slice A0_1 l0_1.length c0_1) := (blk_cell HB1.out 1).trans rfl; clear hS2 hF2))
  rw [List.nil_append] at HS1
  clear y0 y1 y2 hbs HB0 HM HC0
  go_loopw [6, 22] (fun _ i wr => ∃ j : Nat, j ≤ l0_1.length ∧ i = .int .i64 j ∧ Aside0 (meld_writer_number.St w wr w1.heap.size (fun k_ => k_ ≠ w.heap.size) ([a0_0, (l0_1.length : Int)].flatMap meld_writer_number.le ++ (l0_1.take j).flatMap meld_Save.cell)) ∧ Aside0 (wr.heap[w.heap.size]? = some (.cells #[.int .i64 a0_0, .slice A0_1 l0_1.length c0_1, .slice A0_2 l0_2.length c0_2] 40)) ∧ Aside0 (w1.heap.size < wr.heap.size)) (fun _ i _ => l0_1.length - (intOf i).toNat)
  case atStart => exact ⟨0, by omega, rfl, ⟨by rw [List.take_zero, List.flatMap_nil, List.append_nil]; exact HS1.out⟩, HB1, HZ1⟩
  case round =>
    clear HS1 HB1 HZ1
    obtain ⟨j, hj, rfl, HS, HB, HZ⟩ := hrel
    by_cases hlt : j < l0_1.length
    · have HW := Aside0.mk (HS.out.below)
      obtain ⟨b, o, rfl, hcs⟩ := meld_Save.at98 HR1.out (by omega)
      obtain ⟨A5, c5, A6, c6, p0, p1, p2, p3, h5, r5, h6, r6⟩ := hcs j hlt
      clear hcs
      replace p0 := pw_cell_below HW.out p0
      replace p1 := pw_cell_below HW.out p1
      replace p2 := pw_cell_below HW.out p2
      replace p3 := pw_cell_below HW.out p3
      have hft := meld_writer_number.flat_take meld_Save.cell l0_1 j hlt
      have hfl := meld_writer_number.flat_len meld_Save.cell l0_1 (j + 1)
      generalize l0_1[j] = x at *
      rw [hft, List.length_append] at hfl
      have HFT := Aside0.mk hft
      have hlx : ([a0_0, (l0_1.length : Int)].flatMap meld_writer_number.le ++ (l0_1.take j).flatMap meld_Save.cell).length + (meld_Save.cell x).length < 140737488355328 := by
        have h_ := LM.out
        unfold meld_Save.bytes at h_
        simp only [List.length_append] at h_ ⊢
        omega
      clear hft hfl
      generalize hxs : [a0_0, (l0_1.length : Int)].flatMap meld_writer_number.le ++ (l0_1.take j).flatMap meld_Save.cell = xs at *
      have HXS := Aside0.mk hxs
      have hlx2 : xs.length + 13 + x.f0.length + x.f1.length < 140737488355328 := by
        unfold meld_Save.cell at hlx
        simp [meld_writer_number.le] at hlx
        omega
      have hgr := HS.out.grow (.cells #[.slice A5 x.f0.length c5, .slice A6 x.f1.length c6, .bool x.f2, .int .i64 x.f3] 98)
      have HC1 := Aside0.mk (meld_writer_text.put w _ w1.heap.size _ _ A5 c5 x.f0 r5 hgr (fun k_ h_ => by have h1_ := HZ.out; have h2_ := HBS.out; simp at h_; constructor <;> omega) (by omega))
      have HR6 := Aside0.mk r6
      have LX := Aside0.mk hlx2
      clear hxs hlx hlx2 hgr r5 r6
      go_wp2_with (first
        | (go_at_call 67; (with_reducible refine HC1.out.mono ?_); rintro e w2 ⟨rfl, hS2, hF2⟩; have HX2 := Aside0.mk (hF2.keep (meld_writer_number.at_alloc1 wr _) (fun h_ => h_.2 rfl) (Nat.ne_of_gt HZ.out)); have z2 : w2.cell? ⟨wr.heap.size, 2, none⟩ = some (.bool x.f2) := (blk_cell HX2.out 2).trans rfl; have HK2 := Aside0.mk (show wr.heap.size < w2.heap.size from meld_writer_number.blk_lt HX2.out); have HC2 := Aside0.mk (meld_writer_flag.put w w2 w1.heap.size _ _ x.f2 hS2 (fun k_ h_ => by have h0_ := HK2.out; have h1_ := HZ.out; have h2_ := HBS.out; constructor <;> omega) (by have h_ := LX.out; simp [meld_writer_number.le]; omega)); have HF2 := Aside0.mk hF2; clear hS2 hF2)
        | (go_at_call 68; (with_reducible refine HC2.out.mono ?_); rintro e w3 ⟨rfl, hS3, hF3⟩; have HX3 := Aside0.mk (hF3.keep HX2.out (fun h_ => h_.2 rfl) (Nat.ne_of_gt HZ.out)); have z3 : w3.cell? ⟨wr.heap.size, 1, none⟩ = some (.slice A6 x.f1.length c6) := (blk_cell HX3.out 1).trans rfl; have HK3 := Aside0.mk (show wr.heap.size < w3.heap.size from meld_writer_number.blk_lt HX3.out); have HC3 := Aside0.mk (meld_writer_text.put w w3 w1.heap.size _ _ A6 c6 x.f1 HR6.out hS3 (fun k_ h_ => by have h0_ := HK3.out; have h1_ := HZ.out; have h2_ := HBS.out; constructor <;> omega) (by have h_ := LX.out; simp [meld_writer_number.le]; omega)); have HF3 := Aside0.mk hF3; clear hS3 hF3)
        | (go_at_call 67; (with_reducible refine HC3.out.mono ?_); rintro e w4 ⟨rfl, hS4, hF4⟩; have HX4 := Aside0.mk (hF4.keep HX3.out (fun h_ => h_.2 rfl) (Nat.ne_of_gt HZ.out)); have z4 : w4.cell? ⟨wr.heap.size, 3, none⟩ = some (.int .i64 x.f3) := (blk_cell HX4.out 3).trans rfl; have HK4 := Aside0.mk (show wr.heap.size < w4.heap.size from meld_writer_number.blk_lt HX4.out); have HC4 : Aside0 (Calls Try.prog 66 #[.pointer (some ⟨w1.heap.size, 0, none⟩), .slice (some ⟨w4.heap.size, 0, none⟩) 1 1] (w4.alloc (.cells #[.int .i64 x.f3] 3)) _) := ⟨meld_writer_number.putL w w4 w1.heap.size _ _ w4.heap.size 1 rfl [x.f3] rfl hS4 (fun k_ h_ => by have h0_ := HK4.out; have h1_ := HZ.out; have h2_ := HBS.out; constructor <;> omega) (by have h_ := LX.out; simp [meld_writer_number.le]; omega)⟩; have HF4 := Aside0.mk hF4; clear hS4 hF4)
        | (go_at_call 66; (with_reducible refine HC4.out.mono ?_); rintro e w5 ⟨rfl, hS5, hF5⟩; have HS5 := Aside0.mk hS5; have HF5 := Aside0.mk hF5; clear hS5 hF5))
      go_roundw
      case rel =>
        refine ⟨j + 1, by omega, by go_num, ⟨?_⟩, ⟨?_⟩, ⟨?_⟩⟩
        · rw [HFT.out, ← List.append_assoc, HXS.out]
          have h_ := HS5.out.weak (P' := fun k_ => k_ ≠ w.heap.size) (fun k_ hk => hk.1)
          simp only [meld_Save.cell, List.append_assoc, List.flatMap_cons, List.flatMap_nil, List.append_nil] at h_ ⊢
          exact h_
        · have h1_ := HZ.out
          have h2_ := HBS.out
          exact HF5.out.keep (HF4.out.keep (HF3.out.keep (HF2.out.keep ((meld_writer_number.at_old _ _ _ (by omega)).trans HB.out) (fun h_ => h_.1 rfl) (by omega)) (fun h_ => h_.1 rfl) (by omega)) (fun h_ => h_.1 rfl) (by omega)) (fun h_ => h_.1 rfl) (by omega)
        · have h1_ := HZ.out
          have h0_ := HK4.out
          have h2_ := HF5.out.1
          omega
      case measure => simp [intOf]; omega
    · obtain rfl : j = l0_1.length := by omega
      rw [List.take_length] at HS
      have hlx : ([a0_0, (l0_1.length : Int)].flatMap meld_writer_number.le ++ l0_1.flatMap meld_Save.cell).length + 4 < 140737488355328 := by
        have h_ := LM.out
        unfold meld_Save.bytes at h_
        simp only [List.length_append] at h_ ⊢
        have h2_ : (meld_writer_number.le l0_2.length).length = 4 := rfl
        omega
      have y4 : wr.cell? ⟨w.heap.size, 2, none⟩ = some (.slice A0_2 l0_2.length c0_2) := (blk_cell HB.out 2).trans rfl
      have HC4 : Aside0 (Calls Try.prog 66 #[.pointer (some ⟨w1.heap.size, 0, none⟩), .slice (some ⟨wr.heap.size, 0, none⟩) 1 1] (wr.alloc (.cells #[.int .i64 (l0_2.length : Int)] 3)) _) := ⟨meld_writer_number.putL w wr w1.heap.size _ _ wr.heap.size 1 rfl [(l0_2.length : Int)] rfl HS.out (fun k_ h_ => by have h1_ := HZ.out; have h2_ := HBS.out; omega) hlx⟩
      clear hlx
      go_wp2_with (go_at_call 66; (with_reducible refine HC4.out.mono ?_); rintro e w4 ⟨rfl, hS4, hF4⟩; have HS4 := Aside0.mk hS4; have HB4 := Aside0.mk (hF4.keep HB.out (fun h_ => h_ rfl) (by have h2_ := HBS.out; omega)); have HZ4 := Aside0.mk (Nat.lt_of_lt_of_le HZ.out hF4.1); have y5 : w4.cell? ⟨w.heap.size, 2, none⟩ = some (.slice A0_2 l0_2.length c0_2) := (blk_cell HB4.out 2).trans rfl; clear hS4 hF4)
      clear y4 y5 HS HB HZ HC4
      obtain ⟨wo, rfl⟩ : ∃ wo, wo = wr := ⟨_, rfl⟩
      go_loopw [8, 48] (fun _ i wr => ∃ j : Nat, j ≤ l0_2.length ∧ i = .int .i64 j ∧ Aside0 (meld_writer_number.St w wr w1.heap.size (fun k_ => k_ ≠ w.heap.size) ([a0_0, (l0_1.length : Int)].flatMap meld_writer_number.le ++ l0_1.flatMap meld_Save.cell ++ meld_writer_number.le l0_2.length ++ (l0_2.take j).flatMap meld_Save.done)) ∧ Aside0 (wr.heap[w.heap.size]? = some (.cells #[.int .i64 a0_0, .slice A0_1 l0_1.length c0_1, .slice A0_2 l0_2.length c0_2] 40)) ∧ Aside0 (w1.heap.size < wr.heap.size)) (fun _ i _ => l0_2.length - (intOf i).toNat)
      case atStart => exact ⟨0, by omega, rfl, ⟨by rw [List.take_zero, List.flatMap_nil, List.append_nil]; have h_ := HS4.out; simp only [List.flatMap_cons, List.flatMap_nil, List.append_nil] at h_ ⊢; exact h_⟩, HB4, HZ4⟩
      case round =>
      clear HS4 HB4 HZ4
      obtain ⟨j, hj, rfl, HS, HB, HZ⟩ := hrel
      by_cases hlt : j < l0_2.length
      · have HW := Aside0.mk (HS.out.below)
        obtain ⟨b, o, rfl, hcs⟩ := meld_Save.at102 HR2.out (by omega)
        obtain ⟨p0, p1, p2, p3⟩ := hcs j hlt
        clear hcs
        replace p0 := pw_cell_below HW.out p0
        replace p1 := pw_cell_below HW.out p1
        replace p2 := pw_cell_below HW.out p2
        replace p3 := pw_cell_below HW.out p3
        have hft := meld_writer_number.flat_take meld_Save.done l0_2 j hlt
        have hfl := meld_writer_number.flat_len meld_Save.done l0_2 (j + 1)
        generalize l0_2[j] = x at *
        rw [hft, List.length_append] at hfl
        have HFT := Aside0.mk hft
        have hlx : ([a0_0, (l0_1.length : Int)].flatMap meld_writer_number.le ++ l0_1.flatMap meld_Save.cell ++ meld_writer_number.le l0_2.length ++ (l0_2.take j).flatMap meld_Save.done).length + (meld_Save.done x).length < 140737488355328 := by
          have h_ := LM.out
          unfold meld_Save.bytes at h_
          simp only [List.length_append] at h_ ⊢
          omega
        clear hft hfl
        generalize hxs : [a0_0, (l0_1.length : Int)].flatMap meld_writer_number.le ++ l0_1.flatMap meld_Save.cell ++ meld_writer_number.le l0_2.length ++ (l0_2.take j).flatMap meld_Save.done = xs at *
        have HXS := Aside0.mk hxs
        have hlx2 : xs.length + 13 < 140737488355328 := by
          unfold meld_Save.done at hlx
          simp [meld_writer_number.le] at hlx
          omega
        have hgr := HS.out.grow (.cells #[.int .i64 x.f0, .int .i64 x.f1, .int .i64 x.f2, .bool x.f3] 102)
        have HC1 : Aside0 (Calls Try.prog 66 #[.pointer (some ⟨w1.heap.size, 0, none⟩), .slice (some ⟨wr.heap.size + 1, 0, none⟩) 3 3] ((wr.alloc (.cells #[.int .i64 x.f0, .int .i64 x.f1, .int .i64 x.f2, .bool x.f3] 102)).alloc (.cells #[.int .i64 x.f0, .int .i64 x.f1, .int .i64 x.f2] 3)) _) := ⟨meld_writer_number.putL w _ w1.heap.size _ _ (wr.heap.size + 1) 3 (by simp) [x.f0, x.f1, x.f2] rfl hgr (fun k_ h_ => by have h1_ := HZ.out; have h2_ := HBS.out; simp at h_; constructor <;> omega) (by omega)⟩
        have LX := Aside0.mk hlx2
        clear hxs hlx hlx2 hgr
        go_wp2_with (first
          | (go_at_call 66; (with_reducible refine HC1.out.mono ?_); rintro e w2 ⟨rfl, hS2, hF2⟩; have HX2 := Aside0.mk (hF2.keep (meld_writer_number.at_alloc1 wr _) (fun h_ => h_.2 rfl) (Nat.ne_of_gt HZ.out)); have z2 : w2.cell? ⟨wr.heap.size, 3, none⟩ = some (.bool x.f3) := (blk_cell HX2.out 3).trans rfl; have HK2 := Aside0.mk (show wr.heap.size < w2.heap.size from meld_writer_number.blk_lt HX2.out); have HC2 := Aside0.mk (meld_writer_flag.put w w2 w1.heap.size _ _ x.f3 hS2 (fun k_ h_ => by have h0_ := HK2.out; have h1_ := HZ.out; have h2_ := HBS.out; constructor <;> omega) (by have h_ := LX.out; simp [meld_writer_number.le]; omega)); have HF2 := Aside0.mk hF2; clear hS2 hF2)
          | (go_at_call 68; (with_reducible refine HC2.out.mono ?_); rintro e w5 ⟨rfl, hS5, hF5⟩; have HS5 := Aside0.mk hS5; have HF5 := Aside0.mk hF5; clear hS5 hF5))
        go_roundw
        case rel =>
          refine ⟨j + 1, by omega, by go_num, ⟨?_⟩, ⟨?_⟩, ⟨?_⟩⟩
          · rw [HFT.out, ← List.append_assoc, HXS.out]
            have h_ := HS5.out.weak (P' := fun k_ => k_ ≠ w.heap.size) (fun k_ hk => hk.1)
            simp only [meld_Save.done, List.append_assoc] at h_ ⊢
            exact h_
          · have h1_ := HZ.out
            have h2_ := HBS.out
            exact HF5.out.keep (HF2.out.keep ((meld_writer_number.at_old _ _ _ (by omega)).trans HB.out) (fun h_ => h_.1 rfl) (by omega)) (fun h_ => h_.1 rfl) (by omega)
          · have h1_ := HZ.out
            have h0_ := HK2.out
            have h2_ := HF5.out.1
            omega
        case measure => simp [intOf]; omega
      · obtain rfl : j = l0_2.length := by omega
        rw [List.take_length] at HS
        obtain ⟨v, hg, hR, hB, hge⟩ := HS.out
        obtain ⟨A7, c7, rfl⟩ := Kd.R_slice hR
        have hrs := HRES.out
        have hxs : [a0_0, (l0_1.length : Int)].flatMap meld_writer_number.le ++ l0_1.flatMap meld_Save.cell ++ meld_writer_number.le l0_2.length ++ l0_2.flatMap meld_Save.done = meld_Save.bytes a0_0 l0_1 l0_2 := rfl
        rw [hxs] at hR hg
        have hcn := hR.2
        generalize meld_Save.bytes a0_0 l0_1 l0_2 = xs at *
        have y6 : wr.cell? ⟨w1.heap.size, 0, none⟩ = some (.slice A7 xs.length c7) := (blk_cell hg 0).trans rfl
        have HO := Aside0.mk hR
        have HB2 := Aside0.mk hB
        obtain ⟨rfl, rfl⟩ : r1 = xs ∧ r2 = 0 := by simpa [eq_comm] using hrs
        clear hg hR hB hcn hxs HS HRES hrs
        go_wp2
        go_ret2
        exact ⟨_, rfl, Kd.R_mono HO.out (fun _ _ => trivial), HB2.out⟩

/-! ### commonholdref_textOrder: function 103 -/
mutual
def commonholdref_textOrder.l0 : Nat → ByteArray → ByteArray → Int → Option (Int)
  | 0, _, _, _ => none
  | k + 1, x0, x1, x5 => if x5 < (x0.size : Int) then (commonholdref_textOrder.j1 k x0 x1 x5 (decide (x5 < (x1.size : Int)))) else (commonholdref_textOrder.j1 k x0 x1 x5 false)
def commonholdref_textOrder.j1 : Nat → ByteArray → ByteArray → Int → Bool → Option (Int)
  | 0, _, _, _, _ => none
  | k + 1, x0, x1, x5, x15 => if x15 = true then (if 0 ≤ x5 then (if x5 < (x0.size : Int) then (if x5 < (x1.size : Int) then (if (bt x0 x5) < (bt x1 x5) then (some (-1)) else (if (bt x0 x5) > (bt x1 x5) then (some 1) else (commonholdref_textOrder.l0 k x0 x1 (wrap64 (x5 + 1))))) else (none)) else (none)) else (none)) else (if (x0.size : Int) < (x1.size : Int) then (some (-1)) else (if (x0.size : Int) > (x1.size : Int) then (some 1) else (some 0)))
end
def commonholdref_textOrder.f (k : Nat) (a0 : ByteArray) (a1 : ByteArray) : Option (Int) := commonholdref_textOrder.l0 k a0 a1 0
theorem commonholdref_textOrder.mono_l : ∀ k, (∀ y0 y1 y2, LeO (commonholdref_textOrder.l0 k y0 y1 y2) (commonholdref_textOrder.l0 (k + 1) y0 y1 y2)) ∧ (∀ y0 y1 y2 y3, LeO (commonholdref_textOrder.j1 k y0 y1 y2 y3) (commonholdref_textOrder.j1 (k + 1) y0 y1 y2 y3))
  | 0 => ⟨fun _ _ _ r h => by simp [commonholdref_textOrder.l0] at h, fun _ _ _ _ r h => by simp [commonholdref_textOrder.j1] at h⟩
  | k + 1 => by
    obtain ⟨ih0, ih1⟩ := commonholdref_textOrder.mono_l k
    refine ⟨?_, ?_⟩
    · intro y0 y1 y2
      unfold commonholdref_textOrder.l0
      repeat' first
      | (with_reducible exact ih0 _ _ _)
      | (with_reducible exact ih1 _ _ _ _)
      | (with_reducible exact LeO.refl _)
      | (with_reducible exact LeO.none _)
      | (with_reducible refine LeO.ite ?_ ?_)
      | (with_reducible refine LeO.bind ?_ (fun _ => ?_))
      | exact ih0 _ _ _
      | exact ih1 _ _ _ _
      | exact LeO.none _
      | refine LeO.ite ?_ ?_
      | refine LeO.bind ?_ (fun _ => ?_)
    · intro y0 y1 y2 y3
      unfold commonholdref_textOrder.j1
      repeat' first
      | (with_reducible exact ih0 _ _ _)
      | (with_reducible exact ih1 _ _ _ _)
      | (with_reducible exact LeO.refl _)
      | (with_reducible exact LeO.none _)
      | (with_reducible refine LeO.ite ?_ ?_)
      | (with_reducible refine LeO.bind ?_ (fun _ => ?_))
      | exact ih0 _ _ _
      | exact ih1 _ _ _ _
      | exact LeO.none _
      | refine LeO.ite ?_ ?_
      | refine LeO.bind ?_ (fun _ => ?_)
theorem commonholdref_textOrder.mono : ∀ a0 a1 k, LeO (commonholdref_textOrder.f k a0 a1) (commonholdref_textOrder.f (k + 1) a0 a1) := by
  intro a0 a1 k
  obtain ⟨ih0, ih1⟩ := commonholdref_textOrder.mono_l k
  unfold commonholdref_textOrder.f
  repeat' first
      | (with_reducible exact ih0 _ _ _)
      | (with_reducible exact ih1 _ _ _ _)
      | (with_reducible exact LeO.refl _)
      | (with_reducible exact LeO.none _)
      | (with_reducible refine LeO.ite ?_ ?_)
      | (with_reducible refine LeO.bind ?_ (fun _ => ?_))
      | exact ih0 _ _ _
      | exact ih1 _ _ _ _
      | exact LeO.none _
      | refine LeO.ite ?_ ?_
      | refine LeO.bind ?_ (fun _ => ?_)
set_option maxHeartbeats 8000000 in
set_option maxRecDepth 100000 in
theorem commonholdref_textOrder.calls (k : Nat) (a0 : ByteArray) (a1 : ByteArray) (r : Int) (w : World) (h : commonholdref_textOrder.f k a0 a1 = some r) :
    Calls Try.prog 103 #[.string a0, .string a1] w fun e w' => e = .returned (.int .i64 r) ∧ Drawn0 w w' := by
  have H : (commonholdref_textOrder.l0 k a0 a1 0) = some r := h
  clear h
  have H' := Aside0.mk H
  clear H
  go_enter Try.func103, Try.ntmps103
  go_wp2
  repeat (go_quiet (fail); try go_wp2)
  go_loopg [5] k (fun kq v5 w' => ∃ (x5_1 : Int), v5 = .int .i64 x5_1 ∧ Aside0 (commonholdref_textOrder.l0 kq a0 a1 x5_1 = some r) ∧ Aside0 (kq ≤ k) ∧ Drawn0 w w')
  case atStart => exact ⟨(0), (by first | rfl | (simp; done) | (simp [*]; done) | (generalize ByteArray.toList _ = q_; cases q_ <;> rfl)), H', ⟨Nat.le_refl _⟩, by repeat (first | exact Drawn0.refl _ | apply Drawn0.step)⟩
  case round =>
    clear H'
    try clear c1
    try clear p2
    obtain ⟨x5_1, rfl, HA, HK1, ⟨m1, rfl⟩⟩ := hrel
    cases gk with
    | zero => exact absurd HA.out (by simp [commonholdref_textOrder.l0])
    | succ k1 =>
      have H := HA.out
      clear HA
      simp only [commonholdref_textOrder.l0] at H
      have HC3 := Aside0.mk H
      clear H
      go_upto_region 2 with (fail)
      repeat (go_quiet (fail); go_upto_region 2 with (fail))
      go_cut [15] (fun v15 wc => ∃ (kq : Nat) (x15_2 : Bool), v15 = .bool x15_2 ∧ Aside0 (commonholdref_textOrder.j1 kq a0 a1 x5_1 x15_2 = some r) ∧ Aside0 (kq ≤ k1) ∧ Drawn0 w wc)
      case first =>
        have H := HC3.out
        clear HC3
        by_cases c4 : x5_1 < (a0.size : Int)
        · rw [if_pos c4] at H
          have c4b0 : decide (x5_1 < (a0.size : Int)) = true := decide_eq_true c4
          clear c4
          (first | rw [c4b0] | (simp only [i64_w, i32_w]; rw [c4b0]) | skip)
          have H' := Aside0.mk H
          clear H
          go_wp2
          repeat (go_quiet (fail); try go_wp2)
          go_meet
          case rel => exact ⟨_, (decide (x5_1 < (a1.size : Int))), (by first | rfl | (simp; done) | (simp [*]; done) | (generalize ByteArray.toList _ = q_; cases q_ <;> rfl)), H', ⟨by have := HK1.out; first | omega | exact Nat.le_refl _⟩, by repeat (first | exact Drawn0.refl _ | apply Drawn0.step)⟩
        · rw [if_neg c4] at H
          have c4b0 : decide (x5_1 < (a0.size : Int)) = false := decide_eq_false c4
          clear c4
          (first | rw [c4b0] | (simp only [i64_w, i32_w]; rw [c4b0]) | skip)
          have H' := Aside0.mk H
          clear H
          go_wp2
          repeat (go_quiet (fail); try go_wp2)
          go_meet
          case rel => exact ⟨_, (false), (by first | rfl | (simp; done) | (simp [*]; done) | (generalize ByteArray.toList _ = q_; cases q_ <;> rfl)), H', ⟨by have := HK1.out; first | omega | exact Nat.le_refl _⟩, by repeat (first | exact Drawn0.refl _ | apply Drawn0.step)⟩
      case rest =>
        clear HC3
        try clear c1
        try clear p2
        try clear c4
        try clear c4b0
        try clear p2
        obtain ⟨kq, x15_2, rfl, HA, HJ2, ⟨mc2, rfl⟩⟩ := hcut
        cases kq with
        | zero => exact absurd HA.out (by simp [commonholdref_textOrder.j1])
        | succ kj2 =>
          have H := HA.out
          clear HA
          simp only [commonholdref_textOrder.j1] at H
          by_cases c5 : x15_2 = true
          · subst c5
            have H1 : (if 0 ≤ x5_1 then (if x5_1 < (a0.size : Int) then (if x5_1 < (a1.size : Int) then (if (bt a0 x5_1) < (bt a1 x5_1) then (some (-1)) else (if (bt a0 x5_1) > (bt a1 x5_1) then (some 1) else (commonholdref_textOrder.l0 kj2 a0 a1 (wrap64 (x5_1 + 1))))) else (none)) else (none)) else (none)) = some r := by rw [if_pos rfl] at H; exact H
            clear H
            have H := H1
            clear H1
            by_cases c6 : 0 ≤ x5_1
            · rw [if_pos c6] at H
              have c6b0 : decide (0 ≤ x5_1) = true := decide_eq_true c6
              clear c6
              by_cases c7 : x5_1 < (a0.size : Int)
              · rw [if_pos c7] at H
                have c7b0 : decide (x5_1 < (a0.size : Int)) = true := decide_eq_true c7
                clear c7
                by_cases c9 : x5_1 < (a1.size : Int)
                · rw [if_pos c9] at H
                  have c9b0 : decide (x5_1 < (a1.size : Int)) = true := decide_eq_true c9
                  clear c9
                  by_cases c11 : (bt a0 x5_1) < (bt a1 x5_1)
                  · rw [if_pos c11] at H
                    have c11b0 : decide ((bt a0 x5_1) < (bt a1 x5_1)) = true := decide_eq_true c11
                    clear c11
                    obtain rfl := Option.some.inj H
                    have p8 : 0 ≤ (x5_1 : Int) := of_decide_eq_true (by first | (with_reducible assumption) | assumption)
                    have q8 : x5_1 < (a0.size : Int) := of_decide_eq_true (by first | (with_reducible assumption) | assumption)
                    have hx8 := bt_at a0 x5_1
                    replace p8 := eq_true p8
                    replace q8 := eq_true q8
                    have p10 : 0 ≤ (x5_1 : Int) := of_decide_eq_true (by first | (with_reducible assumption) | assumption)
                    have q10 : x5_1 < (a1.size : Int) := of_decide_eq_true (by first | (with_reducible assumption) | assumption)
                    have hx10 := bt_at a1 x5_1
                    replace p10 := eq_true p10
                    replace q10 := eq_true q10
                    go_wp2
                    repeat (go_quiet (fail); try go_wp2)
                    go_ret
                    exact ⟨by first | rfl | (simp; done) | (simp [*]; done), by repeat (first | exact Drawn0.refl _ | apply Drawn0.step)⟩
                  · rw [if_neg c11] at H
                    have c11b0 : decide ((bt a0 x5_1) < (bt a1 x5_1)) = false := decide_eq_false c11
                    clear c11
                    by_cases c14 : (bt a0 x5_1) > (bt a1 x5_1)
                    · rw [if_pos c14] at H
                      have c14b0 : decide ((bt a1 x5_1) < (bt a0 x5_1)) = true := decide_eq_true c14
                      clear c14
                      obtain rfl := Option.some.inj H
                      have p8 : 0 ≤ (x5_1 : Int) := of_decide_eq_true (by first | (with_reducible assumption) | assumption)
                      have q8 : x5_1 < (a0.size : Int) := of_decide_eq_true (by first | (with_reducible assumption) | assumption)
                      have hx8 := bt_at a0 x5_1
                      replace p8 := eq_true p8
                      replace q8 := eq_true q8
                      have p10 : 0 ≤ (x5_1 : Int) := of_decide_eq_true (by first | (with_reducible assumption) | assumption)
                      have q10 : x5_1 < (a1.size : Int) := of_decide_eq_true (by first | (with_reducible assumption) | assumption)
                      have hx10 := bt_at a1 x5_1
                      replace p10 := eq_true p10
                      replace q10 := eq_true q10
                      have p12 : 0 ≤ (x5_1 : Int) := of_decide_eq_true (by first | (with_reducible assumption) | assumption)
                      have q12 : x5_1 < (a0.size : Int) := of_decide_eq_true (by first | (with_reducible assumption) | assumption)
                      have hx12 := bt_at a0 x5_1
                      replace p12 := eq_true p12
                      replace q12 := eq_true q12
                      have p13 : 0 ≤ (x5_1 : Int) := of_decide_eq_true (by first | (with_reducible assumption) | assumption)
                      have q13 : x5_1 < (a1.size : Int) := of_decide_eq_true (by first | (with_reducible assumption) | assumption)
                      have hx13 := bt_at a1 x5_1
                      replace p13 := eq_true p13
                      replace q13 := eq_true q13
                      go_wp2
                      repeat (go_quiet (fail); try go_wp2)
                      go_ret
                      exact ⟨by first | rfl | (simp; done) | (simp [*]; done), by repeat (first | exact Drawn0.refl _ | apply Drawn0.step)⟩
                    · rw [if_neg c14] at H
                      have c14b0 : decide ((bt a1 x5_1) < (bt a0 x5_1)) = false := decide_eq_false c14
                      clear c14
                      have H' := Aside0.mk H
                      clear H
                      have p8 : 0 ≤ (x5_1 : Int) := of_decide_eq_true (by first | (with_reducible assumption) | assumption)
                      have q8 : x5_1 < (a0.size : Int) := of_decide_eq_true (by first | (with_reducible assumption) | assumption)
                      have hx8 := bt_at a0 x5_1
                      replace p8 := eq_true p8
                      replace q8 := eq_true q8
                      have p10 : 0 ≤ (x5_1 : Int) := of_decide_eq_true (by first | (with_reducible assumption) | assumption)
                      have q10 : x5_1 < (a1.size : Int) := of_decide_eq_true (by first | (with_reducible assumption) | assumption)
                      have hx10 := bt_at a1 x5_1
                      replace p10 := eq_true p10
                      replace q10 := eq_true q10
                      have p12 : 0 ≤ (x5_1 : Int) := of_decide_eq_true (by first | (with_reducible assumption) | assumption)
                      have q12 : x5_1 < (a0.size : Int) := of_decide_eq_true (by first | (with_reducible assumption) | assumption)
                      have hx12 := bt_at a0 x5_1
                      replace p12 := eq_true p12
                      replace q12 := eq_true q12
                      have p13 : 0 ≤ (x5_1 : Int) := of_decide_eq_true (by first | (with_reducible assumption) | assumption)
                      have q13 : x5_1 < (a1.size : Int) := of_decide_eq_true (by first | (with_reducible assumption) | assumption)
                      have hx13 := bt_at a1 x5_1
                      replace p13 := eq_true p13
                      replace q13 := eq_true q13
                      go_wp2
                      repeat (go_quiet (fail); try go_wp2)
                      go_roundg kj2
                      case measure => have := HK1.out; have := HJ2.out; omega
                      case rel => exact ⟨(wrap64 (x5_1 + 1)), (by first | rfl | (simp; done) | (simp [*]; done) | (generalize ByteArray.toList _ = q_; cases q_ <;> rfl)), H', ⟨by have := HK1.out; have := HJ2.out; omega⟩, by repeat (first | exact Drawn0.refl _ | apply Drawn0.step)⟩
                · rw [if_neg c9] at H
                  exact absurd H (by simp)
              · rw [if_neg c7] at H
                exact absurd H (by simp)
            · rw [if_neg c6] at H
              exact absurd H (by simp)
          · replace c5 := Bool.eq_false_iff.mpr c5
            subst c5
            have H1 : (if (a0.size : Int) < (a1.size : Int) then (some (-1)) else (if (a0.size : Int) > (a1.size : Int) then (some 1) else (some 0))) = some r := by rw [if_neg (show ¬ (false = true) by decide)] at H; exact H
            clear H
            have H := H1
            clear H1
            by_cases c15 : (a0.size : Int) < (a1.size : Int)
            · rw [if_pos c15] at H
              have c15b0 : decide ((a0.size : Int) < (a1.size : Int)) = true := decide_eq_true c15
              have c15b1 : decide (a0.size < a1.size) = true := decide_eq_true (Int.ofNat_lt.mp c15)
              clear c15
              obtain rfl := Option.some.inj H
              go_wp2
              repeat (go_quiet (fail); try go_wp2)
              go_ret
              exact ⟨by first | rfl | (simp; done) | (simp [*]; done), by repeat (first | exact Drawn0.refl _ | apply Drawn0.step)⟩
            · rw [if_neg c15] at H
              have c15b0 : decide ((a0.size : Int) < (a1.size : Int)) = false := decide_eq_false c15
              have c15b1 : decide (a0.size < a1.size) = false := decide_eq_false (fun h => c15 (Int.ofNat_lt.mpr h))
              clear c15
              by_cases c16 : (a0.size : Int) > (a1.size : Int)
              · rw [if_pos c16] at H
                have c16b0 : decide ((a1.size : Int) < (a0.size : Int)) = true := decide_eq_true c16
                have c16b1 : decide (a1.size < a0.size) = true := decide_eq_true (Int.ofNat_lt.mp c16)
                clear c16
                obtain rfl := Option.some.inj H
                go_wp2
                repeat (go_quiet (fail); try go_wp2)
                go_ret
                exact ⟨by first | rfl | (simp; done) | (simp [*]; done), by repeat (first | exact Drawn0.refl _ | apply Drawn0.step)⟩
              · rw [if_neg c16] at H
                have c16b0 : decide ((a1.size : Int) < (a0.size : Int)) = false := decide_eq_false c16
                have c16b1 : decide (a1.size < a0.size) = false := decide_eq_false (fun h => c16 (Int.ofNat_lt.mpr h))
                clear c16
                obtain rfl := Option.some.inj H
                go_wp2
                repeat (go_quiet (fail); try go_wp2)
                go_ret
                exact ⟨by first | rfl | (simp; done) | (simp [*]; done), by repeat (first | exact Drawn0.refl _ | apply Drawn0.step)⟩

/-! ### commonholdref_bytesLess: function 62 -/
def commonholdref_bytesLess.f (k : Nat) (l0 : List Int) (l1 : List Int) : Option (Bool) := (commonholdref_textOrder.f k (strOfNums l0) (strOfNums l1)).bind fun t131 => (some (decide (t131 < 0)))
theorem commonholdref_bytesLess.mono : ∀ a0 a1 k, LeO (commonholdref_bytesLess.f k a0 a1) (commonholdref_bytesLess.f (k + 1) a0 a1) := by
  intro a0 a1 k
  unfold commonholdref_bytesLess.f
  repeat' first
      | (with_reducible exact commonholdref_textOrder.mono _ _ _)
      | (with_reducible exact LeO.refl _)
      | (with_reducible exact LeO.none _)
      | (with_reducible refine LeO.ite ?_ ?_)
      | (with_reducible refine LeO.bind ?_ (fun _ => ?_))
      | exact commonholdref_textOrder.mono _ _ _
      | exact LeO.none _
      | refine LeO.ite ?_ ?_
      | refine LeO.bind ?_ (fun _ => ?_)
set_option maxHeartbeats 8000000 in
set_option maxRecDepth 100000 in
theorem commonholdref_bytesLess.calls (k : Nat) (A0 : Option Addr) (c0 : Nat) (l0 : List Int) (A1 : Option Addr) (c1 : Nat) (l1 : List Int) (r : Bool) (w : World) (hr0 : Kd.C (Kd.int .u8) w A0 l0.length l0) (hc0 : l0.length ≤ c0) (hr1 : Kd.C (Kd.int .u8) w A1 l1.length l1) (hc1 : l1.length ≤ c1) (h : commonholdref_bytesLess.f k l0 l1 = some r) :
    Calls Try.prog 62 #[.slice A0 l0.length c0, .slice A1 l1.length c1] w fun e w' => e = .returned (.bool r) ∧ Drawn0 w w' := by
  have HR0 := Aside0.mk hr0
  have HC0 := Aside0.mk hc0
  clear hr0 hc0
  have HR1 := Aside0.mk hr1
  have HC1 := Aside0.mk hc1
  clear hr1 hc1
  have H : ((commonholdref_textOrder.f k (strOfNums l0) (strOfNums l1)).bind fun t131 => (some (decide (t131 < 0)))) = some r := h
  clear h
  replace H := Option.bind_eq_some_iff.mp H
  obtain ⟨t131, A30, H⟩ := H
  replace H : (some (decide (t131 < 0))) = some r := H
  have A3 := Aside0.mk A30
  clear A30
  obtain rfl := Option.some.inj H
  have hcv4 := Kd.C_string (P := Try.prog) (A := A0) (c := c0) Try.underlying26 Try.underlying5 Try.underlying9 HR0.out
  have hcv5 := Kd.C_string (P := Try.prog) (A := A1) (c := c1) Try.underlying26 Try.underlying5 Try.underlying9 HR1.out
  go_enter Try.func62, Try.ntmps62
  go_wp2_with (first | ((with_reducible refine gate_callee (f := 103) rfl ?_); refine goesL_ (some 9) rfl rfl Try.func103 (by kernel_rfl) rfl #[.string (strOfNums l0), .string (strOfNums l1)] rfl (by (try simp only [List.map_toArray, List.map_cons, List.map_nil]); first | done | rfl | (simp only [List.length_drop, List.length_take]; rfl)) ?_; (with_reducible refine (commonholdref_textOrder.calls k (strOfNums l0) (strOfNums l1) t131 _ A3.out).mono ?_); rintro e w' ⟨rfl, ⟨nd, rfl⟩⟩; refine ⟨_, rfl, ?_⟩))
  go_ret
  exact ⟨by first | rfl | (simp; done) | (simp [*]; done), by repeat (first | exact Drawn0.refl _ | apply Drawn0.step)⟩

/-! ### commonholdref_doneAhead: function 63 -/
def commonholdref_doneAhead.f (a0_0 : Int) (a0_1 : Int) (a0_2 : Int) (a0_3 : Bool) (a1_0 : Int) (a1_1 : Int) (a1_2 : Int) (a1_3 : Bool) : Option (Bool) := if a0_0 < a1_0 then (some true) else (if a0_0 = a1_0 then (some (decide (a0_1 < a1_1))) else (some false))
set_option maxHeartbeats 8000000 in
set_option maxRecDepth 100000 in
theorem commonholdref_doneAhead.calls (a0_0 : Int) (a0_1 : Int) (a0_2 : Int) (a0_3 : Bool) (a1_0 : Int) (a1_1 : Int) (a1_2 : Int) (a1_3 : Bool) (r : Bool) (w : World) (h : commonholdref_doneAhead.f a0_0 a0_1 a0_2 a0_3 a1_0 a1_1 a1_2 a1_3 = some r) :
    Calls Try.prog 63 #[.agg #[.int .i64 a0_0, .int .i64 a0_1, .int .i64 a0_2, .bool a0_3], .agg #[.int .i64 a1_0, .int .i64 a1_1, .int .i64 a1_2, .bool a1_3]] w fun e w' => e = .returned (.bool r) ∧ Below w.heap.size w w' := by
  have hu102 := Try.underlying102
  have HB := Aside0.mk (Below.refl w.heap.size w)
  have H : (if a0_0 < a1_0 then (some true) else (if a0_0 = a1_0 then (some (decide (a0_1 < a1_1))) else (some false))) = some r := h
  clear h
  by_cases c3 : a0_0 < a1_0
  · rw [if_pos c3] at H
    have c3b0 : decide (a0_0 < a1_0) = true := decide_eq_true c3
    clear c3
    obtain rfl := Option.some.inj H
    go_enter Try.func63, Try.ntmps63
    go_wp2_with (first | ((with_reducible refine gate_dst (N := 2) rfl ?_); refine box_event ?hg (N := 2) ?hd (cs := #[.int .i64 a0_0, .int .i64 a0_1, .int .i64 a0_2, .bool a0_3]) (t := 102) ?hr ?_; (case hd => rfl); (case hg => rfl); (case hr => first | (go_simp; done) | (go_simp; rfl)); intro gb132 hg w4 hbox hb; have n0_ := Aside0.mk (below_step (by repeat (first | (with_reducible first | exact HB.out | apply below_alloc | apply pw_below_drewN | apply below_drew1) | exact HB.out)) hb); have n1_ := Aside0.mk (hbox); have n2_ := Aside0.mk ((by rw [hg]; exact (below_size (by repeat (first | (with_reducible first | exact HB.out | apply below_alloc | apply pw_below_drewN | apply below_drew1) | exact HB.out))) : w.heap.size ≤ gb132)); have n3_ := Aside0.mk ((by rw [hg]; exact (below_size (by repeat (first | (with_reducible first | exact HB.out | apply below_alloc | apply pw_below_drewN | apply below_drew1) | exact HB.out))) : w.heap.size ≤ gb132)); clear HB; have HB := n0_; have BK132 := n1_; have GW132 := n2_; have GE132 := n3_; clear n0_ n1_ n2_ n3_; clear hb hbox hg) | ((with_reducible refine gate_dst (N := 3) rfl ?_); refine box_event ?hg (N := 3) ?hd (cs := #[.int .i64 a1_0, .int .i64 a1_1, .int .i64 a1_2, .bool a1_3]) (t := 102) ?hr ?_; (case hd => rfl); (case hg => rfl); (case hr => first | (go_simp; done) | (go_simp; rfl)); intro gb133 hg w5 hbox hb; have n0_ := Aside0.mk (blk_below (g := gb132) (o := .cells #[.int .i64 a0_0, .int .i64 a0_1, .int .i64 a0_2, .bool a0_3] 102 (0, 0)) (by (with_reducible repeat (first | refine blk_drewN ?_ _ | refine blk_drew ?_ | refine blk_alloc ?_ _)); exact BK132.out) hb); have n1_ := Aside0.mk (below_step (by repeat (first | (with_reducible first | exact HB.out | apply below_alloc | apply pw_below_drewN | apply below_drew1 | refine below_set ?_ GE132.out) | exact HB.out)) hb); have n2_ := Aside0.mk (hbox); have n3_ := Aside0.mk ((by rw [hg]; exact (below_size (by repeat (first | (with_reducible first | exact HB.out | apply below_alloc | apply pw_below_drewN | apply below_drew1 | refine below_set ?_ GE132.out) | exact HB.out))) : w.heap.size ≤ gb133)); have n4_ := Aside0.mk ((by rw [hg]; exact (below_size (by repeat (first | (with_reducible first | exact HB.out | apply below_alloc | apply pw_below_drewN | apply below_drew1 | refine below_set ?_ GE132.out) | exact HB.out))) : w.heap.size ≤ gb133)); have n5_ := Aside0.mk ((by rw [hg]; exact Nat.ne_of_lt (blk_lt (g := gb132) (o := .cells #[.int .i64 a0_0, .int .i64 a0_1, .int .i64 a0_2, .bool a0_3] 102 (0, 0)) (by (with_reducible repeat (first | refine blk_drewN ?_ _ | refine blk_drew ?_ | refine blk_alloc ?_ _)); exact BK132.out)) : gb132 ≠ gb133)); have n6_ := Aside0.mk ((by rw [hg]; exact Nat.ne_of_gt (blk_lt (g := gb132) (o := .cells #[.int .i64 a0_0, .int .i64 a0_1, .int .i64 a0_2, .bool a0_3] 102 (0, 0)) (by (with_reducible repeat (first | refine blk_drewN ?_ _ | refine blk_drew ?_ | refine blk_alloc ?_ _)); exact BK132.out)) : gb133 ≠ gb132)); clear BK132; clear HB; have BK132 := n0_; have HB := n1_; have BK133 := n2_; have GW133 := n3_; have GE133 := n4_; have NB132_133 := n5_; have NB133_132 := n6_; clear n0_ n1_ n2_ n3_ n4_ n5_ n6_; clear hb hbox hg; have hnb6 := NB132_133.out; have hnc6 := NB133_132.out; have hcz7_0 : w5.cell? ⟨gb132, 0, none⟩ = some (.int .i64 a0_0) := (blk_cell BK132.out 0).trans rfl; have hcz7_1 : w5.cell? ⟨gb132, 1, none⟩ = some (.int .i64 a0_1) := (blk_cell BK132.out 1).trans rfl; have hcz7_2 : w5.cell? ⟨gb132, 2, none⟩ = some (.int .i64 a0_2) := (blk_cell BK132.out 2).trans rfl; have hcz7_3 : w5.cell? ⟨gb132, 3, none⟩ = some (.bool a0_3) := (blk_cell BK132.out 3).trans rfl; have hfz7_0 := blk_frozen BK132.out 0; have hfz7_1 := blk_frozen BK132.out 1; have hfz7_2 := blk_frozen BK132.out 2; have hfz7_3 := blk_frozen BK132.out 3; have hcz8_0 : w5.cell? ⟨gb133, 0, none⟩ = some (.int .i64 a1_0) := (blk_cell BK133.out 0).trans rfl; have hcz8_1 : w5.cell? ⟨gb133, 1, none⟩ = some (.int .i64 a1_1) := (blk_cell BK133.out 1).trans rfl; have hcz8_2 : w5.cell? ⟨gb133, 2, none⟩ = some (.int .i64 a1_2) := (blk_cell BK133.out 2).trans rfl; have hcz8_3 : w5.cell? ⟨gb133, 3, none⟩ = some (.bool a1_3) := (blk_cell BK133.out 3).trans rfl; have hfz8_0 := blk_frozen BK133.out 0; have hfz8_1 := blk_frozen BK133.out 1; have hfz8_2 := blk_frozen BK133.out 2; have hfz8_3 := blk_frozen BK133.out 3))
    go_ret
    exact ⟨by first | rfl | (simp [errW_none, errW_some] <;> rfl) | (simp [*, errW_none, errW_some] <;> rfl), by repeat (first | (with_reducible first | exact HB.out | apply below_alloc | apply pw_below_drewN | apply below_drew1 | refine below_set ?_ GE132.out | refine below_set ?_ GE133.out) | exact HB.out)⟩
  · rw [if_neg c3] at H
    have c3b0 : decide (a0_0 < a1_0) = false := decide_eq_false c3
    clear c3
    by_cases c9 : a0_0 = a1_0
    · rw [if_pos c9] at H
      have c9b0 : (a0_0 == a1_0) = true := beq_iff_eq.mpr c9
      have c9b1 : (a0_0 != a1_0) = false := bne_eq_false_iff_eq.mpr c9
      clear c9
      obtain rfl := Option.some.inj H
      go_enter Try.func63, Try.ntmps63
      go_wp2_with (first | ((with_reducible refine gate_dst (N := 2) rfl ?_); refine box_event ?hg (N := 2) ?hd (cs := #[.int .i64 a0_0, .int .i64 a0_1, .int .i64 a0_2, .bool a0_3]) (t := 102) ?hr ?_; (case hd => rfl); (case hg => rfl); (case hr => first | (go_simp; done) | (go_simp; rfl)); intro gb132 hg w10 hbox hb; have n0_ := Aside0.mk (below_step (by repeat (first | (with_reducible first | exact HB.out | apply below_alloc | apply pw_below_drewN | apply below_drew1) | exact HB.out)) hb); have n1_ := Aside0.mk (hbox); have n2_ := Aside0.mk ((by rw [hg]; exact (below_size (by repeat (first | (with_reducible first | exact HB.out | apply below_alloc | apply pw_below_drewN | apply below_drew1) | exact HB.out))) : w.heap.size ≤ gb132)); have n3_ := Aside0.mk ((by rw [hg]; exact (below_size (by repeat (first | (with_reducible first | exact HB.out | apply below_alloc | apply pw_below_drewN | apply below_drew1) | exact HB.out))) : w.heap.size ≤ gb132)); clear HB; have HB := n0_; have BK132 := n1_; have GW132 := n2_; have GE132 := n3_; clear n0_ n1_ n2_ n3_; clear hb hbox hg) | ((with_reducible refine gate_dst (N := 3) rfl ?_); refine box_event ?hg (N := 3) ?hd (cs := #[.int .i64 a1_0, .int .i64 a1_1, .int .i64 a1_2, .bool a1_3]) (t := 102) ?hr ?_; (case hd => rfl); (case hg => rfl); (case hr => first | (go_simp; done) | (go_simp; rfl)); intro gb133 hg w11 hbox hb; have n0_ := Aside0.mk (blk_below (g := gb132) (o := .cells #[.int .i64 a0_0, .int .i64 a0_1, .int .i64 a0_2, .bool a0_3] 102 (0, 0)) (by (with_reducible repeat (first | refine blk_drewN ?_ _ | refine blk_drew ?_ | refine blk_alloc ?_ _)); exact BK132.out) hb); have n1_ := Aside0.mk (below_step (by repeat (first | (with_reducible first | exact HB.out | apply below_alloc | apply pw_below_drewN | apply below_drew1 | refine below_set ?_ GE132.out) | exact HB.out)) hb); have n2_ := Aside0.mk (hbox); have n3_ := Aside0.mk ((by rw [hg]; exact (below_size (by repeat (first | (with_reducible first | exact HB.out | apply below_alloc | apply pw_below_drewN | apply below_drew1 | refine below_set ?_ GE132.out) | exact HB.out))) : w.heap.size ≤ gb133)); have n4_ := Aside0.mk ((by rw [hg]; exact (below_size (by repeat (first | (with_reducible first | exact HB.out | apply below_alloc | apply pw_below_drewN | apply below_drew1 | refine below_set ?_ GE132.out) | exact HB.out))) : w.heap.size ≤ gb133)); have n5_ := Aside0.mk ((by rw [hg]; exact Nat.ne_of_lt (blk_lt (g := gb132) (o := .cells #[.int .i64 a0_0, .int .i64 a0_1, .int .i64 a0_2, .bool a0_3] 102 (0, 0)) (by (with_reducible repeat (first | refine blk_drewN ?_ _ | refine blk_drew ?_ | refine blk_alloc ?_ _)); exact BK132.out)) : gb132 ≠ gb133)); have n6_ := Aside0.mk ((by rw [hg]; exact Nat.ne_of_gt (blk_lt (g := gb132) (o := .cells #[.int .i64 a0_0, .int .i64 a0_1, .int .i64 a0_2, .bool a0_3] 102 (0, 0)) (by (with_reducible repeat (first | refine blk_drewN ?_ _ | refine blk_drew ?_ | refine blk_alloc ?_ _)); exact BK132.out)) : gb133 ≠ gb132)); clear BK132; clear HB; have BK132 := n0_; have HB := n1_; have BK133 := n2_; have GW133 := n3_; have GE133 := n4_; have NB132_133 := n5_; have NB133_132 := n6_; clear n0_ n1_ n2_ n3_ n4_ n5_ n6_; clear hb hbox hg; have hnb12 := NB132_133.out; have hnc12 := NB133_132.out; have hcz13_0 : w11.cell? ⟨gb132, 0, none⟩ = some (.int .i64 a0_0) := (blk_cell BK132.out 0).trans rfl; have hcz13_1 : w11.cell? ⟨gb132, 1, none⟩ = some (.int .i64 a0_1) := (blk_cell BK132.out 1).trans rfl; have hcz13_2 : w11.cell? ⟨gb132, 2, none⟩ = some (.int .i64 a0_2) := (blk_cell BK132.out 2).trans rfl; have hcz13_3 : w11.cell? ⟨gb132, 3, none⟩ = some (.bool a0_3) := (blk_cell BK132.out 3).trans rfl; have hfz13_0 := blk_frozen BK132.out 0; have hfz13_1 := blk_frozen BK132.out 1; have hfz13_2 := blk_frozen BK132.out 2; have hfz13_3 := blk_frozen BK132.out 3; have hcz14_0 : w11.cell? ⟨gb133, 0, none⟩ = some (.int .i64 a1_0) := (blk_cell BK133.out 0).trans rfl; have hcz14_1 : w11.cell? ⟨gb133, 1, none⟩ = some (.int .i64 a1_1) := (blk_cell BK133.out 1).trans rfl; have hcz14_2 : w11.cell? ⟨gb133, 2, none⟩ = some (.int .i64 a1_2) := (blk_cell BK133.out 2).trans rfl; have hcz14_3 : w11.cell? ⟨gb133, 3, none⟩ = some (.bool a1_3) := (blk_cell BK133.out 3).trans rfl; have hfz14_0 := blk_frozen BK133.out 0; have hfz14_1 := blk_frozen BK133.out 1; have hfz14_2 := blk_frozen BK133.out 2; have hfz14_3 := blk_frozen BK133.out 3))
      go_ret
      exact ⟨by first | rfl | (simp [errW_none, errW_some] <;> rfl) | (simp [*, errW_none, errW_some] <;> rfl), by repeat (first | (with_reducible first | exact HB.out | apply below_alloc | apply pw_below_drewN | apply below_drew1 | refine below_set ?_ GE132.out | refine below_set ?_ GE133.out) | exact HB.out)⟩
    · rw [if_neg c9] at H
      have c9b0 : (a0_0 == a1_0) = false := beq_eq_false_iff_ne.mpr c9
      have c9b1 : (a0_0 != a1_0) = true := bne_iff_ne.mpr c9
      obtain rfl := Option.some.inj H
      go_enter Try.func63, Try.ntmps63
      go_wp2_with (first | ((with_reducible refine gate_dst (N := 2) rfl ?_); refine box_event ?hg (N := 2) ?hd (cs := #[.int .i64 a0_0, .int .i64 a0_1, .int .i64 a0_2, .bool a0_3]) (t := 102) ?hr ?_; (case hd => rfl); (case hg => rfl); (case hr => first | (go_simp; done) | (go_simp; rfl)); intro gb132 hg w15 hbox hb; have n0_ := Aside0.mk (below_step (by repeat (first | (with_reducible first | exact HB.out | apply below_alloc | apply pw_below_drewN | apply below_drew1) | exact HB.out)) hb); have n1_ := Aside0.mk (hbox); have n2_ := Aside0.mk ((by rw [hg]; exact (below_size (by repeat (first | (with_reducible first | exact HB.out | apply below_alloc | apply pw_below_drewN | apply below_drew1) | exact HB.out))) : w.heap.size ≤ gb132)); have n3_ := Aside0.mk ((by rw [hg]; exact (below_size (by repeat (first | (with_reducible first | exact HB.out | apply below_alloc | apply pw_below_drewN | apply below_drew1) | exact HB.out))) : w.heap.size ≤ gb132)); clear HB; have HB := n0_; have BK132 := n1_; have GW132 := n2_; have GE132 := n3_; clear n0_ n1_ n2_ n3_; clear hb hbox hg) | ((with_reducible refine gate_dst (N := 3) rfl ?_); refine box_event ?hg (N := 3) ?hd (cs := #[.int .i64 a1_0, .int .i64 a1_1, .int .i64 a1_2, .bool a1_3]) (t := 102) ?hr ?_; (case hd => rfl); (case hg => rfl); (case hr => first | (go_simp; done) | (go_simp; rfl)); intro gb133 hg w16 hbox hb; have n0_ := Aside0.mk (blk_below (g := gb132) (o := .cells #[.int .i64 a0_0, .int .i64 a0_1, .int .i64 a0_2, .bool a0_3] 102 (0, 0)) (by (with_reducible repeat (first | refine blk_drewN ?_ _ | refine blk_drew ?_ | refine blk_alloc ?_ _)); exact BK132.out) hb); have n1_ := Aside0.mk (below_step (by repeat (first | (with_reducible first | exact HB.out | apply below_alloc | apply pw_below_drewN | apply below_drew1 | refine below_set ?_ GE132.out) | exact HB.out)) hb); have n2_ := Aside0.mk (hbox); have n3_ := Aside0.mk ((by rw [hg]; exact (below_size (by repeat (first | (with_reducible first | exact HB.out | apply below_alloc | apply pw_below_drewN | apply below_drew1 | refine below_set ?_ GE132.out) | exact HB.out))) : w.heap.size ≤ gb133)); have n4_ := Aside0.mk ((by rw [hg]; exact (below_size (by repeat (first | (with_reducible first | exact HB.out | apply below_alloc | apply pw_below_drewN | apply below_drew1 | refine below_set ?_ GE132.out) | exact HB.out))) : w.heap.size ≤ gb133)); have n5_ := Aside0.mk ((by rw [hg]; exact Nat.ne_of_lt (blk_lt (g := gb132) (o := .cells #[.int .i64 a0_0, .int .i64 a0_1, .int .i64 a0_2, .bool a0_3] 102 (0, 0)) (by (with_reducible repeat (first | refine blk_drewN ?_ _ | refine blk_drew ?_ | refine blk_alloc ?_ _)); exact BK132.out)) : gb132 ≠ gb133)); have n6_ := Aside0.mk ((by rw [hg]; exact Nat.ne_of_gt (blk_lt (g := gb132) (o := .cells #[.int .i64 a0_0, .int .i64 a0_1, .int .i64 a0_2, .bool a0_3] 102 (0, 0)) (by (with_reducible repeat (first | refine blk_drewN ?_ _ | refine blk_drew ?_ | refine blk_alloc ?_ _)); exact BK132.out)) : gb133 ≠ gb132)); clear BK132; clear HB; have BK132 := n0_; have HB := n1_; have BK133 := n2_; have GW133 := n3_; have GE133 := n4_; have NB132_133 := n5_; have NB133_132 := n6_; clear n0_ n1_ n2_ n3_ n4_ n5_ n6_; clear hb hbox hg; have hnb17 := NB132_133.out; have hnc17 := NB133_132.out; have hcz18_0 : w16.cell? ⟨gb132, 0, none⟩ = some (.int .i64 a0_0) := (blk_cell BK132.out 0).trans rfl; have hcz18_1 : w16.cell? ⟨gb132, 1, none⟩ = some (.int .i64 a0_1) := (blk_cell BK132.out 1).trans rfl; have hcz18_2 : w16.cell? ⟨gb132, 2, none⟩ = some (.int .i64 a0_2) := (blk_cell BK132.out 2).trans rfl; have hcz18_3 : w16.cell? ⟨gb132, 3, none⟩ = some (.bool a0_3) := (blk_cell BK132.out 3).trans rfl; have hfz18_0 := blk_frozen BK132.out 0; have hfz18_1 := blk_frozen BK132.out 1; have hfz18_2 := blk_frozen BK132.out 2; have hfz18_3 := blk_frozen BK132.out 3; have hcz19_0 : w16.cell? ⟨gb133, 0, none⟩ = some (.int .i64 a1_0) := (blk_cell BK133.out 0).trans rfl; have hcz19_1 : w16.cell? ⟨gb133, 1, none⟩ = some (.int .i64 a1_1) := (blk_cell BK133.out 1).trans rfl; have hcz19_2 : w16.cell? ⟨gb133, 2, none⟩ = some (.int .i64 a1_2) := (blk_cell BK133.out 2).trans rfl; have hcz19_3 : w16.cell? ⟨gb133, 3, none⟩ = some (.bool a1_3) := (blk_cell BK133.out 3).trans rfl; have hfz19_0 := blk_frozen BK133.out 0; have hfz19_1 := blk_frozen BK133.out 1; have hfz19_2 := blk_frozen BK133.out 2; have hfz19_3 := blk_frozen BK133.out 3))
      go_ret
      exact ⟨by first | rfl | (simp [errW_none, errW_some] <;> rfl) | (simp [*, errW_none, errW_some] <;> rfl), by repeat (first | (with_reducible first | exact HB.out | apply below_alloc | apply pw_below_drewN | apply below_drew1 | refine below_set ?_ GE132.out | refine below_set ?_ GE133.out) | exact HB.out)⟩

end Go.Proofs.Ytdepkigheacdnab.PMeldSaves
