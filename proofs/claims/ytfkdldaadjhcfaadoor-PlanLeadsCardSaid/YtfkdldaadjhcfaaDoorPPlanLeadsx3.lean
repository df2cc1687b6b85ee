-- Written by wip/pp of this repo (over the kit's print, with additions of this session); Lean checks every line.
import Derived.Test.YtfkdldaadjhcfaaDoorPPlanLeadsx0
import Derived.Test.YtfkdldaadjhcfaaDoorPPlanLeadsx2
namespace Go.Proofs.YtfkdldaadjhcfaaDoor.PPlanLeads
open Go.RowKit Go.Proofs.YtfkdldaadjhcfaaDoorW.PrintWords Go.Proofs.YtfkdldaadjhcfaaDoorW.PrintLast Go.Proofs.YtfkdldaadjhcfaaDoorW.PrintMore
attribute [local go_sem] max2_int min2_int max_two min_two max_three min_three max_four min_four   -- for this text's walks alone
set_option linter.unusedVariables false
set_option linter.unusedSimpArgs false

/-! ### plan_simple: function 23, by hand -/
-- HAND rounds=1 making=1 laid=1 imports=Derived.Deep.QuietTactic,Derived.Deep.DeepCutAuto,Derived.Lib.LaidTab
-- INFO 59
def plan_simple.zeroV (v : S39) : Prop := v.f0 = 0 ∧ v.f1 = 0 ∧ v.f2.toList = []
instance (v : S39) : Decidable (plan_simple.zeroV v) := by unfold plan_simple.zeroV; infer_instance
def plan_simple.set (op : Int) : Prop := op = 13 ∨ op = 15 ∨ op = 16 ∨ op = 17 ∨ op = 18
instance (op : Int) : Decidable (plan_simple.set op) := by unfold plan_simple.set; infer_instance
def plan_simple.turn (op : Int) : Int := if op = 15 then 17 else if op = 17 then 15 else if op = 16 then 18 else if op = 18 then 16 else op
def plan_simple.fine (k : Nat) (p c : S41) : Option Bool :=
  if p.f0 ≠ 3 then some false else (plan_plain.f p.f0 p.f1.f0 p.f1.f1 p.f1.f2 p.f2 p.f3 p.f4 p.f5).bind fun b1 => if b1 = false then some false else if p.f4 < 0 then some false else if ¬ plan_simple.zeroV p.f1 then some false else if c.f0 ≠ 1 then some false else
    (plan_plain.f c.f0 c.f1.f0 c.f1.f1 c.f1.f2 c.f2 c.f3 c.f4 c.f5).bind fun b2 => if b2 = false then some false else if c.f4 ≠ 0 then some false else if c.f1.f0 = 0 then some false else (value_Check.f k c.f1.f0 c.f1.f1 c.f1.f2).bind fun r => some (r == 0)
def plan_simple.f (k : Nat) (a0_0 a0_1 a0_2 : Int) (a0_3 a0_4 a0_5 : ByteArray) (a0_6 : Int) (l0_7 : List S41) : Option (Int × Int × Int × Int × ByteArray × Bool) :=
  if plan_simple.set a0_0 ∧ l0_7.length = 2 then
    if 9223372036854775807 < a0_4.size + a0_5.size then none else
    if a0_1 = 0 ∧ a0_2 = 0 ∧ a0_3.toList = [] ∧ (a0_4 ++ a0_5).toList = [] ∧ a0_6 = 0 then
      let sw := decide ((rd_T41 l0_7 0).f0 = 1)
      let p := if sw = true then rd_T41 l0_7 1 else rd_T41 l0_7 0
      let c := if sw = true then rd_T41 l0_7 0 else rd_T41 l0_7 1
      (plan_simple.fine k p c).bind fun b => some (p.f4, if sw = true then plan_simple.turn a0_0 else a0_0, c.f1.f0, c.f1.f1, c.f1.f2, b)
    else some (0, 0, 0, 0, ByteArray.empty, false)
  else some (0, 0, 0, 0, ByteArray.empty, false)
theorem plan_simple.mono_fine (k : Nat) (p c : S41) : LeO (plan_simple.fine k p c) (plan_simple.fine (k + 1) p c) := by
  unfold plan_simple.fine
  refine LeO.ite (LeO.refl _) (LeO.bind (LeO.refl _) fun b1 => LeO.ite (LeO.refl _) (LeO.ite (LeO.refl _) (LeO.ite (LeO.refl _) (LeO.ite (LeO.refl _) (LeO.bind (LeO.refl _) fun b2 => LeO.ite (LeO.refl _) (LeO.ite (LeO.refl _) (LeO.ite (LeO.refl _) (LeO.bind (value_Check.mono _ _ _ k) fun _ => LeO.refl _))))))))
theorem plan_simple.mono : ∀ a0 a1 a2 a3 a4 a5 a6 a7 k, LeO (plan_simple.f k a0 a1 a2 a3 a4 a5 a6 a7) (plan_simple.f (k + 1) a0 a1 a2 a3 a4 a5 a6 a7) := by
  intro a0 a1 a2 a3 a4 a5 a6 a7 k
  unfold plan_simple.f
  exact LeO.ite (LeO.ite (LeO.refl _) (LeO.ite (LeO.bind (plan_simple.mono_fine k _ _) fun _ => LeO.refl _) (LeO.refl _))) (LeO.refl _)
theorem plan_simple.at_alloc1 (w : World) (o1 : Obj) : (w.alloc o1).heap[w.heap.size]? = some o1 := by
  have h : (w.heap.push o1)[w.heap.size]? = some o1 := by simp
  exact h
theorem plan_simple.at_old (w : World) (o : Obj) (j : Nat) (hj : j < w.heap.size) : (w.alloc o).heap[j]? = w.heap[j]? := by
  have h : (w.heap.push o)[j]? = w.heap[j]? := by
    rw [Array.getElem?_push, if_neg (by omega)]
  exact h
theorem plan_simple.at_alloc2 (w : World) (o1 o2 : Obj) : ((w.alloc o1).alloc o2).heap[w.heap.size + 1]? = some o2 := by
  have h := plan_simple.at_alloc1 (w.alloc o1) o2
  rwa [show (w.alloc o1).heap.size = w.heap.size + 1 from by simp] at h
theorem plan_simple.at_two (w : World) (o1 o2 : Obj) : ((w.alloc o1).alloc o2).heap[w.heap.size]? = some o1 := (plan_simple.at_old _ _ _ (by simp)).trans (plan_simple.at_alloc1 _ _)
theorem plan_simple.put8 {w : World} {g : Nat} {t : TypeId} {a0 a1 a2 a3 a4 a5 a6 a7 : Value} (h : w.heap[g]? = some (.cells #[a0, a1, a2, a3, a4, a5, a6, a7] t (0, 0))) (b0 b1 b2 b3 b4 b5 b6 b7 : Value) :
    ((((((((w.setCell ⟨g, 0, none⟩ b0).setCell ⟨g, 1, none⟩ b1).setCell ⟨g, 2, none⟩ b2).setCell ⟨g, 3, none⟩ b3).setCell ⟨g, 4, none⟩ b4).setCell ⟨g, 5, none⟩ b5).setCell ⟨g, 6, none⟩ b6).setCell ⟨g, 7, none⟩ b7).heap[g]? = some (.cells #[b0, b1, b2, b3, b4, b5, b6, b7] t (0, 0)) := by
  have h0 := blk_put h 0 b0 (cs' := #[b0, a1, a2, a3, a4, a5, a6, a7]) rfl
  have h1 := blk_put h0 1 b1 (cs' := #[b0, b1, a2, a3, a4, a5, a6, a7]) rfl
  have h2 := blk_put h1 2 b2 (cs' := #[b0, b1, b2, a3, a4, a5, a6, a7]) rfl
  have h3 := blk_put h2 3 b3 (cs' := #[b0, b1, b2, b3, a4, a5, a6, a7]) rfl
  have h4 := blk_put h3 4 b4 (cs' := #[b0, b1, b2, b3, b4, a5, a6, a7]) rfl
  have h5 := blk_put h4 5 b5 (cs' := #[b0, b1, b2, b3, b4, b5, a6, a7]) rfl
  have h6 := blk_put h5 6 b6 (cs' := #[b0, b1, b2, b3, b4, b5, b6, a7]) rfl
  have h7 := blk_put h6 7 b7 (cs' := #[b0, b1, b2, b3, b4, b5, b6, b7]) rfl
  exact h7
theorem plan_simple.far8 {w : World} {g f : Nat} {t : TypeId} {cs : Array Value} (h : w.heap[f]? = some (.cells cs t (0, 0))) (hn : f ≠ g) (b0 b1 b2 b3 b4 b5 b6 b7 : Value) :
    ((((((((w.setCell ⟨g, 0, none⟩ b0).setCell ⟨g, 1, none⟩ b1).setCell ⟨g, 2, none⟩ b2).setCell ⟨g, 3, none⟩ b3).setCell ⟨g, 4, none⟩ b4).setCell ⟨g, 5, none⟩ b5).setCell ⟨g, 6, none⟩ b6).setCell ⟨g, 7, none⟩ b7).heap[f]? = some (.cells cs t (0, 0)) :=
  blk_far (blk_far (blk_far (blk_far (blk_far (blk_far (blk_far (blk_far h hn _) hn _) hn _) hn _) hn _) hn _) hn _) hn _
theorem plan_simple.below8 {w W : World} {g : Nat} (h : Below w.heap.size w W) (hg : w.heap.size ≤ g) (b0 b1 b2 b3 b4 b5 b6 b7 : Value) :
    Below w.heap.size w ((((((((W.setCell ⟨g, 0, none⟩ b0).setCell ⟨g, 1, none⟩ b1).setCell ⟨g, 2, none⟩ b2).setCell ⟨g, 3, none⟩ b3).setCell ⟨g, 4, none⟩ b4).setCell ⟨g, 5, none⟩ b5).setCell ⟨g, 6, none⟩ b6).setCell ⟨g, 7, none⟩ b7) :=
  below_set (below_set (below_set (below_set (below_set (below_set (below_set (below_set h hg) hg) hg) hg) hg) hg) hg) hg
theorem plan_simple.drew_at {w : World} {g : Nat} {o : Option Obj} (h : w.heap[g]? = o) : w.drew.heap[g]? = o := h
theorem plan_simple.laid_tab : (Rows.laid_commonhold_plan_turned : DataW Unit) = Lib.tabData .i64 [13, 14, 17, 18, 15, 16] := by kernel_rfl
theorem LD.turned {w : World} (h : LD w) (k : Nat) (hk : k < 6) : w.cell? ⟨0, k, none⟩ = some (.int .i64 (([13, 14, 17, 18, 15, 16] : List Int).getD k 0)) := by
  obtain ⟨L0, h1, h2⟩ := h
  obtain ⟨g, t, cs, fuel, p, hg, ht, hv, hd⟩ := Lib.laidMet.reads h1 LD.in_commonhold_plan_turned
  have hg' : Tryd.prog.globalNamed "commonhold/plan.turned" = some 0 := by kernel_rfl
  obtain rfl := Option.some.inj (hg'.symm.trans hg)
  have ht' : (Tryd.prog.globals[(0 : Nat)]?).map (·.type) = some 99 := by kernel_rfl
  obtain rfl := Option.some.inj (ht'.symm.trans ht)
  rw [plan_simple.laid_tab] at hd
  have hc := Lib.cells_of_tab (n := 6) (e := 3) (by kernel_rfl) (by kernel_rfl) (by kernel_rfl) (by kernel_rfl) hd
  have hT : Lib.TabIs Tryd.prog L0 "commonhold/plan.turned" .i64 [13, 14, 17, 18, 15, 16] := by
    unfold Lib.TabIs
    rw [hv, ← hc]
  have h3 := Lib.TabIs.cell hT hg' k hk
  exact (h2.cell (p := ⟨0, k, none⟩) (World.block_lt_of_cell? L0 _ h3)).trans h3
theorem plan_simple.at_ {w : World} {A : Option Addr} {l : List S41} (h : Kd.C k41 w A l.length l) (h0 : 0 < l.length) : ∃ b o, A = some ⟨b, o, none⟩ ∧ ∀ (i : Nat) (hi : i < l.length), ∃ A7 c7,
    w.cell? ⟨b, o + i * 8, none⟩ = some (.int .i64 l[i].f0) ∧ w.cell? ⟨b, o + i * 8 + 1, none⟩ = some (.int .i64 l[i].f1.f0) ∧ w.cell? ⟨b, o + i * 8 + 2, none⟩ = some (.int .i64 l[i].f1.f1) ∧ w.cell? ⟨b, o + i * 8 + 3, none⟩ = some (.string l[i].f1.f2) ∧
      w.cell? ⟨b, o + i * 8 + 4, none⟩ = some (.string l[i].f2) ∧ w.cell? ⟨b, o + i * 8 + 5, none⟩ = some (.string l[i].f3) ∧ w.cell? ⟨b, o + i * 8 + 6, none⟩ = some (.int .i64 l[i].f4) ∧ w.cell? ⟨b, o + i * 8 + 7, none⟩ = some (.slice A7 l[i].f5.length c7) ∧
      l[i].f5.length ≤ c7 ∧ Kd.C k41 w A7 l[i].f5.length l[i].f5 := by
  obtain ⟨ad, A7, c7, rfl, g0, _⟩ := at_T41 h 0 (by omega) (by omega)
  have hs : ad.spot = none := by
    cases hsp : ad.spot with
    | none => rfl
    | some s =>
      exfalso
      rw [show ad.add ((0 : Int).toNat * 8) = ad from by simp [Addr.add]] at g0
      unfold World.cell? at g0
      split at g0
      · rw [hsp] at g0
        simp at g0
      · cases g0
  obtain ⟨b, o, sp⟩ := ad
  dsimp only at hs
  subst hs
  refine ⟨b, o, rfl, fun i hi => ?_⟩
  obtain ⟨ad, A7, c7, e, g0, g1, g2, g3, g4, g5, g6, g7, l7, r7⟩ := at_T41 h (i : Int) (by omega) (by omega)
  cases e
  have ee : rd_T41 l (i : Int) = l[i] := by simp [rd_T41, List.getD_eq_getElem?_getD, hi]
  have ha : (⟨b, o, none⟩ : Addr).add ((i : Int).toNat * 8) = ⟨b, o + i * 8, none⟩ := by rw [Int.toNat_natCast]; unfold Addr.add; split <;> simp_all
  rw [ee] at g0 g1 g2 g3 g4 g5 g6 g7 l7 r7
  rw [ha] at g0 g1 g2 g3 g4 g5 g6 g7
  exact ⟨A7, c7, g0, g1, g2, g3, g4, g5, g6, g7, l7, r7⟩
set_option maxRecDepth 100000 in
set_option maxHeartbeats 40000000 in
theorem plan_simple.calls (k : Nat) (a0_0 a0_1 a0_2 : Int) (a0_3 a0_4 a0_5 : ByteArray) (a0_6 : Int) (A0_7 : Option Addr) (c0_7 : Nat) (l0_7 : List S41) (r1 r2 r3 r4 : Int) (r5 : ByteArray) (r6 : Bool) (w : World) (hr0_7 : Kd.C k41 w A0_7 l0_7.length l0_7) (hc0_7 : l0_7.length ≤ c0_7) (hL : LD w) (h : plan_simple.f k a0_0 a0_1 a0_2 a0_3 a0_4 a0_5 a0_6 l0_7 = some (r1, r2, r3, r4, r5, r6)) :
    Calls Tryd.prog 23 #[.agg #[.int .i64 a0_0, .int .i64 a0_1, .int .i64 a0_2, .string a0_3, .string a0_4, .string a0_5, .int .i64 a0_6, .slice A0_7 l0_7.length c0_7]] w fun e w' => e = .returned (.tuple #[.agg #[.int .i64 r1, .int .i64 r2, .int .i64 r3, .int .i64 r4, .string r5], .bool r6]) ∧ Below w.heap.size w w' := by
  have hu := Tryd.underlying41
  have huv := Tryd.underlying39
  have hul := Tryd.underlying59
  have hm7 := hr0_7.2.1
  unfold plan_simple.f at h
  have KP0 : Aside0 (((w.alloc (.cells #[.int .i64 a0_0, .int .i64 a0_1, .int .i64 a0_2, .string a0_3, .string a0_4, .string a0_5, .int .i64 a0_6, .slice A0_7 l0_7.length c0_7] 41)).alloc (.cells #[.int .i64 0, .int .i64 0, .int .i64 0, .int .i64 0, .string { data := #[] }] 59)).heap[w.heap.size + 1]? = some (.cells #[.int .i64 0, .int .i64 0, .int .i64 0, .int .i64 0, .string { data := #[] }] 59)) := ⟨by have h_ := plan_simple.at_alloc1 (w.alloc (.cells #[.int .i64 a0_0, .int .i64 a0_1, .int .i64 a0_2, .string a0_3, .string a0_4, .string a0_5, .int .i64 a0_6, .slice A0_7 l0_7.length c0_7] 41)) (.cells #[.int .i64 0, .int .i64 0, .int .i64 0, .int .i64 0, .string { data := #[] }] 59); rwa [show (w.alloc (.cells #[.int .i64 a0_0, .int .i64 a0_1, .int .i64 a0_2, .string a0_3, .string a0_4, .string a0_5, .int .i64 a0_6, .slice A0_7 l0_7.length c0_7] 41)).heap.size = w.heap.size + 1 from by simp] at h_⟩
  by_cases G1 : plan_simple.set a0_0 ∧ l0_7.length = 2
  rotate_left
  · rw [if_neg G1] at h
    obtain ⟨rfl, rfl, rfl, rfl, rfl, rfl⟩ : 0 = r1 ∧ 0 = r2 ∧ 0 = r3 ∧ 0 = r4 ∧ ByteArray.empty = r5 ∧ false = r6 := by simpa using h
    have HG := Aside0.mk G1
    clear G1 h hr0_7
    go_enter Tryd.func23, Tryd.ntmps23
    go_upto_region 1 with (fail)
    go_cut [26] (fun c wc => c = .bool true ∧ Aside0 (wc = ((w.alloc (.cells #[.int .i64 a0_0, .int .i64 a0_1, .int .i64 a0_2, .string a0_3, .string a0_4, .string a0_5, .int .i64 a0_6, .slice A0_7 l0_7.length c0_7] 41)).alloc (.cells #[.int .i64 0, .int .i64 0, .int .i64 0, .int .i64 0, .string { data := #[] }] 59))))
    case first =>
      by_cases o1 : a0_0 < 13
      · have q1 : decide (a0_0 < 13) = true := decide_eq_true o1
        go_wp2
        go_meet
        exact ⟨rfl, ⟨rfl⟩⟩
      have q1 : decide (a0_0 < 13) = false := decide_eq_false o1
      by_cases o2 : 18 < a0_0
      · have q2 : decide (18 < a0_0) = true := decide_eq_true o2
        go_wp2
        go_meet
        exact ⟨rfl, ⟨rfl⟩⟩
      have q2 : decide (18 < a0_0) = false := decide_eq_false o2
      by_cases o3 : a0_0 = 14
      · have q3 : (a0_0 == 14) = true := by simpa using o3
        clear o3
        go_wp2
        go_meet
        exact ⟨rfl, ⟨rfl⟩⟩
      have q3 : (a0_0 == 14) = false := by simpa using o3
      have q4 : ((l0_7.length : Int) != 2) = true := by
        rw [bne_iff_ne]
        intro hq
        exact HG.out ⟨by unfold plan_simple.set; omega, by omega⟩
      go_wp2
      go_meet
      exact ⟨rfl, ⟨rfl⟩⟩
    obtain ⟨rfl, HW⟩ := hcut
    have hw := HW.out
    clear HW
    subst hw
    go_wp2
    refine bodyPost_ret (results_list (rs := [.cell 2 59, .tmp 3]) rfl (by simp) (.cell (w.heap.size + 1) 59 _ (0, 0) _ rfl KP0.out hul rfl (by kernel_rfl) (.tmp .nil))) rfl ?_
    exact ⟨rfl, below_alloc (below_alloc (Below.refl _ _) _) _⟩
  rw [if_pos G1] at h
  by_cases hsz : 9223372036854775807 < a0_4.size + a0_5.size
  · rw [if_pos hsz] at h
    cases h
  rw [if_neg hsz] at h
  have cut1 : True := trivial
  by_cases G2 : a0_1 = 0 ∧ a0_2 = 0 ∧ a0_3.toList = [] ∧ (a0_4 ++ a0_5).toList = [] ∧ a0_6 = 0
  rotate_left
  · rw [if_neg G2] at h
    obtain ⟨rfl, rfl, rfl, rfl, rfl, rfl⟩ : 0 = r1 ∧ 0 = r2 ∧ 0 = r3 ∧ 0 = r4 ∧ ByteArray.empty = r5 ∧ false = r6 := by simpa using h
    have HG := Aside0.mk G1
    have HG2 := Aside0.mk G2
    clear G1 G2 h hr0_7
    go_enter Tryd.func23, Tryd.ntmps23
    go_upto_region 1 with (fail)
    go_cut [26] (fun c wc => c = .bool false ∧ Aside0 (wc = ((w.alloc (.cells #[.int .i64 a0_0, .int .i64 a0_1, .int .i64 a0_2, .string a0_3, .string a0_4, .string a0_5, .int .i64 a0_6, .slice A0_7 l0_7.length c0_7] 41)).alloc (.cells #[.int .i64 0, .int .i64 0, .int .i64 0, .int .i64 0, .string { data := #[] }] 59))))
    case first =>
      have hl2 : ((l0_7.length : Int) != 2) = false := by rw [HG.out.2]; rfl
      rcases HG.out.1 with h_ | h_ | h_ | h_ | h_
      · have q1 : decide (a0_0 < 13) = false := decide_eq_false (by omega)
        have q2 : decide (18 < a0_0) = false := decide_eq_false (by omega)
        have q3 : (a0_0 == 14) = false := by rw [h_]; rfl
        clear h_
        go_wp2
        go_meet
        exact ⟨rfl, ⟨rfl⟩⟩
      · have q1 : decide (a0_0 < 13) = false := decide_eq_false (by omega)
        have q2 : decide (18 < a0_0) = false := decide_eq_false (by omega)
        have q3 : (a0_0 == 14) = false := by rw [h_]; rfl
        clear h_
        go_wp2
        go_meet
        exact ⟨rfl, ⟨rfl⟩⟩
      · have q1 : decide (a0_0 < 13) = false := decide_eq_false (by omega)
        have q2 : decide (18 < a0_0) = false := decide_eq_false (by omega)
        have q3 : (a0_0 == 14) = false := by rw [h_]; rfl
        clear h_
        go_wp2
        go_meet
        exact ⟨rfl, ⟨rfl⟩⟩
      · have q1 : decide (a0_0 < 13) = false := decide_eq_false (by omega)
        have q2 : decide (18 < a0_0) = false := decide_eq_false (by omega)
        have q3 : (a0_0 == 14) = false := by rw [h_]; rfl
        clear h_
        go_wp2
        go_meet
        exact ⟨rfl, ⟨rfl⟩⟩
      · have q1 : decide (a0_0 < 13) = false := decide_eq_false (by omega)
        have q2 : decide (18 < a0_0) = false := decide_eq_false (by omega)
        have q3 : (a0_0 == 14) = false := by rw [h_]; rfl
        clear h_
        go_wp2
        go_meet
        exact ⟨rfl, ⟨rfl⟩⟩
    obtain ⟨rfl, HW⟩ := hcut
    have hw := HW.out
    clear HW
    subst hw
    go_upto_region 3 with (fail)
    go_cut [44] (fun c wc => c = .bool true ∧ Aside0 (wc = ((w.alloc (.cells #[.int .i64 a0_0, .int .i64 a0_1, .int .i64 a0_2, .string a0_3, .string a0_4, .string a0_5, .int .i64 a0_6, .slice A0_7 l0_7.length c0_7] 41)).alloc (.cells #[.int .i64 0, .int .i64 0, .int .i64 0, .int .i64 0, .string { data := #[] }] 59))))
    case first =>
      have hs1 : ¬ 9223372036854775807 < a0_4.size + a0_5.size := hsz
      by_cases z0 : a0_1 = 0
      rotate_left
      · go_wp2
        go_meet
        exact ⟨rfl, ⟨rfl⟩⟩
      subst z0
      by_cases z1 : a0_2 = 0
      rotate_left
      · go_wp2
        go_meet
        exact ⟨rfl, ⟨rfl⟩⟩
      subst z1
      by_cases z2 : a0_3.toList = []
      rotate_left
      · go_wp2
        go_meet
        exact ⟨rfl, ⟨rfl⟩⟩
      by_cases z3 : (a0_4 ++ a0_5).toList = []
      rotate_left
      · go_wp2
        go_meet
        exact ⟨rfl, ⟨rfl⟩⟩
      have z4 : (a0_6 != 0) = true := by rw [bne_iff_ne]; intro hq; exact HG2.out ⟨rfl, rfl, z2, z3, hq⟩
      go_wp2
      go_meet
      exact ⟨rfl, ⟨rfl⟩⟩
    obtain ⟨rfl, HW⟩ := hcut
    have hw := HW.out
    clear HW
    subst hw
    go_wp2
    refine bodyPost_ret (results_list (rs := [.cell 2 59, .tmp 3]) rfl (by simp) (.cell (w.heap.size + 1) 59 _ (0, 0) _ rfl KP0.out hul rfl (by kernel_rfl) (.tmp .nil))) rfl ?_
    exact ⟨rfl, below_alloc (below_alloc (Below.refl _ _) _) _⟩
  rw [if_pos G2] at h
  obtain ⟨rfl, rfl, z2, z3, rfl⟩ := G2
  have hl := G1.2
  obtain ⟨bb, oo, rfl, hcs⟩ := plan_simple.at_ hr0_7 (by omega)
  obtain ⟨A8, c8, g0, g1, g2, g3, g4, g5, g6, g7, hc8, r8⟩ := hcs 0 (by omega)
  obtain ⟨A9, c9, k0, k1, k2, k3, k4, k5, k6, k7, hc9, r9⟩ := hcs 1 (by omega)
  rw [show rd_T41 l0_7 (0 : Int) = l0_7[0] from by simp [rd_T41, List.getD_eq_getElem?_getD, hl], show rd_T41 l0_7 (1 : Int) = l0_7[1] from by simp [rd_T41, List.getD_eq_getElem?_getD, hl]] at h
  clear hcs
  simp only [Nat.zero_mul, Nat.add_zero] at g0 g1 g2 g3 g4 g5 g6 g7
  simp only [Nat.one_mul, Nat.add_assoc, Nat.reduceAdd] at k0 k1 k2 k3 k4 k5 k6 k7
  generalize l0_7[0] = x at *
  generalize l0_7[1] = y at *
  have hbc : Below w.heap.size w ((w.alloc (.cells #[.int .i64 a0_0, .int .i64 0, .int .i64 0, .string a0_3, .string a0_4, .string a0_5, .int .i64 0, .slice (some ⟨bb, oo, none⟩) l0_7.length c0_7] 41)).alloc (.cells #[.int .i64 0, .int .i64 0, .int .i64 0, .int .i64 0, .string { data := #[] }] 59)) := below_alloc (below_alloc (Below.refl _ _) _) _
  have q1 : decide (a0_0 < 13) = false := decide_eq_false (by have := G1.1; unfold plan_simple.set at this; omega)
  have q2 : decide (18 < a0_0) = false := decide_eq_false (by have := G1.1; unfold plan_simple.set at this; omega)
  have q3 : (a0_0 == 14) = false := by rw [beq_eq_false_iff_ne]; have := G1.1; unfold plan_simple.set at this; omega
  have hl2 : ((l0_7.length : Int) != 2) = false := by rw [hl]; rfl
  have hl3 : (0 : Int) < l0_7.length := by omega
  have hl4 : (1 : Int) < l0_7.length := by omega
  have KP : Aside0 (∀ W, Below (((w.alloc (.cells #[.int .i64 a0_0, .int .i64 0, .int .i64 0, .string a0_3, .string a0_4, .string a0_5, .int .i64 0, .slice (some ⟨bb, oo, none⟩) l0_7.length c0_7] 41)).alloc (.cells #[.int .i64 0, .int .i64 0, .int .i64 0, .int .i64 0, .string { data := #[] }] 59))).heap.size ((w.alloc (.cells #[.int .i64 a0_0, .int .i64 0, .int .i64 0, .string a0_3, .string a0_4, .string a0_5, .int .i64 0, .slice (some ⟨bb, oo, none⟩) l0_7.length c0_7] 41)).alloc (.cells #[.int .i64 0, .int .i64 0, .int .i64 0, .int .i64 0, .string { data := #[] }] 59)) W → W.cell? ⟨w.heap.size, 0, none⟩ = some (.int .i64 a0_0) ∧ W.cell? ⟨w.heap.size, 1, none⟩ = some (.int .i64 0) ∧ W.cell? ⟨w.heap.size, 2, none⟩ = some (.int .i64 0) ∧ W.cell? ⟨w.heap.size, 3, none⟩ = some (.string a0_3) ∧ W.cell? ⟨w.heap.size, 4, none⟩ = some (.string a0_4) ∧ W.cell? ⟨w.heap.size, 5, none⟩ = some (.string a0_5) ∧ W.cell? ⟨w.heap.size, 6, none⟩ = some (.int .i64 0) ∧ W.cell? ⟨w.heap.size, 7, none⟩ = some (.slice (some ⟨bb, oo, none⟩) l0_7.length c0_7) ∧ W.cell? ⟨bb, oo, none⟩ = some (.int .i64 x.f0) ∧ W.cell? ⟨bb, oo + 1, none⟩ = some (.int .i64 x.f1.f0) ∧ W.cell? ⟨bb, oo + 2, none⟩ = some (.int .i64 x.f1.f1) ∧ W.cell? ⟨bb, oo + 3, none⟩ = some (.string x.f1.f2) ∧ W.cell? ⟨bb, oo + 4, none⟩ = some (.string x.f2) ∧ W.cell? ⟨bb, oo + 5, none⟩ = some (.string x.f3) ∧ W.cell? ⟨bb, oo + 6, none⟩ = some (.int .i64 x.f4) ∧ W.cell? ⟨bb, oo + 7, none⟩ = some (.slice A8 x.f5.length c8) ∧ W.cell? ⟨bb, oo + 8, none⟩ = some (.int .i64 y.f0) ∧ W.cell? ⟨bb, oo + 9, none⟩ = some (.int .i64 y.f1.f0) ∧ W.cell? ⟨bb, oo + 10, none⟩ = some (.int .i64 y.f1.f1) ∧ W.cell? ⟨bb, oo + 11, none⟩ = some (.string y.f1.f2) ∧ W.cell? ⟨bb, oo + 12, none⟩ = some (.string y.f2) ∧ W.cell? ⟨bb, oo + 13, none⟩ = some (.string y.f3) ∧ W.cell? ⟨bb, oo + 14, none⟩ = some (.int .i64 y.f4) ∧ W.cell? ⟨bb, oo + 15, none⟩ = some (.slice A9 y.f5.length c9) ∧ W.heap[w.heap.size + 1]? = some (.cells #[.int .i64 0, .int .i64 0, .int .i64 0, .int .i64 0, .string { data := #[] }] 59)) := ⟨fun W hW => by
    have e1 := plan_simple.at_alloc1 w (.cells #[.int .i64 a0_0, .int .i64 0, .int .i64 0, .string a0_3, .string a0_4, .string a0_5, .int .i64 0, .slice (some ⟨bb, oo, none⟩) l0_7.length c0_7] 41)
    have e2 := plan_simple.at_alloc1 (w.alloc (.cells #[.int .i64 a0_0, .int .i64 0, .int .i64 0, .string a0_3, .string a0_4, .string a0_5, .int .i64 0, .slice (some ⟨bb, oo, none⟩) l0_7.length c0_7] 41)) (.cells #[.int .i64 0, .int .i64 0, .int .i64 0, .int .i64 0, .string { data := #[] }] 59)
    have e3 := (hW.block w.heap.size (by simp; omega)).trans ((plan_simple.at_old (w.alloc (.cells #[.int .i64 a0_0, .int .i64 0, .int .i64 0, .string a0_3, .string a0_4, .string a0_5, .int .i64 0, .slice (some ⟨bb, oo, none⟩) l0_7.length c0_7] 41)) (.cells #[.int .i64 0, .int .i64 0, .int .i64 0, .int .i64 0, .string { data := #[] }] 59) w.heap.size (by simp)).trans e1)
    rw [show (w.alloc (.cells #[.int .i64 a0_0, .int .i64 0, .int .i64 0, .string a0_3, .string a0_4, .string a0_5, .int .i64 0, .slice (some ⟨bb, oo, none⟩) l0_7.length c0_7] 41)).heap.size = w.heap.size + 1 from by simp] at e2
    have e4 := (hW.block (w.heap.size + 1) (by simp)).trans e2
    have hb := hbc.trans (hW.mono hbc.size)
    exact ⟨(blk_cell e3 0).trans rfl, (blk_cell e3 1).trans rfl, (blk_cell e3 2).trans rfl, (blk_cell e3 3).trans rfl, (blk_cell e3 4).trans rfl, (blk_cell e3 5).trans rfl, (blk_cell e3 6).trans rfl, (blk_cell e3 7).trans rfl, pw_cell_below hb g0, pw_cell_below hb g1, pw_cell_below hb g2, pw_cell_below hb g3, pw_cell_below hb g4, pw_cell_below hb g5, pw_cell_below hb g6, pw_cell_below hb g7, pw_cell_below hb k0, pw_cell_below hb k1, pw_cell_below hb k2, pw_cell_below hb k3, pw_cell_below hb k4, pw_cell_below hb k5, pw_cell_below hb k6, pw_cell_below hb k7, e4⟩⟩
  have KP1 : Aside0 (((w.alloc (.cells #[.int .i64 a0_0, .int .i64 0, .int .i64 0, .string a0_3, .string a0_4, .string a0_5, .int .i64 0, .slice (some ⟨bb, oo, none⟩) l0_7.length c0_7] 41)).alloc (.cells #[.int .i64 0, .int .i64 0, .int .i64 0, .int .i64 0, .string { data := #[] }] 59)).heap[w.heap.size + 1]? = some (.cells #[.int .i64 0, .int .i64 0, .int .i64 0, .int .i64 0, .string { data := #[] }] 59)) := ⟨by have h_ := plan_simple.at_alloc1 (w.alloc (.cells #[.int .i64 a0_0, .int .i64 0, .int .i64 0, .string a0_3, .string a0_4, .string a0_5, .int .i64 0, .slice (some ⟨bb, oo, none⟩) l0_7.length c0_7] 41)) (.cells #[.int .i64 0, .int .i64 0, .int .i64 0, .int .i64 0, .string { data := #[] }] 59); rwa [show (w.alloc (.cells #[.int .i64 a0_0, .int .i64 0, .int .i64 0, .string a0_3, .string a0_4, .string a0_5, .int .i64 0, .slice (some ⟨bb, oo, none⟩) l0_7.length c0_7] 41)).heap.size = w.heap.size + 1 from by simp] at h_⟩
  have HH := Aside0.mk h
  have HBC := Aside0.mk hbc
  have HR8 := Aside0.mk r8
  have HR9 := Aside0.mk r9
  have HC8 := Aside0.mk hc8
  have HC9 := Aside0.mk hc9
  have HLD := Aside0.mk hL
  have HG := Aside0.mk G1.1
  clear h hbc r8 r9 hc8 hc9 hL hl G1 hr0_7 hc0_7
  have q0 : bb < w.heap.size := World.block_lt_of_cell? w _ g0
  go_enter Tryd.func23, Tryd.ntmps23
  go_upto_region 3 with (fail)
  go_cut [44] (fun c wc => c = .bool false ∧ Aside0 (Below (((w.alloc (.cells #[.int .i64 a0_0, .int .i64 0, .int .i64 0, .string a0_3, .string a0_4, .string a0_5, .int .i64 0, .slice (some ⟨bb, oo, none⟩) l0_7.length c0_7] 41)).alloc (.cells #[.int .i64 0, .int .i64 0, .int .i64 0, .int .i64 0, .string { data := #[] }] 59))).heap.size ((w.alloc (.cells #[.int .i64 a0_0, .int .i64 0, .int .i64 0, .string a0_3, .string a0_4, .string a0_5, .int .i64 0, .slice (some ⟨bb, oo, none⟩) l0_7.length c0_7] 41)).alloc (.cells #[.int .i64 0, .int .i64 0, .int .i64 0, .int .i64 0, .string { data := #[] }] 59)) wc))
  case first =>
    go_wp2
    go_meet
    exact ⟨rfl, ⟨Below.refl _ _⟩⟩
  obtain ⟨rfl, HB1⟩ := hcut
  obtain ⟨w1, rfl⟩ : ∃ w1 : World, w1 = wc := ⟨_, rfl⟩
  clear q1 q2 q3 hl2 z2 z3 hsz g0 g1 g2 g3 g4 g5 g6 g7 k0 k1 k2 k3 k4 k5 k6 k7
  obtain ⟨y0, y1, y2, y3, y4, y5, y6, y7, p0, p1, p2, p3, p4, p5, p6, p7, p8, p9, p10, p11, p12, p13, p14, p15, hv⟩ := KP.out _ HB1.out
  have q0 : w.heap.size < w1.heap.size := World.block_lt_of_cell? w1 _ y0
  have q1 : bb < w1.heap.size := World.block_lt_of_cell? w1 _ p0
  have q2 : w.heap.size + 1 < w1.heap.size := (Array.getElem?_eq_some_iff.1 hv).1
  clear hv
  go_upto_region 5 with (fail)
  go_cut [4, 5, 6] (fun v4 v5 v6 wc => ∃ g4 g5 : Nat, v4 = .pointer (some ⟨g4, 0, none⟩) ∧ v5 = .pointer (some ⟨g5, 0, none⟩) ∧ v6 = .int .i64 a0_0 ∧ Aside0 (g4 ≠ g5 ∧ w1.heap.size ≤ g4 ∧ w1.heap.size ≤ g5) ∧ Aside0 (wc.heap[g4]? = some (.cells #[.int .i64 x.f0, .int .i64 x.f1.f0, .int .i64 x.f1.f1, .string x.f1.f2, .string x.f2, .string x.f3, .int .i64 x.f4, .slice A8 x.f5.length c8] 41 (0, 0))) ∧ Aside0 (wc.heap[g5]? = some (.cells #[.int .i64 y.f0, .int .i64 y.f1.f0, .int .i64 y.f1.f1, .string y.f1.f2, .string y.f2, .string y.f3, .int .i64 y.f4, .slice A9 y.f5.length c9] 41 (0, 0))) ∧ Aside0 (Below w1.heap.size w1 wc))
  case first =>
    go_region
    all_goals
      go_wp2
      go_meet
      first
      | exact ⟨w1.heap.size, w1.heap.size + 1, rfl, rfl, rfl, ⟨by omega, by omega, by omega⟩, ⟨plan_simple.at_two _ _ _⟩, ⟨plan_simple.at_alloc2 _ _ _⟩, ⟨below_drew1 (below_alloc (below_alloc (Below.refl _ _) _) _)⟩⟩
      | exact ⟨w1.heap.size + 1, w1.heap.size, rfl, rfl, rfl, ⟨by omega, by omega, by omega⟩, ⟨plan_simple.at_alloc2 _ _ _⟩, ⟨plan_simple.at_two _ _ _⟩, ⟨below_drew1 (below_alloc (below_alloc (Below.refl _ _) _) _)⟩⟩
  clear y0 y1 y2 y3 y4 y5 y6 y7 p0 p1 p2 p3 p4 p5 p6 p7 p8 p9 p10 p11 p12 p13 p14 p15
  obtain ⟨g4, g5, rfl, rfl, rfl, HNE, BK4, BK5, HB2⟩ := hcut
  obtain ⟨w3, rfl⟩ : ∃ w3 : World, w3 = wc := ⟨_, rfl⟩
  obtain ⟨sw, hsw⟩ : ∃ sw : Bool, sw = decide (x.f0 = 1) := ⟨_, rfl⟩
  have HSW := Aside0.mk hsw
  have hx1 : (x.f0 == 1) = sw := hsw.symm
  have q4 : g4 < w3.heap.size := (Array.getElem?_eq_some_iff.1 BK4.out).1
  have q5 : g5 < w3.heap.size := (Array.getElem?_eq_some_iff.1 BK5.out).1
  have hn4 : g4 ≠ g5 := HNE.out.1
  have hn5 : g5 ≠ g4 := fun e => hn4 e.symm
  have s0 : w3.cell? ⟨g4, 0, none⟩ = some (.int .i64 x.f0) := (blk_cell BK4.out 0).trans rfl
  have sf0 := blk_frozen BK4.out 0
  have s1 : w3.cell? ⟨g4, 1, none⟩ = some (.int .i64 x.f1.f0) := (blk_cell BK4.out 1).trans rfl
  have sf1 := blk_frozen BK4.out 1
  have s2 : w3.cell? ⟨g4, 2, none⟩ = some (.int .i64 x.f1.f1) := (blk_cell BK4.out 2).trans rfl
  have sf2 := blk_frozen BK4.out 2
  have s3 : w3.cell? ⟨g4, 3, none⟩ = some (.string x.f1.f2) := (blk_cell BK4.out 3).trans rfl
  have sf3 := blk_frozen BK4.out 3
  have s4 : w3.cell? ⟨g4, 4, none⟩ = some (.string x.f2) := (blk_cell BK4.out 4).trans rfl
  have sf4 := blk_frozen BK4.out 4
  have s5 : w3.cell? ⟨g4, 5, none⟩ = some (.string x.f3) := (blk_cell BK4.out 5).trans rfl
  have sf5 := blk_frozen BK4.out 5
  have s6 : w3.cell? ⟨g4, 6, none⟩ = some (.int .i64 x.f4) := (blk_cell BK4.out 6).trans rfl
  have sf6 := blk_frozen BK4.out 6
  have s7 : w3.cell? ⟨g4, 7, none⟩ = some (.slice A8 x.f5.length c8) := (blk_cell BK4.out 7).trans rfl
  have sf7 := blk_frozen BK4.out 7
  have t0 : w3.cell? ⟨g5, 0, none⟩ = some (.int .i64 y.f0) := (blk_cell BK5.out 0).trans rfl
  have tf0 := blk_frozen BK5.out 0
  have t1 : w3.cell? ⟨g5, 1, none⟩ = some (.int .i64 y.f1.f0) := (blk_cell BK5.out 1).trans rfl
  have tf1 := blk_frozen BK5.out 1
  have t2 : w3.cell? ⟨g5, 2, none⟩ = some (.int .i64 y.f1.f1) := (blk_cell BK5.out 2).trans rfl
  have tf2 := blk_frozen BK5.out 2
  have t3 : w3.cell? ⟨g5, 3, none⟩ = some (.string y.f1.f2) := (blk_cell BK5.out 3).trans rfl
  have tf3 := blk_frozen BK5.out 3
  have t4 : w3.cell? ⟨g5, 4, none⟩ = some (.string y.f2) := (blk_cell BK5.out 4).trans rfl
  have tf4 := blk_frozen BK5.out 4
  have t5 : w3.cell? ⟨g5, 5, none⟩ = some (.string y.f3) := (blk_cell BK5.out 5).trans rfl
  have tf5 := blk_frozen BK5.out 5
  have t6 : w3.cell? ⟨g5, 6, none⟩ = some (.int .i64 y.f4) := (blk_cell BK5.out 6).trans rfl
  have tf6 := blk_frozen BK5.out 6
  have t7 : w3.cell? ⟨g5, 7, none⟩ = some (.slice A9 y.f5.length c9) := (blk_cell BK5.out 7).trans rfl
  have tf7 := blk_frozen BK5.out 7
  clear hsw
  go_upto_if 58 with (fail)
  go_cut [6] (fun v6 wc => v6 = .int .i64 (if sw = true then plan_simple.turn a0_0 else a0_0) ∧ Aside0 (∃ (u v : S41) (Au Av : Option Addr) (cu cv : Nat), (if sw = true then u = y ∧ v = x else u = x ∧ v = y) ∧ wc.heap[g4]? = some (.cells #[.int .i64 u.f0, .int .i64 u.f1.f0, .int .i64 u.f1.f1, .string u.f1.f2, .string u.f2, .string u.f3, .int .i64 u.f4, .slice Au u.f5.length cu] 41 (0, 0)) ∧ wc.heap[g5]? = some (.cells #[.int .i64 v.f0, .int .i64 v.f1.f0, .int .i64 v.f1.f1, .string v.f1.f2, .string v.f2, .string v.f3, .int .i64 v.f4, .slice Av v.f5.length cv] 41 (0, 0)) ∧ u.f5.length ≤ cu ∧ v.f5.length ≤ cv ∧ Kd.C k41 w Au u.f5.length u.f5 ∧ Kd.C k41 w Av v.f5.length v.f5) ∧ Aside0 (Below w1.heap.size w1 wc))
  case first =>
    cases sw with
    | false =>
      go_wp2
      go_meet
      exact ⟨rfl, ⟨⟨x, y, A8, A9, c8, c9, ⟨rfl, rfl⟩, BK4.out, BK5.out, HC8.out, HC9.out, HR8.out, HR9.out⟩⟩, HB2⟩
    | true =>
      have HLD3 := Aside0.mk (LD.below (LD.below HLD.out HBC.out) (HB1.out.trans (HB2.out.mono HB1.out.size)))
      have HGN : Aside0 (g4 ≠ 0 ∧ g5 ≠ 0) := ⟨by
        have h0 := World.block_lt_of_cell? w _ (HLD.out.turned 0 (by omega))
        have h1 := HNE.out
        have h2 := HBC.out.size
        have h3 := HB1.out.size
        simp at h0
        constructor
        · intro e; omega
        · intro e; omega⟩
      have e4A : (((((((((((((((((w3.setCell ⟨g4, 0, none⟩ (.int .i64 y.f0)).setCell ⟨g4, 1, none⟩ (.int .i64 y.f1.f0)).setCell ⟨g4, 2, none⟩ (.int .i64 y.f1.f1)).setCell ⟨g4, 3, none⟩ (.string y.f1.f2)).setCell ⟨g4, 4, none⟩ (.string y.f2)).setCell ⟨g4, 5, none⟩ (.string y.f3)).setCell ⟨g4, 6, none⟩ (.int .i64 y.f4)).setCell ⟨g4, 7, none⟩ (.slice A9 y.f5.length c9)).setCell ⟨g5, 0, none⟩ (.int .i64 x.f0)).setCell ⟨g5, 1, none⟩ (.int .i64 x.f1.f0)).setCell ⟨g5, 2, none⟩ (.int .i64 x.f1.f1)).setCell ⟨g5, 3, none⟩ (.string x.f1.f2)).setCell ⟨g5, 4, none⟩ (.string x.f2)).setCell ⟨g5, 5, none⟩ (.string x.f3)).setCell ⟨g5, 6, none⟩ (.int .i64 x.f4)).setCell ⟨g5, 7, none⟩ (.slice A8 x.f5.length c8))).drew.heap[g4]? = some (.cells #[.int .i64 y.f0, .int .i64 y.f1.f0, .int .i64 y.f1.f1, .string y.f1.f2, .string y.f2, .string y.f3, .int .i64 y.f4, .slice A9 y.f5.length c9] 41 (0, 0)) := plan_simple.drew_at (plan_simple.far8 (plan_simple.put8 BK4.out (.int .i64 y.f0) (.int .i64 y.f1.f0) (.int .i64 y.f1.f1) (.string y.f1.f2) (.string y.f2) (.string y.f3) (.int .i64 y.f4) (.slice A9 y.f5.length c9)) HNE.out.1 (.int .i64 x.f0) (.int .i64 x.f1.f0) (.int .i64 x.f1.f1) (.string x.f1.f2) (.string x.f2) (.string x.f3) (.int .i64 x.f4) (.slice A8 x.f5.length c8))
      have e5A : (((((((((((((((((w3.setCell ⟨g4, 0, none⟩ (.int .i64 y.f0)).setCell ⟨g4, 1, none⟩ (.int .i64 y.f1.f0)).setCell ⟨g4, 2, none⟩ (.int .i64 y.f1.f1)).setCell ⟨g4, 3, none⟩ (.string y.f1.f2)).setCell ⟨g4, 4, none⟩ (.string y.f2)).setCell ⟨g4, 5, none⟩ (.string y.f3)).setCell ⟨g4, 6, none⟩ (.int .i64 y.f4)).setCell ⟨g4, 7, none⟩ (.slice A9 y.f5.length c9)).setCell ⟨g5, 0, none⟩ (.int .i64 x.f0)).setCell ⟨g5, 1, none⟩ (.int .i64 x.f1.f0)).setCell ⟨g5, 2, none⟩ (.int .i64 x.f1.f1)).setCell ⟨g5, 3, none⟩ (.string x.f1.f2)).setCell ⟨g5, 4, none⟩ (.string x.f2)).setCell ⟨g5, 5, none⟩ (.string x.f3)).setCell ⟨g5, 6, none⟩ (.int .i64 x.f4)).setCell ⟨g5, 7, none⟩ (.slice A8 x.f5.length c8))).drew.heap[g5]? = some (.cells #[.int .i64 x.f0, .int .i64 x.f1.f0, .int .i64 x.f1.f1, .string x.f1.f2, .string x.f2, .string x.f3, .int .i64 x.f4, .slice A8 x.f5.length c8] 41 (0, 0)) := plan_simple.drew_at (plan_simple.put8 (plan_simple.far8 BK5.out HNE.out.1.symm (.int .i64 y.f0) (.int .i64 y.f1.f0) (.int .i64 y.f1.f1) (.string y.f1.f2) (.string y.f2) (.string y.f3) (.int .i64 y.f4) (.slice A9 y.f5.length c9)) (.int .i64 x.f0) (.int .i64 x.f1.f0) (.int .i64 x.f1.f1) (.string x.f1.f2) (.string x.f2) (.string x.f3) (.int .i64 x.f4) (.slice A8 x.f5.length c8))
      have ebA : Below w1.heap.size w1 (((((((((((((((((w3.setCell ⟨g4, 0, none⟩ (.int .i64 y.f0)).setCell ⟨g4, 1, none⟩ (.int .i64 y.f1.f0)).setCell ⟨g4, 2, none⟩ (.int .i64 y.f1.f1)).setCell ⟨g4, 3, none⟩ (.string y.f1.f2)).setCell ⟨g4, 4, none⟩ (.string y.f2)).setCell ⟨g4, 5, none⟩ (.string y.f3)).setCell ⟨g4, 6, none⟩ (.int .i64 y.f4)).setCell ⟨g4, 7, none⟩ (.slice A9 y.f5.length c9)).setCell ⟨g5, 0, none⟩ (.int .i64 x.f0)).setCell ⟨g5, 1, none⟩ (.int .i64 x.f1.f0)).setCell ⟨g5, 2, none⟩ (.int .i64 x.f1.f1)).setCell ⟨g5, 3, none⟩ (.string x.f1.f2)).setCell ⟨g5, 4, none⟩ (.string x.f2)).setCell ⟨g5, 5, none⟩ (.string x.f3)).setCell ⟨g5, 6, none⟩ (.int .i64 x.f4)).setCell ⟨g5, 7, none⟩ (.slice A8 x.f5.length c8))).drew := below_drew1 (plan_simple.below8 (plan_simple.below8 HB2.out HNE.out.2.1 (.int .i64 y.f0) (.int .i64 y.f1.f0) (.int .i64 y.f1.f1) (.string y.f1.f2) (.string y.f2) (.string y.f3) (.int .i64 y.f4) (.slice A9 y.f5.length c9)) HNE.out.2.2 (.int .i64 x.f0) (.int .i64 x.f1.f0) (.int .i64 x.f1.f1) (.string x.f1.f2) (.string x.f2) (.string x.f3) (.int .i64 x.f4) (.slice A8 x.f5.length c8))
      have e4B : (((((((((((((((((w3.setCell ⟨g5, 0, none⟩ (.int .i64 x.f0)).setCell ⟨g5, 1, none⟩ (.int .i64 x.f1.f0)).setCell ⟨g5, 2, none⟩ (.int .i64 x.f1.f1)).setCell ⟨g5, 3, none⟩ (.string x.f1.f2)).setCell ⟨g5, 4, none⟩ (.string x.f2)).setCell ⟨g5, 5, none⟩ (.string x.f3)).setCell ⟨g5, 6, none⟩ (.int .i64 x.f4)).setCell ⟨g5, 7, none⟩ (.slice A8 x.f5.length c8)).setCell ⟨g4, 0, none⟩ (.int .i64 y.f0)).setCell ⟨g4, 1, none⟩ (.int .i64 y.f1.f0)).setCell ⟨g4, 2, none⟩ (.int .i64 y.f1.f1)).setCell ⟨g4, 3, none⟩ (.string y.f1.f2)).setCell ⟨g4, 4, none⟩ (.string y.f2)).setCell ⟨g4, 5, none⟩ (.string y.f3)).setCell ⟨g4, 6, none⟩ (.int .i64 y.f4)).setCell ⟨g4, 7, none⟩ (.slice A9 y.f5.length c9))).drew.heap[g4]? = some (.cells #[.int .i64 y.f0, .int .i64 y.f1.f0, .int .i64 y.f1.f1, .string y.f1.f2, .string y.f2, .string y.f3, .int .i64 y.f4, .slice A9 y.f5.length c9] 41 (0, 0)) := plan_simple.drew_at (plan_simple.put8 (plan_simple.far8 BK4.out HNE.out.1 (.int .i64 x.f0) (.int .i64 x.f1.f0) (.int .i64 x.f1.f1) (.string x.f1.f2) (.string x.f2) (.string x.f3) (.int .i64 x.f4) (.slice A8 x.f5.length c8)) (.int .i64 y.f0) (.int .i64 y.f1.f0) (.int .i64 y.f1.f1) (.string y.f1.f2) (.string y.f2) (.string y.f3) (.int .i64 y.f4) (.slice A9 y.f5.length c9))
      have e5B : (((((((((((((((((w3.setCell ⟨g5, 0, none⟩ (.int .i64 x.f0)).setCell ⟨g5, 1, none⟩ (.int .i64 x.f1.f0)).setCell ⟨g5, 2, none⟩ (.int .i64 x.f1.f1)).setCell ⟨g5, 3, none⟩ (.string x.f1.f2)).setCell ⟨g5, 4, none⟩ (.string x.f2)).setCell ⟨g5, 5, none⟩ (.string x.f3)).setCell ⟨g5, 6, none⟩ (.int .i64 x.f4)).setCell ⟨g5, 7, none⟩ (.slice A8 x.f5.length c8)).setCell ⟨g4, 0, none⟩ (.int .i64 y.f0)).setCell ⟨g4, 1, none⟩ (.int .i64 y.f1.f0)).setCell ⟨g4, 2, none⟩ (.int .i64 y.f1.f1)).setCell ⟨g4, 3, none⟩ (.string y.f1.f2)).setCell ⟨g4, 4, none⟩ (.string y.f2)).setCell ⟨g4, 5, none⟩ (.string y.f3)).setCell ⟨g4, 6, none⟩ (.int .i64 y.f4)).setCell ⟨g4, 7, none⟩ (.slice A9 y.f5.length c9))).drew.heap[g5]? = some (.cells #[.int .i64 x.f0, .int .i64 x.f1.f0, .int .i64 x.f1.f1, .string x.f1.f2, .string x.f2, .string x.f3, .int .i64 x.f4, .slice A8 x.f5.length c8] 41 (0, 0)) := plan_simple.drew_at (plan_simple.far8 (plan_simple.put8 BK5.out (.int .i64 x.f0) (.int .i64 x.f1.f0) (.int .i64 x.f1.f1) (.string x.f1.f2) (.string x.f2) (.string x.f3) (.int .i64 x.f4) (.slice A8 x.f5.length c8)) HNE.out.1.symm (.int .i64 y.f0) (.int .i64 y.f1.f0) (.int .i64 y.f1.f1) (.string y.f1.f2) (.string y.f2) (.string y.f3) (.int .i64 y.f4) (.slice A9 y.f5.length c9))
      have ebB : Below w1.heap.size w1 (((((((((((((((((w3.setCell ⟨g5, 0, none⟩ (.int .i64 x.f0)).setCell ⟨g5, 1, none⟩ (.int .i64 x.f1.f0)).setCell ⟨g5, 2, none⟩ (.int .i64 x.f1.f1)).setCell ⟨g5, 3, none⟩ (.string x.f1.f2)).setCell ⟨g5, 4, none⟩ (.string x.f2)).setCell ⟨g5, 5, none⟩ (.string x.f3)).setCell ⟨g5, 6, none⟩ (.int .i64 x.f4)).setCell ⟨g5, 7, none⟩ (.slice A8 x.f5.length c8)).setCell ⟨g4, 0, none⟩ (.int .i64 y.f0)).setCell ⟨g4, 1, none⟩ (.int .i64 y.f1.f0)).setCell ⟨g4, 2, none⟩ (.int .i64 y.f1.f1)).setCell ⟨g4, 3, none⟩ (.string y.f1.f2)).setCell ⟨g4, 4, none⟩ (.string y.f2)).setCell ⟨g4, 5, none⟩ (.string y.f3)).setCell ⟨g4, 6, none⟩ (.int .i64 y.f4)).setCell ⟨g4, 7, none⟩ (.slice A9 y.f5.length c9))).drew := below_drew1 (plan_simple.below8 (plan_simple.below8 HB2.out HNE.out.2.2 (.int .i64 x.f0) (.int .i64 x.f1.f0) (.int .i64 x.f1.f1) (.string x.f1.f2) (.string x.f2) (.string x.f3) (.int .i64 x.f4) (.slice A8 x.f5.length c8)) HNE.out.2.1 (.int .i64 y.f0) (.int .i64 y.f1.f0) (.int .i64 y.f1.f1) (.string y.f1.f2) (.string y.f2) (.string y.f3) (.int .i64 y.f4) (.slice A9 y.f5.length c9))
      have EA := Aside0.mk (And.intro e4A (And.intro e5A ebA))
      have EB := Aside0.mk (And.intro e4B (And.intro e5B ebB))
      clear e4A e5A ebA e4B e5B ebB
      rcases HG.out with h_ | h_ | h_ | h_ | h_
      · subst h_
        have tc := HLD3.out.turned 0 (by omega)
        simp only [List.getD_cons_succ, List.getD_cons_zero] at tc
        have tl : (0 : Nat) < w3.heap.size := World.block_lt_of_cell? w3 _ tc
        have tn4 : g4 ≠ 0 := HGN.out.1
        have tn5 : g5 ≠ 0 := HGN.out.2
        have tn6 := tn4.symm
        have tn7 := tn5.symm
        go_wp2
        go_region
        all_goals
          go_wp2
          go_meet
          refine ⟨rfl, ⟨y, x, A9, A8, c9, c8, ⟨rfl, rfl⟩, ?_, ?_, HC9.out, HC8.out, HR9.out, HR8.out⟩, ⟨?_⟩⟩
          · first | (with_reducible exact EA.out.1) | (with_reducible exact EB.out.1)
          · first | (with_reducible exact EA.out.2.1) | (with_reducible exact EB.out.2.1)
          · first | (with_reducible exact EA.out.2.2) | (with_reducible exact EB.out.2.2)
      · subst h_
        have tc := HLD3.out.turned 2 (by omega)
        simp only [List.getD_cons_succ, List.getD_cons_zero] at tc
        have tl : (0 : Nat) < w3.heap.size := World.block_lt_of_cell? w3 _ tc
        have tn4 : g4 ≠ 0 := HGN.out.1
        have tn5 : g5 ≠ 0 := HGN.out.2
        have tn6 := tn4.symm
        have tn7 := tn5.symm
        go_wp2
        go_region
        all_goals
          go_wp2
          go_meet
          refine ⟨rfl, ⟨y, x, A9, A8, c9, c8, ⟨rfl, rfl⟩, ?_, ?_, HC9.out, HC8.out, HR9.out, HR8.out⟩, ⟨?_⟩⟩
          · first | (with_reducible exact EA.out.1) | (with_reducible exact EB.out.1)
          · first | (with_reducible exact EA.out.2.1) | (with_reducible exact EB.out.2.1)
          · first | (with_reducible exact EA.out.2.2) | (with_reducible exact EB.out.2.2)
      · subst h_
        have tc := HLD3.out.turned 3 (by omega)
        simp only [List.getD_cons_succ, List.getD_cons_zero] at tc
        have tl : (0 : Nat) < w3.heap.size := World.block_lt_of_cell? w3 _ tc
        have tn4 : g4 ≠ 0 := HGN.out.1
        have tn5 : g5 ≠ 0 := HGN.out.2
        have tn6 := tn4.symm
        have tn7 := tn5.symm
        go_wp2
        go_region
        all_goals
          go_wp2
          go_meet
          refine ⟨rfl, ⟨y, x, A9, A8, c9, c8, ⟨rfl, rfl⟩, ?_, ?_, HC9.out, HC8.out, HR9.out, HR8.out⟩, ⟨?_⟩⟩
          · first | (with_reducible exact EA.out.1) | (with_reducible exact EB.out.1)
          · first | (with_reducible exact EA.out.2.1) | (with_reducible exact EB.out.2.1)
          · first | (with_reducible exact EA.out.2.2) | (with_reducible exact EB.out.2.2)
      · subst h_
        have tc := HLD3.out.turned 4 (by omega)
        simp only [List.getD_cons_succ, List.getD_cons_zero] at tc
        have tl : (0 : Nat) < w3.heap.size := World.block_lt_of_cell? w3 _ tc
        have tn4 : g4 ≠ 0 := HGN.out.1
        have tn5 : g5 ≠ 0 := HGN.out.2
        have tn6 := tn4.symm
        have tn7 := tn5.symm
        go_wp2
        go_region
        all_goals
          go_wp2
          go_meet
          refine ⟨rfl, ⟨y, x, A9, A8, c9, c8, ⟨rfl, rfl⟩, ?_, ?_, HC9.out, HC8.out, HR9.out, HR8.out⟩, ⟨?_⟩⟩
          · first | (with_reducible exact EA.out.1) | (with_reducible exact EB.out.1)
          · first | (with_reducible exact EA.out.2.1) | (with_reducible exact EB.out.2.1)
          · first | (with_reducible exact EA.out.2.2) | (with_reducible exact EB.out.2.2)
      · subst h_
        have tc := HLD3.out.turned 5 (by omega)
        simp only [List.getD_cons_succ, List.getD_cons_zero] at tc
        have tl : (0 : Nat) < w3.heap.size := World.block_lt_of_cell? w3 _ tc
        have tn4 : g4 ≠ 0 := HGN.out.1
        have tn5 : g5 ≠ 0 := HGN.out.2
        have tn6 := tn4.symm
        have tn7 := tn5.symm
        go_wp2
        go_region
        all_goals
          go_wp2
          go_meet
          refine ⟨rfl, ⟨y, x, A9, A8, c9, c8, ⟨rfl, rfl⟩, ?_, ?_, HC9.out, HC8.out, HR9.out, HR8.out⟩, ⟨?_⟩⟩
          · first | (with_reducible exact EA.out.1) | (with_reducible exact EB.out.1)
          · first | (with_reducible exact EA.out.2.1) | (with_reducible exact EB.out.2.1)
          · first | (with_reducible exact EA.out.2.2) | (with_reducible exact EB.out.2.2)
  obtain ⟨rfl, HX, HB3⟩ := hcut
  obtain ⟨w4, rfl⟩ : ∃ w4 : World, w4 = wc := ⟨_, rfl⟩
  clear s0 sf0 t0 tf0 s1 sf1 t1 tf1 s2 sf2 t2 tf2 s3 sf3 t3 tf3 s4 sf4 t4 tf4 s5 sf5 t5 tf5 s6 sf6 t6 tf6 s7 sf7 t7 tf7
  obtain ⟨u, v, Au, Av, cu, cv, huv, h4, h5, lu, lv, ru, rv⟩ := HX.out
  obtain ⟨op, hop⟩ : ∃ op : Int, op = (if sw = true then plan_simple.turn a0_0 else a0_0) := ⟨_, rfl⟩
  have hf : (plan_simple.fine k u v).bind (fun b => some (u.f4, op, v.f1.f0, v.f1.f1, v.f1.f2, b)) = some (r1, r2, r3, r4, r5, r6) := by
    have hh := HH.out
    have hs := HSW.out
    dsimp only at hh
    rw [← hs, ← hop] at hh
    cases sw with
    | true => obtain ⟨rfl, rfl⟩ := huv; simpa using hh
    | false => obtain ⟨rfl, rfl⟩ := huv; simpa using hh
  obtain ⟨b, hb, hr⟩ := Option.bind_eq_some_iff.1 hf
  simp only [Option.some.injEq, Prod.mk.injEq] at hr
  obtain ⟨rfl, rfl, rfl, rfl, rfl, rfl⟩ := hr
  rw [← hop]
  have hw4 : Below w.heap.size w w4 := HBC.out.trans ((HB1.out.trans (HB3.out.mono HB1.out.size)).mono HBC.out.size)
  have q4 : g4 < w4.heap.size := (Array.getElem?_eq_some_iff.1 h4).1
  have q5 : g5 < w4.heap.size := (Array.getElem?_eq_some_iff.1 h5).1
  have KQ : Aside0 (∀ W, Below w4.heap.size w4 W → W.cell? ⟨g4, 0, none⟩ = some (.int .i64 u.f0) ∧ W.cell? ⟨g4, 1, none⟩ = some (.int .i64 u.f1.f0) ∧ W.cell? ⟨g4, 2, none⟩ = some (.int .i64 u.f1.f1) ∧ W.cell? ⟨g4, 3, none⟩ = some (.string u.f1.f2) ∧ W.cell? ⟨g4, 4, none⟩ = some (.string u.f2) ∧ W.cell? ⟨g4, 5, none⟩ = some (.string u.f3) ∧ W.cell? ⟨g4, 6, none⟩ = some (.int .i64 u.f4) ∧ W.cell? ⟨g4, 7, none⟩ = some (.slice Au u.f5.length cu) ∧ W.cell? ⟨g5, 0, none⟩ = some (.int .i64 v.f0) ∧ W.cell? ⟨g5, 1, none⟩ = some (.int .i64 v.f1.f0) ∧ W.cell? ⟨g5, 2, none⟩ = some (.int .i64 v.f1.f1) ∧ W.cell? ⟨g5, 3, none⟩ = some (.string v.f1.f2) ∧ W.cell? ⟨g5, 4, none⟩ = some (.string v.f2) ∧ W.cell? ⟨g5, 5, none⟩ = some (.string v.f3) ∧ W.cell? ⟨g5, 6, none⟩ = some (.int .i64 v.f4) ∧ W.cell? ⟨g5, 7, none⟩ = some (.slice Av v.f5.length cv)) := ⟨fun W hW => by
    have e4 := (hW.block g4 q4).trans h4
    have e5 := (hW.block g5 q5).trans h5
    exact ⟨(blk_cell e4 0).trans rfl, (blk_cell e4 1).trans rfl, (blk_cell e4 2).trans rfl, (blk_cell e4 3).trans rfl, (blk_cell e4 4).trans rfl, (blk_cell e4 5).trans rfl, (blk_cell e4 6).trans rfl, (blk_cell e4 7).trans rfl, (blk_cell e5 0).trans rfl, (blk_cell e5 1).trans rfl, (blk_cell e5 2).trans rfl, (blk_cell e5 3).trans rfl, (blk_cell e5 4).trans rfl, (blk_cell e5 5).trans rfl, (blk_cell e5 6).trans rfl, (blk_cell e5 7).trans rfl⟩⟩
  have HPu : Aside0 (∀ bp W, plan_plain.f u.f0 u.f1.f0 u.f1.f1 u.f1.f2 u.f2 u.f3 u.f4 u.f5 = some bp → Below w4.heap.size w4 W → Calls Tryd.prog 59 #[.agg #[.int .i64 u.f0, .int .i64 u.f1.f0, .int .i64 u.f1.f1, .string u.f1.f2, .string u.f2, .string u.f3, .int .i64 u.f4, .slice Au u.f5.length cu]] W fun e w' => e = .returned (.bool bp) ∧ Below W.heap.size W w') := ⟨fun bp W hp hW => plan_plain.calls _ _ _ _ _ _ _ _ _ _ _ _ (Kd.C_below (Kd.C_below ru hw4) hW) lu hp⟩
  have HPv : Aside0 (∀ bp W, plan_plain.f v.f0 v.f1.f0 v.f1.f1 v.f1.f2 v.f2 v.f3 v.f4 v.f5 = some bp → Below w4.heap.size w4 W → Calls Tryd.prog 59 #[.agg #[.int .i64 v.f0, .int .i64 v.f1.f0, .int .i64 v.f1.f1, .string v.f1.f2, .string v.f2, .string v.f3, .int .i64 v.f4, .slice Av v.f5.length cv]] W fun e w' => e = .returned (.bool bp) ∧ Below W.heap.size W w') := ⟨fun bp W hp hW => plan_plain.calls _ _ _ _ _ _ _ _ _ _ _ _ (Kd.C_below (Kd.C_below rv hw4) hW) lv hp⟩
  have HKv : Aside0 (∀ r W, value_Check.f k v.f1.f0 v.f1.f1 v.f1.f2 = some r → Below w4.heap.size w4 W → Calls Tryd.prog 60 #[.agg #[.int .i64 v.f1.f0, .int .i64 v.f1.f1, .string v.f1.f2]] W fun e w' => e = .returned (.int .i64 r) ∧ Below W.heap.size W w') := ⟨fun r W hp hW => value_Check.calls k _ _ _ r W (LD.below (LD.below HLD.out hw4) hW) hp⟩
  have HW4 := Aside0.mk hw4
  have HBX := Aside0.mk (Below.refl w4.heap.size w4)
  have HBF := Aside0.mk hb
  obtain ⟨s0, s1, s2, s3, s4, s5, s6, s7, t0, t1, t2, t3, t4, t5, t6, t7⟩ := KQ.out _ HBX.out
  have hq5 : g4 ≠ g5 := HNE.out.1
  clear huv h4 h5 lu lv ru rv hf hop hw4 hb hx1 HX
  go_upto_region 8 with (fail)
  go_cut [7] (fun c wc => c = .bool b ∧ Aside0 (Below w4.heap.size w4 wc))
  case first =>
    as_aux_lemma =>
    have hb := HBF.out
    unfold plan_simple.fine at hb
    by_cases cc : u.f0 ≠ 3
    · rw [if_pos cc] at hb
      obtain rfl := Option.some.inj hb
      have b1 : (u.f0 == 3) = false := by simpa using cc
      clear hb cc
      go_wp2_with (first | (go_at_call 59; refine calls_of_args (args' := #[.agg #[.int .i64 u.f0, .int .i64 u.f1.f0, .int .i64 u.f1.f1, .string u.f1.f2, .string u.f2, .string u.f3, .int .i64 u.f4, .slice Au u.f5.length cu]]) ?_ ?_; (focus (first | rfl | (simp only [z0, z1]; done) | (simp only [z0]; done))); (with_reducible refine (HQu.out _ HBX.out).mono ?_); rintro e w5 ⟨rfl, hb5⟩; have hb6 := HBX.out.trans (hb5.mono HBX.out.size); clear HBX; have HBX := Aside0.mk hb6; obtain ⟨s0, s1, s2, s3, s4, s5, s6, s7, t0, t1, t2, t3, t4, t5, t6, t7⟩ := KQ.out _ hb6; clear hb5 hb6) | (go_at_call 59; refine calls_of_args (args' := #[.agg #[.int .i64 v.f0, .int .i64 v.f1.f0, .int .i64 v.f1.f1, .string v.f1.f2, .string v.f2, .string v.f3, .int .i64 v.f4, .slice Av v.f5.length cv]]) ?_ ?_; (focus (first | rfl | (have h_ := E4.out; simp only [h_]; done))); (with_reducible refine (HQv.out _ HBX.out).mono ?_); rintro e w6 ⟨rfl, hb5⟩; have hb6 := HBX.out.trans (hb5.mono HBX.out.size); clear HBX; have HBX := Aside0.mk hb6; obtain ⟨s0, s1, s2, s3, s4, s5, s6, s7, t0, t1, t2, t3, t4, t5, t6, t7⟩ := KQ.out _ hb6; clear hb5 hb6) | (go_at_call 60; refine calls_of_args (args' := #[.agg #[.int .i64 v.f1.f0, .int .i64 v.f1.f1, .string v.f1.f2]]) ?_ ?_; (focus (rfl)); (with_reducible refine (HQk.out _ HBX.out).mono ?_); rintro e w7 ⟨rfl, hb5⟩; have hb6 := HBX.out.trans (hb5.mono HBX.out.size); clear HBX; have HBX := Aside0.mk hb6; obtain ⟨s0, s1, s2, s3, s4, s5, s6, s7, t0, t1, t2, t3, t4, t5, t6, t7⟩ := KQ.out _ hb6; clear hb5 hb6))
      go_meet
      exact ⟨rfl, HBX⟩
    rw [if_neg cc] at hb
    have b1 : (u.f0 == 3) = true := by simpa using cc
    clear cc
    obtain ⟨y1, hp, hb⟩ := Option.bind_eq_some_iff.1 hb
    have HQu : Aside0 (∀ W, Below w4.heap.size w4 W → _) := ⟨fun W hW => HPu.out _ W hp hW⟩
    clear hp
    by_cases cc : y1 = false
    · rw [if_pos cc] at hb
      subst cc
      obtain rfl := Option.some.inj hb
      clear hb
      go_wp2_with (first | (go_at_call 59; refine calls_of_args (args' := #[.agg #[.int .i64 u.f0, .int .i64 u.f1.f0, .int .i64 u.f1.f1, .string u.f1.f2, .string u.f2, .string u.f3, .int .i64 u.f4, .slice Au u.f5.length cu]]) ?_ ?_; (focus (first | rfl | (simp only [z0, z1]; done) | (simp only [z0]; done))); (with_reducible refine (HQu.out _ HBX.out).mono ?_); rintro e w5 ⟨rfl, hb5⟩; have hb6 := HBX.out.trans (hb5.mono HBX.out.size); clear HBX; have HBX := Aside0.mk hb6; obtain ⟨s0, s1, s2, s3, s4, s5, s6, s7, t0, t1, t2, t3, t4, t5, t6, t7⟩ := KQ.out _ hb6; clear hb5 hb6) | (go_at_call 59; refine calls_of_args (args' := #[.agg #[.int .i64 v.f0, .int .i64 v.f1.f0, .int .i64 v.f1.f1, .string v.f1.f2, .string v.f2, .string v.f3, .int .i64 v.f4, .slice Av v.f5.length cv]]) ?_ ?_; (focus (first | rfl | (have h_ := E4.out; simp only [h_]; done))); (with_reducible refine (HQv.out _ HBX.out).mono ?_); rintro e w6 ⟨rfl, hb5⟩; have hb6 := HBX.out.trans (hb5.mono HBX.out.size); clear HBX; have HBX := Aside0.mk hb6; obtain ⟨s0, s1, s2, s3, s4, s5, s6, s7, t0, t1, t2, t3, t4, t5, t6, t7⟩ := KQ.out _ hb6; clear hb5 hb6) | (go_at_call 60; refine calls_of_args (args' := #[.agg #[.int .i64 v.f1.f0, .int .i64 v.f1.f1, .string v.f1.f2]]) ?_ ?_; (focus (rfl)); (with_reducible refine (HQk.out _ HBX.out).mono ?_); rintro e w7 ⟨rfl, hb5⟩; have hb6 := HBX.out.trans (hb5.mono HBX.out.size); clear HBX; have HBX := Aside0.mk hb6; obtain ⟨s0, s1, s2, s3, s4, s5, s6, s7, t0, t1, t2, t3, t4, t5, t6, t7⟩ := KQ.out _ hb6; clear hb5 hb6))
      go_meet
      exact ⟨rfl, HBX⟩
    rw [if_neg cc] at hb
    have cc2 : y1 = true := by simpa using cc
    subst cc2
    clear cc
    by_cases cc : u.f4 < 0
    · rw [if_pos cc] at hb
      obtain rfl := Option.some.inj hb
      have b2 : decide (0 ≤ u.f4) = false := by simpa using cc
      clear hb cc
      go_wp2_with (first | (go_at_call 59; refine calls_of_args (args' := #[.agg #[.int .i64 u.f0, .int .i64 u.f1.f0, .int .i64 u.f1.f1, .string u.f1.f2, .string u.f2, .string u.f3, .int .i64 u.f4, .slice Au u.f5.length cu]]) ?_ ?_; (focus (first | rfl | (simp only [z0, z1]; done) | (simp only [z0]; done))); (with_reducible refine (HQu.out _ HBX.out).mono ?_); rintro e w5 ⟨rfl, hb5⟩; have hb6 := HBX.out.trans (hb5.mono HBX.out.size); clear HBX; have HBX := Aside0.mk hb6; obtain ⟨s0, s1, s2, s3, s4, s5, s6, s7, t0, t1, t2, t3, t4, t5, t6, t7⟩ := KQ.out _ hb6; clear hb5 hb6) | (go_at_call 59; refine calls_of_args (args' := #[.agg #[.int .i64 v.f0, .int .i64 v.f1.f0, .int .i64 v.f1.f1, .string v.f1.f2, .string v.f2, .string v.f3, .int .i64 v.f4, .slice Av v.f5.length cv]]) ?_ ?_; (focus (first | rfl | (have h_ := E4.out; simp only [h_]; done))); (with_reducible refine (HQv.out _ HBX.out).mono ?_); rintro e w6 ⟨rfl, hb5⟩; have hb6 := HBX.out.trans (hb5.mono HBX.out.size); clear HBX; have HBX := Aside0.mk hb6; obtain ⟨s0, s1, s2, s3, s4, s5, s6, s7, t0, t1, t2, t3, t4, t5, t6, t7⟩ := KQ.out _ hb6; clear hb5 hb6) | (go_at_call 60; refine calls_of_args (args' := #[.agg #[.int .i64 v.f1.f0, .int .i64 v.f1.f1, .string v.f1.f2]]) ?_ ?_; (focus (rfl)); (with_reducible refine (HQk.out _ HBX.out).mono ?_); rintro e w7 ⟨rfl, hb5⟩; have hb6 := HBX.out.trans (hb5.mono HBX.out.size); clear HBX; have HBX := Aside0.mk hb6; obtain ⟨s0, s1, s2, s3, s4, s5, s6, s7, t0, t1, t2, t3, t4, t5, t6, t7⟩ := KQ.out _ hb6; clear hb5 hb6))
      go_meet
      exact ⟨rfl, HBX⟩
    rw [if_neg cc] at hb
    have b2 : decide (0 ≤ u.f4) = true := by simpa using cc
    clear cc
    by_cases cc : ¬ plan_simple.zeroV u.f1
    · rw [if_pos cc] at hb
      obtain rfl := Option.some.inj hb
      clear hb
      have CC := Aside0.mk cc
      clear cc
      by_cases z0 : u.f1.f0 = 0
      rotate_left
      · go_wp2_with (first | (go_at_call 59; refine calls_of_args (args' := #[.agg #[.int .i64 u.f0, .int .i64 u.f1.f0, .int .i64 u.f1.f1, .string u.f1.f2, .string u.f2, .string u.f3, .int .i64 u.f4, .slice Au u.f5.length cu]]) ?_ ?_; (focus (first | rfl | (simp only [z0, z1]; done) | (simp only [z0]; done))); (with_reducible refine (HQu.out _ HBX.out).mono ?_); rintro e w5 ⟨rfl, hb5⟩; have hb6 := HBX.out.trans (hb5.mono HBX.out.size); clear HBX; have HBX := Aside0.mk hb6; obtain ⟨s0, s1, s2, s3, s4, s5, s6, s7, t0, t1, t2, t3, t4, t5, t6, t7⟩ := KQ.out _ hb6; clear hb5 hb6) | (go_at_call 59; refine calls_of_args (args' := #[.agg #[.int .i64 v.f0, .int .i64 v.f1.f0, .int .i64 v.f1.f1, .string v.f1.f2, .string v.f2, .string v.f3, .int .i64 v.f4, .slice Av v.f5.length cv]]) ?_ ?_; (focus (first | rfl | (have h_ := E4.out; simp only [h_]; done))); (with_reducible refine (HQv.out _ HBX.out).mono ?_); rintro e w6 ⟨rfl, hb5⟩; have hb6 := HBX.out.trans (hb5.mono HBX.out.size); clear HBX; have HBX := Aside0.mk hb6; obtain ⟨s0, s1, s2, s3, s4, s5, s6, s7, t0, t1, t2, t3, t4, t5, t6, t7⟩ := KQ.out _ hb6; clear hb5 hb6) | (go_at_call 60; refine calls_of_args (args' := #[.agg #[.int .i64 v.f1.f0, .int .i64 v.f1.f1, .string v.f1.f2]]) ?_ ?_; (focus (rfl)); (with_reducible refine (HQk.out _ HBX.out).mono ?_); rintro e w7 ⟨rfl, hb5⟩; have hb6 := HBX.out.trans (hb5.mono HBX.out.size); clear HBX; have HBX := Aside0.mk hb6; obtain ⟨s0, s1, s2, s3, s4, s5, s6, s7, t0, t1, t2, t3, t4, t5, t6, t7⟩ := KQ.out _ hb6; clear hb5 hb6))
        go_meet
        exact ⟨rfl, HBX⟩
      by_cases z1 : u.f1.f1 = 0
      rotate_left
      · go_wp2_with (first | (go_at_call 59; refine calls_of_args (args' := #[.agg #[.int .i64 u.f0, .int .i64 u.f1.f0, .int .i64 u.f1.f1, .string u.f1.f2, .string u.f2, .string u.f3, .int .i64 u.f4, .slice Au u.f5.length cu]]) ?_ ?_; (focus (first | rfl | (simp only [z0, z1]; done) | (simp only [z0]; done))); (with_reducible refine (HQu.out _ HBX.out).mono ?_); rintro e w5 ⟨rfl, hb5⟩; have hb6 := HBX.out.trans (hb5.mono HBX.out.size); clear HBX; have HBX := Aside0.mk hb6; obtain ⟨s0, s1, s2, s3, s4, s5, s6, s7, t0, t1, t2, t3, t4, t5, t6, t7⟩ := KQ.out _ hb6; clear hb5 hb6) | (go_at_call 59; refine calls_of_args (args' := #[.agg #[.int .i64 v.f0, .int .i64 v.f1.f0, .int .i64 v.f1.f1, .string v.f1.f2, .string v.f2, .string v.f3, .int .i64 v.f4, .slice Av v.f5.length cv]]) ?_ ?_; (focus (first | rfl | (have h_ := E4.out; simp only [h_]; done))); (with_reducible refine (HQv.out _ HBX.out).mono ?_); rintro e w6 ⟨rfl, hb5⟩; have hb6 := HBX.out.trans (hb5.mono HBX.out.size); clear HBX; have HBX := Aside0.mk hb6; obtain ⟨s0, s1, s2, s3, s4, s5, s6, s7, t0, t1, t2, t3, t4, t5, t6, t7⟩ := KQ.out _ hb6; clear hb5 hb6) | (go_at_call 60; refine calls_of_args (args' := #[.agg #[.int .i64 v.f1.f0, .int .i64 v.f1.f1, .string v.f1.f2]]) ?_ ?_; (focus (rfl)); (with_reducible refine (HQk.out _ HBX.out).mono ?_); rintro e w7 ⟨rfl, hb5⟩; have hb6 := HBX.out.trans (hb5.mono HBX.out.size); clear HBX; have HBX := Aside0.mk hb6; obtain ⟨s0, s1, s2, s3, s4, s5, s6, s7, t0, t1, t2, t3, t4, t5, t6, t7⟩ := KQ.out _ hb6; clear hb5 hb6))
        go_meet
        exact ⟨rfl, HBX⟩
      have z2 : ¬ u.f1.f2.toList = [] := fun h_ => CC.out ⟨z0, z1, h_⟩
      go_wp2_with (first | (go_at_call 59; refine calls_of_args (args' := #[.agg #[.int .i64 u.f0, .int .i64 u.f1.f0, .int .i64 u.f1.f1, .string u.f1.f2, .string u.f2, .string u.f3, .int .i64 u.f4, .slice Au u.f5.length cu]]) ?_ ?_; (focus (first | rfl | (simp only [z0, z1]; done) | (simp only [z0]; done))); (with_reducible refine (HQu.out _ HBX.out).mono ?_); rintro e w5 ⟨rfl, hb5⟩; have hb6 := HBX.out.trans (hb5.mono HBX.out.size); clear HBX; have HBX := Aside0.mk hb6; obtain ⟨s0, s1, s2, s3, s4, s5, s6, s7, t0, t1, t2, t3, t4, t5, t6, t7⟩ := KQ.out _ hb6; clear hb5 hb6) | (go_at_call 59; refine calls_of_args (args' := #[.agg #[.int .i64 v.f0, .int .i64 v.f1.f0, .int .i64 v.f1.f1, .string v.f1.f2, .string v.f2, .string v.f3, .int .i64 v.f4, .slice Av v.f5.length cv]]) ?_ ?_; (focus (first | rfl | (have h_ := E4.out; simp only [h_]; done))); (with_reducible refine (HQv.out _ HBX.out).mono ?_); rintro e w6 ⟨rfl, hb5⟩; have hb6 := HBX.out.trans (hb5.mono HBX.out.size); clear HBX; have HBX := Aside0.mk hb6; obtain ⟨s0, s1, s2, s3, s4, s5, s6, s7, t0, t1, t2, t3, t4, t5, t6, t7⟩ := KQ.out _ hb6; clear hb5 hb6) | (go_at_call 60; refine calls_of_args (args' := #[.agg #[.int .i64 v.f1.f0, .int .i64 v.f1.f1, .string v.f1.f2]]) ?_ ?_; (focus (rfl)); (with_reducible refine (HQk.out _ HBX.out).mono ?_); rintro e w7 ⟨rfl, hb5⟩; have hb6 := HBX.out.trans (hb5.mono HBX.out.size); clear HBX; have HBX := Aside0.mk hb6; obtain ⟨s0, s1, s2, s3, s4, s5, s6, s7, t0, t1, t2, t3, t4, t5, t6, t7⟩ := KQ.out _ hb6; clear hb5 hb6))
      go_meet
      exact ⟨rfl, HBX⟩
    rw [if_neg cc] at hb
    obtain ⟨z0, z1, z2⟩ := Decidable.not_not.1 cc
    clear cc
    by_cases cc : v.f0 ≠ 1
    · rw [if_pos cc] at hb
      obtain rfl := Option.some.inj hb
      have b4 : (v.f0 == 1) = false := by simpa using cc
      clear hb cc
      go_wp2_with (first | (go_at_call 59; refine calls_of_args (args' := #[.agg #[.int .i64 u.f0, .int .i64 u.f1.f0, .int .i64 u.f1.f1, .string u.f1.f2, .string u.f2, .string u.f3, .int .i64 u.f4, .slice Au u.f5.length cu]]) ?_ ?_; (focus (first | rfl | (simp only [z0, z1]; done) | (simp only [z0]; done))); (with_reducible refine (HQu.out _ HBX.out).mono ?_); rintro e w5 ⟨rfl, hb5⟩; have hb6 := HBX.out.trans (hb5.mono HBX.out.size); clear HBX; have HBX := Aside0.mk hb6; obtain ⟨s0, s1, s2, s3, s4, s5, s6, s7, t0, t1, t2, t3, t4, t5, t6, t7⟩ := KQ.out _ hb6; clear hb5 hb6) | (go_at_call 59; refine calls_of_args (args' := #[.agg #[.int .i64 v.f0, .int .i64 v.f1.f0, .int .i64 v.f1.f1, .string v.f1.f2, .string v.f2, .string v.f3, .int .i64 v.f4, .slice Av v.f5.length cv]]) ?_ ?_; (focus (first | rfl | (have h_ := E4.out; simp only [h_]; done))); (with_reducible refine (HQv.out _ HBX.out).mono ?_); rintro e w6 ⟨rfl, hb5⟩; have hb6 := HBX.out.trans (hb5.mono HBX.out.size); clear HBX; have HBX := Aside0.mk hb6; obtain ⟨s0, s1, s2, s3, s4, s5, s6, s7, t0, t1, t2, t3, t4, t5, t6, t7⟩ := KQ.out _ hb6; clear hb5 hb6) | (go_at_call 60; refine calls_of_args (args' := #[.agg #[.int .i64 v.f1.f0, .int .i64 v.f1.f1, .string v.f1.f2]]) ?_ ?_; (focus (rfl)); (with_reducible refine (HQk.out _ HBX.out).mono ?_); rintro e w7 ⟨rfl, hb5⟩; have hb6 := HBX.out.trans (hb5.mono HBX.out.size); clear HBX; have HBX := Aside0.mk hb6; obtain ⟨s0, s1, s2, s3, s4, s5, s6, s7, t0, t1, t2, t3, t4, t5, t6, t7⟩ := KQ.out _ hb6; clear hb5 hb6))
      go_meet
      exact ⟨rfl, HBX⟩
    rw [if_neg cc] at hb
    have E4 : Aside0 (v.f0 = 1) := ⟨by simpa using cc⟩
    have b4 : (v.f0 == 1) = true := by simpa using cc
    clear cc
    obtain ⟨y2, hp, hb⟩ := Option.bind_eq_some_iff.1 hb
    have HQv : Aside0 (∀ W, Below w4.heap.size w4 W → _) := ⟨fun W hW => HPv.out _ W hp hW⟩
    clear hp
    by_cases cc : y2 = false
    · rw [if_pos cc] at hb
      subst cc
      obtain rfl := Option.some.inj hb
      clear hb
      go_wp2_with (first | (go_at_call 59; refine calls_of_args (args' := #[.agg #[.int .i64 u.f0, .int .i64 u.f1.f0, .int .i64 u.f1.f1, .string u.f1.f2, .string u.f2, .string u.f3, .int .i64 u.f4, .slice Au u.f5.length cu]]) ?_ ?_; (focus (first | rfl | (simp only [z0, z1]; done) | (simp only [z0]; done))); (with_reducible refine (HQu.out _ HBX.out).mono ?_); rintro e w5 ⟨rfl, hb5⟩; have hb6 := HBX.out.trans (hb5.mono HBX.out.size); clear HBX; have HBX := Aside0.mk hb6; obtain ⟨s0, s1, s2, s3, s4, s5, s6, s7, t0, t1, t2, t3, t4, t5, t6, t7⟩ := KQ.out _ hb6; clear hb5 hb6) | (go_at_call 59; refine calls_of_args (args' := #[.agg #[.int .i64 v.f0, .int .i64 v.f1.f0, .int .i64 v.f1.f1, .string v.f1.f2, .string v.f2, .string v.f3, .int .i64 v.f4, .slice Av v.f5.length cv]]) ?_ ?_; (focus (first | rfl | (have h_ := E4.out; simp only [h_]; done))); (with_reducible refine (HQv.out _ HBX.out).mono ?_); rintro e w6 ⟨rfl, hb5⟩; have hb6 := HBX.out.trans (hb5.mono HBX.out.size); clear HBX; have HBX := Aside0.mk hb6; obtain ⟨s0, s1, s2, s3, s4, s5, s6, s7, t0, t1, t2, t3, t4, t5, t6, t7⟩ := KQ.out _ hb6; clear hb5 hb6) | (go_at_call 60; refine calls_of_args (args' := #[.agg #[.int .i64 v.f1.f0, .int .i64 v.f1.f1, .string v.f1.f2]]) ?_ ?_; (focus (rfl)); (with_reducible refine (HQk.out _ HBX.out).mono ?_); rintro e w7 ⟨rfl, hb5⟩; have hb6 := HBX.out.trans (hb5.mono HBX.out.size); clear HBX; have HBX := Aside0.mk hb6; obtain ⟨s0, s1, s2, s3, s4, s5, s6, s7, t0, t1, t2, t3, t4, t5, t6, t7⟩ := KQ.out _ hb6; clear hb5 hb6))
      go_meet
      exact ⟨rfl, HBX⟩
    rw [if_neg cc] at hb
    have cc2 : y2 = true := by simpa using cc
    subst cc2
    clear cc
    by_cases cc : v.f4 ≠ 0
    · rw [if_pos cc] at hb
      obtain rfl := Option.some.inj hb
      have b5 : (v.f4 == 0) = false := by simpa using cc
      clear hb cc
      go_wp2_with (first | (go_at_call 59; refine calls_of_args (args' := #[.agg #[.int .i64 u.f0, .int .i64 u.f1.f0, .int .i64 u.f1.f1, .string u.f1.f2, .string u.f2, .string u.f3, .int .i64 u.f4, .slice Au u.f5.length cu]]) ?_ ?_; (focus (first | rfl | (simp only [z0, z1]; done) | (simp only [z0]; done))); (with_reducible refine (HQu.out _ HBX.out).mono ?_); rintro e w5 ⟨rfl, hb5⟩; have hb6 := HBX.out.trans (hb5.mono HBX.out.size); clear HBX; have HBX := Aside0.mk hb6; obtain ⟨s0, s1, s2, s3, s4, s5, s6, s7, t0, t1, t2, t3, t4, t5, t6, t7⟩ := KQ.out _ hb6; clear hb5 hb6) | (go_at_call 59; refine calls_of_args (args' := #[.agg #[.int .i64 v.f0, .int .i64 v.f1.f0, .int .i64 v.f1.f1, .string v.f1.f2, .string v.f2, .string v.f3, .int .i64 v.f4, .slice Av v.f5.length cv]]) ?_ ?_; (focus (first | rfl | (have h_ := E4.out; simp only [h_]; done))); (with_reducible refine (HQv.out _ HBX.out).mono ?_); rintro e w6 ⟨rfl, hb5⟩; have hb6 := HBX.out.trans (hb5.mono HBX.out.size); clear HBX; have HBX := Aside0.mk hb6; obtain ⟨s0, s1, s2, s3, s4, s5, s6, s7, t0, t1, t2, t3, t4, t5, t6, t7⟩ := KQ.out _ hb6; clear hb5 hb6) | (go_at_call 60; refine calls_of_args (args' := #[.agg #[.int .i64 v.f1.f0, .int .i64 v.f1.f1, .string v.f1.f2]]) ?_ ?_; (focus (rfl)); (with_reducible refine (HQk.out _ HBX.out).mono ?_); rintro e w7 ⟨rfl, hb5⟩; have hb6 := HBX.out.trans (hb5.mono HBX.out.size); clear HBX; have HBX := Aside0.mk hb6; obtain ⟨s0, s1, s2, s3, s4, s5, s6, s7, t0, t1, t2, t3, t4, t5, t6, t7⟩ := KQ.out _ hb6; clear hb5 hb6))
      go_meet
      exact ⟨rfl, HBX⟩
    rw [if_neg cc] at hb
    have b5 : (v.f4 == 0) = true := by simpa using cc
    clear cc
    by_cases cc : v.f1.f0 = 0
    · rw [if_pos cc] at hb
      obtain rfl := Option.some.inj hb
      have b6 : (v.f1.f0 != 0) = false := by simpa using cc
      clear hb cc
      go_wp2_with (first | (go_at_call 59; refine calls_of_args (args' := #[.agg #[.int .i64 u.f0, .int .i64 u.f1.f0, .int .i64 u.f1.f1, .string u.f1.f2, .string u.f2, .string u.f3, .int .i64 u.f4, .slice Au u.f5.length cu]]) ?_ ?_; (focus (first | rfl | (simp only [z0, z1]; done) | (simp only [z0]; done))); (with_reducible refine (HQu.out _ HBX.out).mono ?_); rintro e w5 ⟨rfl, hb5⟩; have hb6 := HBX.out.trans (hb5.mono HBX.out.size); clear HBX; have HBX := Aside0.mk hb6; obtain ⟨s0, s1, s2, s3, s4, s5, s6, s7, t0, t1, t2, t3, t4, t5, t6, t7⟩ := KQ.out _ hb6; clear hb5 hb6) | (go_at_call 59; refine calls_of_args (args' := #[.agg #[.int .i64 v.f0, .int .i64 v.f1.f0, .int .i64 v.f1.f1, .string v.f1.f2, .string v.f2, .string v.f3, .int .i64 v.f4, .slice Av v.f5.length cv]]) ?_ ?_; (focus (first | rfl | (have h_ := E4.out; simp only [h_]; done))); (with_reducible refine (HQv.out _ HBX.out).mono ?_); rintro e w6 ⟨rfl, hb5⟩; have hb6 := HBX.out.trans (hb5.mono HBX.out.size); clear HBX; have HBX := Aside0.mk hb6; obtain ⟨s0, s1, s2, s3, s4, s5, s6, s7, t0, t1, t2, t3, t4, t5, t6, t7⟩ := KQ.out _ hb6; clear hb5 hb6) | (go_at_call 60; refine calls_of_args (args' := #[.agg #[.int .i64 v.f1.f0, .int .i64 v.f1.f1, .string v.f1.f2]]) ?_ ?_; (focus (rfl)); (with_reducible refine (HQk.out _ HBX.out).mono ?_); rintro e w7 ⟨rfl, hb5⟩; have hb6 := HBX.out.trans (hb5.mono HBX.out.size); clear HBX; have HBX := Aside0.mk hb6; obtain ⟨s0, s1, s2, s3, s4, s5, s6, s7, t0, t1, t2, t3, t4, t5, t6, t7⟩ := KQ.out _ hb6; clear hb5 hb6))
      go_meet
      exact ⟨rfl, HBX⟩
    rw [if_neg cc] at hb
    have b6 : (v.f1.f0 != 0) = true := by simpa using cc
    clear cc
    obtain ⟨y3, hp, hb⟩ := Option.bind_eq_some_iff.1 hb
    have HQk : Aside0 (∀ W, Below w4.heap.size w4 W → _) := ⟨fun W hW => HKv.out _ W hp hW⟩
    clear hp
    obtain rfl := Option.some.inj hb
    clear hb
    go_wp2_with (first | (go_at_call 59; refine calls_of_args (args' := #[.agg #[.int .i64 u.f0, .int .i64 u.f1.f0, .int .i64 u.f1.f1, .string u.f1.f2, .string u.f2, .string u.f3, .int .i64 u.f4, .slice Au u.f5.length cu]]) ?_ ?_; (focus (first | rfl | (simp only [z0, z1]; done) | (simp only [z0]; done))); (with_reducible refine (HQu.out _ HBX.out).mono ?_); rintro e w5 ⟨rfl, hb5⟩; have hb6 := HBX.out.trans (hb5.mono HBX.out.size); clear HBX; have HBX := Aside0.mk hb6; obtain ⟨s0, s1, s2, s3, s4, s5, s6, s7, t0, t1, t2, t3, t4, t5, t6, t7⟩ := KQ.out _ hb6; clear hb5 hb6) | (go_at_call 59; refine calls_of_args (args' := #[.agg #[.int .i64 v.f0, .int .i64 v.f1.f0, .int .i64 v.f1.f1, .string v.f1.f2, .string v.f2, .string v.f3, .int .i64 v.f4, .slice Av v.f5.length cv]]) ?_ ?_; (focus (first | rfl | (have h_ := E4.out; simp only [h_]; done))); (with_reducible refine (HQv.out _ HBX.out).mono ?_); rintro e w6 ⟨rfl, hb5⟩; have hb6 := HBX.out.trans (hb5.mono HBX.out.size); clear HBX; have HBX := Aside0.mk hb6; obtain ⟨s0, s1, s2, s3, s4, s5, s6, s7, t0, t1, t2, t3, t4, t5, t6, t7⟩ := KQ.out _ hb6; clear hb5 hb6) | (go_at_call 60; refine calls_of_args (args' := #[.agg #[.int .i64 v.f1.f0, .int .i64 v.f1.f1, .string v.f1.f2]]) ?_ ?_; (focus (rfl)); (with_reducible refine (HQk.out _ HBX.out).mono ?_); rintro e w7 ⟨rfl, hb5⟩; have hb6 := HBX.out.trans (hb5.mono HBX.out.size); clear HBX; have HBX := Aside0.mk hb6; obtain ⟨s0, s1, s2, s3, s4, s5, s6, s7, t0, t1, t2, t3, t4, t5, t6, t7⟩ := KQ.out _ hb6; clear hb5 hb6))
    go_meet
    exact ⟨rfl, HBX⟩
  obtain ⟨rfl, HB4⟩ := hcut
  obtain ⟨w5, rfl⟩ : ∃ w5 : World, w5 = wc := ⟨_, rfl⟩
  clear s0 s1 s2 s3 s4 s5 s6 s7 t0 t1 t2 t3 t4 t5 t6 t7
  obtain ⟨s0, s1, s2, s3, s4, s5, s6, s7, t0, t1, t2, t3, t4, t5, t6, t7⟩ := KQ.out _ HB4.out
  have hv5 : w5.heap[w.heap.size + 1]? = some (.cells #[.int .i64 0, .int .i64 0, .int .i64 0, .int .i64 0, .string { data := #[] }] 59 (0, 0)) := (HB4.out.block _ (by have h8 := HB1.out.size; simp at h8; have h9 := HB3.out.size; omega)).trans (((HB1.out.trans (HB3.out.mono HB1.out.size)).block _ (by simp)).trans KP1.out)
  have HV5 := Aside0.mk hv5
  have qv : w.heap.size + 1 < w5.heap.size := (Array.getElem?_eq_some_iff.1 hv5).1
  have z0 : w5.cell? ⟨w.heap.size + 1, 0, none⟩ = some (.int .i64 0) := (blk_cell hv5 0).trans rfl
  have z1 : w5.cell? ⟨w.heap.size + 1, 1, none⟩ = some (.int .i64 0) := (blk_cell hv5 1).trans rfl
  have z2 : w5.cell? ⟨w.heap.size + 1, 2, none⟩ = some (.int .i64 0) := (blk_cell hv5 2).trans rfl
  have z3 : w5.cell? ⟨w.heap.size + 1, 3, none⟩ = some (.int .i64 0) := (blk_cell hv5 3).trans rfl
  have z4 : w5.cell? ⟨w.heap.size + 1, 4, none⟩ = some (.string { data := #[] }) := (blk_cell hv5 4).trans rfl
  have zf0 := blk_frozen hv5 0
  have zf1 := blk_frozen hv5 1
  have zf2 := blk_frozen hv5 2
  have zf3 := blk_frozen hv5 3
  have zf4 := blk_frozen hv5 4
  clear hv5
  go_wp2
  have HVX := blk_put (blk_put (blk_put (blk_put (blk_put HV5.out 0 (.int .i64 u.f4) rfl) 1 (.int .i64 op) rfl) 2 (.int .i64 v.f1.f0) rfl) 3 (.int .i64 v.f1.f1) rfl) 4 (.string v.f1.f2) rfl
  refine bodyPost_ret (results_list (rs := [.cell 2 59, .tmp 3]) rfl (by simp) (.cell (w.heap.size + 1) 59 _ (0, 0) _ rfl HVX hul rfl (by kernel_rfl) (.tmp .nil))) rfl ?_
  exact ⟨rfl, (((((HW4.out.trans (HB4.out.mono HW4.out.size)).setCell (p := ⟨w.heap.size + 1, 0, none⟩) (by simp) _).setCell (p := ⟨w.heap.size + 1, 1, none⟩) (by simp) _).setCell (p := ⟨w.heap.size + 1, 2, none⟩) (by simp) _).setCell (p := ⟨w.heap.size + 1, 3, none⟩) (by simp) _).setCell (p := ⟨w.heap.size + 1, 4, none⟩) (by simp) _⟩

/-! ### plan_Lead: function 12 -/
def plan_Lead.l0 : Nat → List (S41) → List (S41) → Int → Int → Option (Int)
  | 0, _, _, _, _ => none
  | k + 1, x0, x7, x8, x9 => if x9 < x8 then (if 0 ≤ x9 then (if x9 < (x7.length : Int) then ((plan_simple.f k ((rd_T41 x7 x9).f0) ((rd_T41 x7 x9).f1.f0) ((rd_T41 x7 x9).f1.f1) ((rd_T41 x7 x9).f1.f2) ((rd_T41 x7 x9).f2) ((rd_T41 x7 x9).f3) ((rd_T41 x7 x9).f4) ((rd_T41 x7 x9).f5)).bind fun bt106 => (if bt106.2.2.2.2.2 = true then (plan_Lead.l0 k x0 x7 x8 (wrap64 (x9 + 1))) else (some x9))) else (none)) else (none)) else (some (x0.length : Int))
def plan_Lead.f (k : Nat) (l0 : List (S41)) : Option (Int) := plan_Lead.l0 k l0 l0 (l0.length : Int) 0
theorem plan_Lead.mono_l : ∀ k, (∀ y0 y1 y2 y3, LeO (plan_Lead.l0 k y0 y1 y2 y3) (plan_Lead.l0 (k + 1) y0 y1 y2 y3))
  | 0 => fun _ _ _ _ r h => by simp [plan_Lead.l0] at h
  | k + 1 => by
    have ih0 := plan_Lead.mono_l k
    · intro y0 y1 y2 y3
      unfold plan_Lead.l0
      repeat' first
      | (with_reducible exact ih0 _ _ _ _)
      | (with_reducible exact plan_simple.mono _ _ _ _ _ _ _ _ _)
      | (with_reducible exact LeO.refl _)
      | (with_reducible exact LeO.none _)
      | (with_reducible refine LeO.ite ?_ ?_)
      | (with_reducible refine LeO.bind ?_ (fun _ => ?_))
      | exact ih0 _ _ _ _
      | exact plan_simple.mono _ _ _ _ _ _ _ _ _
      | exact LeO.none _
      | refine LeO.ite ?_ ?_
      | refine LeO.bind ?_ (fun _ => ?_)
theorem plan_Lead.mono : ∀ a0 k, LeO (plan_Lead.f k a0) (plan_Lead.f (k + 1) a0) := by
  intro a0 k
  have ih0 := plan_Lead.mono_l k
  unfold plan_Lead.f
  repeat' first
      | (with_reducible exact ih0 _ _ _ _)
      | (with_reducible exact plan_simple.mono _ _ _ _ _ _ _ _ _)
      | (with_reducible exact LeO.refl _)
      | (with_reducible exact LeO.none _)
      | (with_reducible refine LeO.ite ?_ ?_)
      | (with_reducible refine LeO.bind ?_ (fun _ => ?_))
      | exact ih0 _ _ _ _
      | exact plan_simple.mono _ _ _ _ _ _ _ _ _
      | exact LeO.none _
      | refine LeO.ite ?_ ?_
      | refine LeO.bind ?_ (fun _ => ?_)
set_option maxHeartbeats 8000000 in
set_option maxRecDepth 100000 in
theorem plan_Lead.calls (k : Nat) (A0 : Option Addr) (c0 : Nat) (l0 : List (S41)) (r : Int) (w : World) (hr0 : Kd.C k41 w A0 l0.length l0) (hc0 : l0.length ≤ c0) (hL : LD w) (h : plan_Lead.f k l0 = some r) :
    Calls Tryd.prog 12 #[.slice A0 l0.length c0] w fun e w' => e = .returned (.int .i64 r) ∧ Below w.heap.size w w' := by
  have hu41 := Tryd.underlying41
  have hu59 := Tryd.underlying59
  have HLD := Aside0.mk hL
  clear hL
  have HR0 := Aside0.mk hr0
  have HC0 := Aside0.mk hc0
  clear hr0 hc0
  have HB := Aside0.mk (Below.refl w.heap.size w)
  have H : (plan_Lead.l0 k l0 l0 (l0.length : Int) 0) = some r := h
  clear h
  have H' := Aside0.mk H
  clear H
  go_enter Tryd.func12, Tryd.ntmps12
  go_wp2
  go_loopg [9] k (fun kq v9 w' => ∃ (x9_1 : Int), v9 = .int .i64 x9_1 ∧ Aside0 (plan_Lead.l0 kq l0 l0 (l0.length : Int) x9_1 = some r) ∧ Aside0 (kq ≤ k) ∧ Aside0 (Below w.heap.size w w'))
  case atStart => exact ⟨(0), (by first | rfl | (simp; done) | (simp [*]; done) | (generalize ByteArray.toList _ = q_; cases q_ <;> rfl)), H', ⟨Nat.le_refl _⟩, ⟨by repeat (first | (with_reducible first | exact HB.out | apply below_alloc | apply pw_below_drewN | apply below_drew1) | exact HB.out)⟩⟩
  case round =>
    clear H'
    try clear c1
    obtain ⟨x9_1, rfl, HA, HK1, HB⟩ := hrel
    cases gk with
    | zero => exact absurd HA.out (by simp [plan_Lead.l0])
    | succ k1 =>
      have H := HA.out
      clear HA
      simp only [plan_Lead.l0] at H
      by_cases c2 : x9_1 < (l0.length : Int)
      · rw [if_pos c2] at H
        have c2b0 : decide (x9_1 < (l0.length : Int)) = true := decide_eq_true c2
        clear c2
        by_cases c3 : 0 ≤ x9_1
        · rw [if_pos c3] at H
          have c3b0 : decide (0 ≤ x9_1) = true := decide_eq_true c3
          clear c3
          by_cases c4 : x9_1 < (l0.length : Int)
          · rw [if_pos c4] at H
            have c4b0 : decide (x9_1 < (l0.length : Int)) = true := decide_eq_true c4
            clear c4
            replace H := Option.bind_eq_some_iff.mp H
            obtain ⟨⟨t106, t107, t108, t109, t110, t111⟩, A50, H⟩ := H
            replace H : (if t111 = true then (plan_Lead.l0 k1 l0 l0 (l0.length : Int) (wrap64 (x9_1 + 1))) else (some x9_1)) = some r := H
            have A5 := Aside0.mk A50
            clear A50
            by_cases c6 : t111 = true
            · subst c6
              have H1 : (plan_Lead.l0 k1 l0 l0 (l0.length : Int) (wrap64 (x9_1 + 1))) = some r := by rw [if_pos rfl] at H; exact H
              clear H
              have H := H1
              clear H1
              have H' := Aside0.mk H
              clear H
              have p104 : 0 ≤ (x9_1 : Int) := of_decide_eq_true (by first | (with_reducible assumption) | assumption)
              have q104 : x9_1 < (l0.length : Int) := of_decide_eq_true (by first | (with_reducible assumption) | assumption)
              obtain ⟨ad104, A104_7, c104_7, e104, hx104_0, hx104_1, hx104_2, hx104_3, hx104_4, hx104_5, hx104_6, hx104_7, hl104_7, hi104_7⟩ := at_T41 HR0.out x9_1 p104 q104
              cases e104
              replace hx104_0 := (HB.out.cell (World.block_lt_of_cell? w _ hx104_0)).trans hx104_0
              replace hx104_1 := (HB.out.cell (World.block_lt_of_cell? w _ hx104_1)).trans hx104_1
              replace hx104_2 := (HB.out.cell (World.block_lt_of_cell? w _ hx104_2)).trans hx104_2
              replace hx104_3 := (HB.out.cell (World.block_lt_of_cell? w _ hx104_3)).trans hx104_3
              replace hx104_4 := (HB.out.cell (World.block_lt_of_cell? w _ hx104_4)).trans hx104_4
              replace hx104_5 := (HB.out.cell (World.block_lt_of_cell? w _ hx104_5)).trans hx104_5
              replace hx104_6 := (HB.out.cell (World.block_lt_of_cell? w _ hx104_6)).trans hx104_6
              replace hx104_7 := (HB.out.cell (World.block_lt_of_cell? w _ hx104_7)).trans hx104_7
              have HR104_7 := Aside0.mk hi104_7
              have HC104_7 := Aside0.mk hl104_7
              clear hi104_7 hl104_7
              replace p104 := eq_true p104
              replace q104 := eq_true q104
              go_wp2_with (first | ((with_reducible refine gate_dst (N := 4) rfl ?_); refine box_event ?hg (N := 4) ?hd (cs := #[.int .i64 0, .int .i64 0, .int .i64 0, .string (⟨#[]⟩ : ByteArray), .string (⟨#[]⟩ : ByteArray), .string (⟨#[]⟩ : ByteArray), .int .i64 0, .slice none 0 0]) (t := 41) ?hr ?_; (case hd => rfl); (case hg => rfl); (case hr => first | (go_simp; done) | (go_simp; rfl)); intro gb105 hg w7 hbox hb; have n0_ := Aside0.mk (below_step (by repeat (first | (with_reducible first | exact HB.out | apply below_alloc | apply pw_below_drewN | apply below_drew1) | exact HB.out)) hb); have n1_ := Aside0.mk (hbox); have n2_ := Aside0.mk ((by rw [hg]; exact (below_size (by repeat (first | (with_reducible first | exact HB.out | apply below_alloc | apply pw_below_drewN | apply below_drew1) | exact HB.out))) : w.heap.size ≤ gb105)); have n3_ := Aside0.mk ((by rw [hg]; exact (below_size (by repeat (first | (with_reducible first | exact HB.out | apply below_alloc | apply pw_below_drewN | apply below_drew1) | exact HB.out))) : w.heap.size ≤ gb105)); clear HB; have HB := n0_; have BK105 := n1_; have GW105 := n2_; have GE105 := n3_; clear n0_ n1_ n2_ n3_; clear hb hbox hg; have hcz8_0 : w7.cell? ⟨gb105, 0, none⟩ = some (.int .i64 0) := (blk_cell BK105.out 0).trans rfl; have hcz8_1 : w7.cell? ⟨gb105, 1, none⟩ = some (.int .i64 0) := (blk_cell BK105.out 1).trans rfl; have hcz8_2 : w7.cell? ⟨gb105, 2, none⟩ = some (.int .i64 0) := (blk_cell BK105.out 2).trans rfl; have hcz8_3 : w7.cell? ⟨gb105, 3, none⟩ = some (.string (⟨#[]⟩ : ByteArray)) := (blk_cell BK105.out 3).trans rfl; have hcz8_4 : w7.cell? ⟨gb105, 4, none⟩ = some (.string (⟨#[]⟩ : ByteArray)) := (blk_cell BK105.out 4).trans rfl; have hcz8_5 : w7.cell? ⟨gb105, 5, none⟩ = some (.string (⟨#[]⟩ : ByteArray)) := (blk_cell BK105.out 5).trans rfl; have hcz8_6 : w7.cell? ⟨gb105, 6, none⟩ = some (.int .i64 0) := (blk_cell BK105.out 6).trans rfl; have hcz8_7 : w7.cell? ⟨gb105, 7, none⟩ = some (.slice none 0 0) := (blk_cell BK105.out 7).trans rfl; have hfz8_0 := blk_frozen BK105.out 0; have hfz8_1 := blk_frozen BK105.out 1; have hfz8_2 := blk_frozen BK105.out 2; have hfz8_3 := blk_frozen BK105.out 3; have hfz8_4 := blk_frozen BK105.out 4; have hfz8_5 := blk_frozen BK105.out 5; have hfz8_6 := blk_frozen BK105.out 6; have hfz8_7 := blk_frozen BK105.out 7) | ((with_reducible refine gate_callee (f := 23) rfl ?_); refine goesL_ (some 16) rfl rfl Tryd.func23 (by kernel_rfl) rfl #[.agg #[.int .i64 ((rd_T41 l0 x9_1).f0), .int .i64 ((rd_T41 l0 x9_1).f1.f0), .int .i64 ((rd_T41 l0 x9_1).f1.f1), .string ((rd_T41 l0 x9_1).f1.f2), .string ((rd_T41 l0 x9_1).f2), .string ((rd_T41 l0 x9_1).f3), .int .i64 ((rd_T41 l0 x9_1).f4), .slice A104_7 ((rd_T41 l0 x9_1).f5).length c104_7]] rfl (by (try simp only [List.map_toArray, List.map_cons, List.map_nil]); first | done | rfl | (simp only [List.length_drop, List.length_take]; rfl)) ?_; (with_reducible refine (plan_simple.calls k1 ((rd_T41 l0 x9_1).f0) ((rd_T41 l0 x9_1).f1.f0) ((rd_T41 l0 x9_1).f1.f1) ((rd_T41 l0 x9_1).f1.f2) ((rd_T41 l0 x9_1).f2) ((rd_T41 l0 x9_1).f3) ((rd_T41 l0 x9_1).f4) _ _ ((rd_T41 l0 x9_1).f5) t106 t107 t108 t109 t110 true _ ?side1 ?side2 ?side3 A5.out).mono ?_); (case side1 => exact Kd.C_below HR104_7.out (by repeat (first | (with_reducible first | exact HB.out | apply below_alloc | apply pw_below_drewN | apply below_drew1 | refine below_set ?_ GE105.out) | exact HB.out))); (case side2 => exact HC104_7.out); (case side3 => exact LD.below HLD.out (by first | (with_reducible exact Below.refl _ _) | ((repeat (first | (with_reducible exact Below.refl _ _) | (with_reducible apply below_alloc) | (with_reducible apply pw_below_drewN) | (with_reducible apply below_drew1))); done) | exact (by repeat (first | (with_reducible first | exact HB.out | apply below_alloc | apply pw_below_drewN | apply below_drew1 | refine below_set ?_ GE105.out) | exact HB.out)))); rintro e w9 ⟨rfl, hb⟩; refine ⟨_, rfl, ?_⟩; have n0_ := Aside0.mk (blk_below (g := gb105) (o := .cells #[.int .i64 ((rd_T41 l0 x9_1).f0), .int .i64 ((rd_T41 l0 x9_1).f1.f0), .int .i64 ((rd_T41 l0 x9_1).f1.f1), .string ((rd_T41 l0 x9_1).f1.f2), .string ((rd_T41 l0 x9_1).f2), .string ((rd_T41 l0 x9_1).f3), .int .i64 ((rd_T41 l0 x9_1).f4), .slice A104_7 ((rd_T41 l0 x9_1).f5).length c104_7] 41 (0, 0)) (by (with_reducible repeat (first | refine blk_drewN ?_ _ | refine blk_drew ?_ | refine blk_alloc ?_ _)); refine blk_put (cs := #[.int .i64 ((rd_T41 l0 x9_1).f0), .int .i64 ((rd_T41 l0 x9_1).f1.f0), .int .i64 ((rd_T41 l0 x9_1).f1.f1), .string ((rd_T41 l0 x9_1).f1.f2), .string ((rd_T41 l0 x9_1).f2), .string ((rd_T41 l0 x9_1).f3), .int .i64 ((rd_T41 l0 x9_1).f4), .slice none 0 0]) ?_ 7 _ rfl; (with_reducible repeat (first | refine blk_drewN ?_ _ | refine blk_drew ?_ | refine blk_alloc ?_ _)); refine blk_put (cs := #[.int .i64 ((rd_T41 l0 x9_1).f0), .int .i64 ((rd_T41 l0 x9_1).f1.f0), .int .i64 ((rd_T41 l0 x9_1).f1.f1), .string ((rd_T41 l0 x9_1).f1.f2), .string ((rd_T41 l0 x9_1).f2), .string ((rd_T41 l0 x9_1).f3), .int .i64 0, .slice none 0 0]) ?_ 6 _ rfl; (with_reducible repeat (first | refine blk_drewN ?_ _ | refine blk_drew ?_ | refine blk_alloc ?_ _)); refine blk_put (cs := #[.int .i64 ((rd_T41 l0 x9_1).f0), .int .i64 ((rd_T41 l0 x9_1).f1.f0), .int .i64 ((rd_T41 l0 x9_1).f1.f1), .string ((rd_T41 l0 x9_1).f1.f2), .string ((rd_T41 l0 x9_1).f2), .string (⟨#[]⟩ : ByteArray), .int .i64 0, .slice none 0 0]) ?_ 5 _ rfl; (with_reducible repeat (first | refine blk_drewN ?_ _ | refine blk_drew ?_ | refine blk_alloc ?_ _)); refine blk_put (cs := #[.int .i64 ((rd_T41 l0 x9_1).f0), .int .i64 ((rd_T41 l0 x9_1).f1.f0), .int .i64 ((rd_T41 l0 x9_1).f1.f1), .string ((rd_T41 l0 x9_1).f1.f2), .string (⟨#[]⟩ : ByteArray), .string (⟨#[]⟩ : ByteArray), .int .i64 0, .slice none 0 0]) ?_ 4 _ rfl; (with_reducible repeat (first | refine blk_drewN ?_ _ | refine blk_drew ?_ | refine blk_alloc ?_ _)); refine blk_put (cs := #[.int .i64 ((rd_T41 l0 x9_1).f0), .int .i64 ((rd_T41 l0 x9_1).f1.f0), .int .i64 ((rd_T41 l0 x9_1).f1.f1), .string (⟨#[]⟩ : ByteArray), .string (⟨#[]⟩ : ByteArray), .string (⟨#[]⟩ : ByteArray), .int .i64 0, .slice none 0 0]) ?_ 3 _ rfl; (with_reducible repeat (first | refine blk_drewN ?_ _ | refine blk_drew ?_ | refine blk_alloc ?_ _)); refine blk_put (cs := #[.int .i64 ((rd_T41 l0 x9_1).f0), .int .i64 ((rd_T41 l0 x9_1).f1.f0), .int .i64 0, .string (⟨#[]⟩ : ByteArray), .string (⟨#[]⟩ : ByteArray), .string (⟨#[]⟩ : ByteArray), .int .i64 0, .slice none 0 0]) ?_ 2 _ rfl; (with_reducible repeat (first | refine blk_drewN ?_ _ | refine blk_drew ?_ | refine blk_alloc ?_ _)); refine blk_put (cs := #[.int .i64 ((rd_T41 l0 x9_1).f0), .int .i64 0, .int .i64 0, .string (⟨#[]⟩ : ByteArray), .string (⟨#[]⟩ : ByteArray), .string (⟨#[]⟩ : ByteArray), .int .i64 0, .slice none 0 0]) ?_ 1 _ rfl; (with_reducible repeat (first | refine blk_drewN ?_ _ | refine blk_drew ?_ | refine blk_alloc ?_ _)); refine blk_put (cs := #[.int .i64 0, .int .i64 0, .int .i64 0, .string (⟨#[]⟩ : ByteArray), .string (⟨#[]⟩ : ByteArray), .string (⟨#[]⟩ : ByteArray), .int .i64 0, .slice none 0 0]) ?_ 0 _ rfl; (with_reducible repeat (first | refine blk_drewN ?_ _ | refine blk_drew ?_ | refine blk_alloc ?_ _)); exact BK105.out) hb); have n1_ := Aside0.mk (below_step (by repeat (first | (with_reducible first | exact HB.out | apply below_alloc | apply pw_below_drewN | apply below_drew1 | refine below_set ?_ GE105.out) | exact HB.out)) hb); clear BK105; clear HB; have BK105 := n0_; have HB := n1_; clear n0_ n1_; (try clear hb); (try clear hb2); (try clear hk); (try clear hi)) | ((with_reducible refine gate_dst (N := 5) rfl ?_); refine box_event ?hg (N := 5) ?hd (cs := #[.int .i64 0, .int .i64 0, .int .i64 0, .int .i64 0, .string (⟨#[]⟩ : ByteArray)]) (t := 59) ?hr ?_; (case hd => rfl); (case hg => rfl); (case hr => first | (go_simp; done) | (go_simp; rfl)); intro gb112 hg w10 hbox hb; have n0_ := Aside0.mk (blk_below (g := gb105) (o := .cells #[.int .i64 ((rd_T41 l0 x9_1).f0), .int .i64 ((rd_T41 l0 x9_1).f1.f0), .int .i64 ((rd_T41 l0 x9_1).f1.f1), .string ((rd_T41 l0 x9_1).f1.f2), .string ((rd_T41 l0 x9_1).f2), .string ((rd_T41 l0 x9_1).f3), .int .i64 ((rd_T41 l0 x9_1).f4), .slice A104_7 ((rd_T41 l0 x9_1).f5).length c104_7] 41 (0, 0)) (by (with_reducible repeat (first | refine blk_drewN ?_ _ | refine blk_drew ?_ | refine blk_alloc ?_ _)); exact BK105.out) hb); have n1_ := Aside0.mk (below_step (by repeat (first | (with_reducible first | exact HB.out | apply below_alloc | apply pw_below_drewN | apply below_drew1 | refine below_set ?_ GE105.out) | exact HB.out)) hb); have n2_ := Aside0.mk (hbox); have n3_ := Aside0.mk ((by rw [hg]; exact (below_size (by repeat (first | (with_reducible first | exact HB.out | apply below_alloc | apply pw_below_drewN | apply below_drew1 | refine below_set ?_ GE105.out) | exact HB.out))) : w.heap.size ≤ gb112)); have n4_ := Aside0.mk ((by rw [hg]; exact (below_size (by repeat (first | (with_reducible first | exact HB.out | apply below_alloc | apply pw_below_drewN | apply below_drew1 | refine below_set ?_ GE105.out) | exact HB.out))) : w.heap.size ≤ gb112)); have n5_ := Aside0.mk ((by rw [hg]; exact Nat.ne_of_lt (blk_lt (g := gb105) (o := .cells #[.int .i64 ((rd_T41 l0 x9_1).f0), .int .i64 ((rd_T41 l0 x9_1).f1.f0), .int .i64 ((rd_T41 l0 x9_1).f1.f1), .string ((rd_T41 l0 x9_1).f1.f2), .string ((rd_T41 l0 x9_1).f2), .string ((rd_T41 l0 x9_1).f3), .int .i64 ((rd_T41 l0 x9_1).f4), .slice A104_7 ((rd_T41 l0 x9_1).f5).length c104_7] 41 (0, 0)) (by (with_reducible repeat (first | refine blk_drewN ?_ _ | refine blk_drew ?_ | refine blk_alloc ?_ _)); exact BK105.out)) : gb105 ≠ gb112)); have n6_ := Aside0.mk ((by rw [hg]; exact Nat.ne_of_gt (blk_lt (g := gb105) (o := .cells #[.int .i64 ((rd_T41 l0 x9_1).f0), .int .i64 ((rd_T41 l0 x9_1).f1.f0), .int .i64 ((rd_T41 l0 x9_1).f1.f1), .string ((rd_T41 l0 x9_1).f1.f2), .string ((rd_T41 l0 x9_1).f2), .string ((rd_T41 l0 x9_1).f3), .int .i64 ((rd_T41 l0 x9_1).f4), .slice A104_7 ((rd_T41 l0 x9_1).f5).length c104_7] 41 (0, 0)) (by (with_reducible repeat (first | refine blk_drewN ?_ _ | refine blk_drew ?_ | refine blk_alloc ?_ _)); exact BK105.out)) : gb112 ≠ gb105)); clear BK105; clear HB; have BK105 := n0_; have HB := n1_; have BK112 := n2_; have GW112 := n3_; have GE112 := n4_; have NB105_112 := n5_; have NB112_105 := n6_; clear n0_ n1_ n2_ n3_ n4_ n5_ n6_; clear hb hbox hg; have hnb11 := NB112_105.out; have hnc11 := NB105_112.out; have hcz12_0 : w10.cell? ⟨gb112, 0, none⟩ = some (.int .i64 0) := (blk_cell BK112.out 0).trans rfl; have hcz12_1 : w10.cell? ⟨gb112, 1, none⟩ = some (.int .i64 0) := (blk_cell BK112.out 1).trans rfl; have hcz12_2 : w10.cell? ⟨gb112, 2, none⟩ = some (.int .i64 0) := (blk_cell BK112.out 2).trans rfl; have hcz12_3 : w10.cell? ⟨gb112, 3, none⟩ = some (.int .i64 0) := (blk_cell BK112.out 3).trans rfl; have hcz12_4 : w10.cell? ⟨gb112, 4, none⟩ = some (.string (⟨#[]⟩ : ByteArray)) := (blk_cell BK112.out 4).trans rfl; have hfz12_0 := blk_frozen BK112.out 0; have hfz12_1 := blk_frozen BK112.out 1; have hfz12_2 := blk_frozen BK112.out 2; have hfz12_3 := blk_frozen BK112.out 3; have hfz12_4 := blk_frozen BK112.out 4))
              go_roundg k1
              case measure => have := HK1.out; omega
              case rel => exact ⟨(wrap64 (x9_1 + 1)), (by first | rfl | (simp; done) | (simp [*]; done) | (generalize ByteArray.toList _ = q_; cases q_ <;> rfl)), H', ⟨by have := HK1.out; omega⟩, ⟨by repeat (first | (with_reducible first | exact HB.out | apply below_alloc | apply pw_below_drewN | apply below_drew1 | refine below_set ?_ GE105.out | refine below_set ?_ GE112.out) | exact HB.out)⟩⟩
            · replace c6 := Bool.eq_false_iff.mpr c6
              subst c6
              have H1 : (some x9_1) = some r := by rw [if_neg (show ¬ (false = true) by decide)] at H; exact H
              clear H
              have H := H1
              clear H1
              obtain rfl := Option.some.inj H
              have p104 : 0 ≤ (x9_1 : Int) := of_decide_eq_true (by first | (with_reducible assumption) | assumption)
              have q104 : x9_1 < (l0.length : Int) := of_decide_eq_true (by first | (with_reducible assumption) | assumption)
              obtain ⟨ad104, A104_7, c104_7, e104, hx104_0, hx104_1, hx104_2, hx104_3, hx104_4, hx104_5, hx104_6, hx104_7, hl104_7, hi104_7⟩ := at_T41 HR0.out x9_1 p104 q104
              cases e104
              replace hx104_0 := (HB.out.cell (World.block_lt_of_cell? w _ hx104_0)).trans hx104_0
              replace hx104_1 := (HB.out.cell (World.block_lt_of_cell? w _ hx104_1)).trans hx104_1
              replace hx104_2 := (HB.out.cell (World.block_lt_of_cell? w _ hx104_2)).trans hx104_2
              replace hx104_3 := (HB.out.cell (World.block_lt_of_cell? w _ hx104_3)).trans hx104_3
              replace hx104_4 := (HB.out.cell (World.block_lt_of_cell? w _ hx104_4)).trans hx104_4
              replace hx104_5 := (HB.out.cell (World.block_lt_of_cell? w _ hx104_5)).trans hx104_5
              replace hx104_6 := (HB.out.cell (World.block_lt_of_cell? w _ hx104_6)).trans hx104_6
              replace hx104_7 := (HB.out.cell (World.block_lt_of_cell? w _ hx104_7)).trans hx104_7
              have HR104_7 := Aside0.mk hi104_7
              have HC104_7 := Aside0.mk hl104_7
              clear hi104_7 hl104_7
              replace p104 := eq_true p104
              replace q104 := eq_true q104
              go_wp2_with (first | ((with_reducible refine gate_dst (N := 4) rfl ?_); refine box_event ?hg (N := 4) ?hd (cs := #[.int .i64 0, .int .i64 0, .int .i64 0, .string (⟨#[]⟩ : ByteArray), .string (⟨#[]⟩ : ByteArray), .string (⟨#[]⟩ : ByteArray), .int .i64 0, .slice none 0 0]) (t := 41) ?hr ?_; (case hd => rfl); (case hg => rfl); (case hr => first | (go_simp; done) | (go_simp; rfl)); intro gb105 hg w13 hbox hb; have n0_ := Aside0.mk (below_step (by repeat (first | (with_reducible first | exact HB.out | apply below_alloc | apply pw_below_drewN | apply below_drew1) | exact HB.out)) hb); have n1_ := Aside0.mk (hbox); have n2_ := Aside0.mk ((by rw [hg]; exact (below_size (by repeat (first | (with_reducible first | exact HB.out | apply below_alloc | apply pw_below_drewN | apply below_drew1) | exact HB.out))) : w.heap.size ≤ gb105)); have n3_ := Aside0.mk ((by rw [hg]; exact (below_size (by repeat (first | (with_reducible first | exact HB.out | apply below_alloc | apply pw_below_drewN | apply below_drew1) | exact HB.out))) : w.heap.size ≤ gb105)); clear HB; have HB := n0_; have BK105 := n1_; have GW105 := n2_; have GE105 := n3_; clear n0_ n1_ n2_ n3_; clear hb hbox hg; have hcz14_0 : w13.cell? ⟨gb105, 0, none⟩ = some (.int .i64 0) := (blk_cell BK105.out 0).trans rfl; have hcz14_1 : w13.cell? ⟨gb105, 1, none⟩ = some (.int .i64 0) := (blk_cell BK105.out 1).trans rfl; have hcz14_2 : w13.cell? ⟨gb105, 2, none⟩ = some (.int .i64 0) := (blk_cell BK105.out 2).trans rfl; have hcz14_3 : w13.cell? ⟨gb105, 3, none⟩ = some (.string (⟨#[]⟩ : ByteArray)) := (blk_cell BK105.out 3).trans rfl; have hcz14_4 : w13.cell? ⟨gb105, 4, none⟩ = some (.string (⟨#[]⟩ : ByteArray)) := (blk_cell BK105.out 4).trans rfl; have hcz14_5 : w13.cell? ⟨gb105, 5, none⟩ = some (.string (⟨#[]⟩ : ByteArray)) := (blk_cell BK105.out 5).trans rfl; have hcz14_6 : w13.cell? ⟨gb105, 6, none⟩ = some (.int .i64 0) := (blk_cell BK105.out 6).trans rfl; have hcz14_7 : w13.cell? ⟨gb105, 7, none⟩ = some (.slice none 0 0) := (blk_cell BK105.out 7).trans rfl; have hfz14_0 := blk_frozen BK105.out 0; have hfz14_1 := blk_frozen BK105.out 1; have hfz14_2 := blk_frozen BK105.out 2; have hfz14_3 := blk_frozen BK105.out 3; have hfz14_4 := blk_frozen BK105.out 4; have hfz14_5 := blk_frozen BK105.out 5; have hfz14_6 := blk_frozen BK105.out 6; have hfz14_7 := blk_frozen BK105.out 7) | ((with_reducible refine gate_callee (f := 23) rfl ?_); refine goesL_ (some 16) rfl rfl Tryd.func23 (by kernel_rfl) rfl #[.agg #[.int .i64 ((rd_T41 l0 x9_1).f0), .int .i64 ((rd_T41 l0 x9_1).f1.f0), .int .i64 ((rd_T41 l0 x9_1).f1.f1), .string ((rd_T41 l0 x9_1).f1.f2), .string ((rd_T41 l0 x9_1).f2), .string ((rd_T41 l0 x9_1).f3), .int .i64 ((rd_T41 l0 x9_1).f4), .slice A104_7 ((rd_T41 l0 x9_1).f5).length c104_7]] rfl (by (try simp only [List.map_toArray, List.map_cons, List.map_nil]); first | done | rfl | (simp only [List.length_drop, List.length_take]; rfl)) ?_; (with_reducible refine (plan_simple.calls k1 ((rd_T41 l0 x9_1).f0) ((rd_T41 l0 x9_1).f1.f0) ((rd_T41 l0 x9_1).f1.f1) ((rd_T41 l0 x9_1).f1.f2) ((rd_T41 l0 x9_1).f2) ((rd_T41 l0 x9_1).f3) ((rd_T41 l0 x9_1).f4) _ _ ((rd_T41 l0 x9_1).f5) t106 t107 t108 t109 t110 false _ ?side1 ?side2 ?side3 A5.out).mono ?_); (case side1 => exact Kd.C_below HR104_7.out (by repeat (first | (with_reducible first | exact HB.out | apply below_alloc | apply pw_below_drewN | apply below_drew1 | refine below_set ?_ GE105.out) | exact HB.out))); (case side2 => exact HC104_7.out); (case side3 => exact LD.below HLD.out (by first | (with_reducible exact Below.refl _ _) | ((repeat (first | (with_reducible exact Below.refl _ _) | (with_reducible apply below_alloc) | (with_reducible apply pw_below_drewN) | (with_reducible apply below_drew1))); done) | exact (by repeat (first | (with_reducible first | exact HB.out | apply below_alloc | apply pw_below_drewN | apply below_drew1 | refine below_set ?_ GE105.out) | exact HB.out)))); rintro e w15 ⟨rfl, hb⟩; refine ⟨_, rfl, ?_⟩; have n0_ := Aside0.mk (blk_below (g := gb105) (o := .cells #[.int .i64 ((rd_T41 l0 x9_1).f0), .int .i64 ((rd_T41 l0 x9_1).f1.f0), .int .i64 ((rd_T41 l0 x9_1).f1.f1), .string ((rd_T41 l0 x9_1).f1.f2), .string ((rd_T41 l0 x9_1).f2), .string ((rd_T41 l0 x9_1).f3), .int .i64 ((rd_T41 l0 x9_1).f4), .slice A104_7 ((rd_T41 l0 x9_1).f5).length c104_7] 41 (0, 0)) (by (with_reducible repeat (first | refine blk_drewN ?_ _ | refine blk_drew ?_ | refine blk_alloc ?_ _)); refine blk_put (cs := #[.int .i64 ((rd_T41 l0 x9_1).f0), .int .i64 ((rd_T41 l0 x9_1).f1.f0), .int .i64 ((rd_T41 l0 x9_1).f1.f1), .string ((rd_T41 l0 x9_1).f1.f2), .string ((rd_T41 l0 x9_1).f2), .string ((rd_T41 l0 x9_1).f3), .int .i64 ((rd_T41 l0 x9_1).f4), .slice none 0 0]) ?_ 7 _ rfl; (with_reducible repeat (first | refine blk_drewN ?_ _ | refine blk_drew ?_ | refine blk_alloc ?_ _)); refine blk_put (cs := #[.int .i64 ((rd_T41 l0 x9_1).f0), .int .i64 ((rd_T41 l0 x9_1).f1.f0), .int .i64 ((rd_T41 l0 x9_1).f1.f1), .string ((rd_T41 l0 x9_1).f1.f2), .string ((rd_T41 l0 x9_1).f2), .string ((rd_T41 l0 x9_1).f3), .int .i64 0, .slice none 0 0]) ?_ 6 _ rfl; (with_reducible repeat (first | refine blk_drewN ?_ _ | refine blk_drew ?_ | refine blk_alloc ?_ _)); refine blk_put (cs := #[.int .i64 ((rd_T41 l0 x9_1).f0), .int .i64 ((rd_T41 l0 x9_1).f1.f0), .int .i64 ((rd_T41 l0 x9_1).f1.f1), .string ((rd_T41 l0 x9_1).f1.f2), .string ((rd_T41 l0 x9_1).f2), .string (⟨#[]⟩ : ByteArray), .int .i64 0, .slice none 0 0]) ?_ 5 _ rfl; (with_reducible repeat (first | refine blk_drewN ?_ _ | refine blk_drew ?_ | refine blk_alloc ?_ _)); refine blk_put (cs := #[.int .i64 ((rd_T41 l0 x9_1).f0), .int .i64 ((rd_T41 l0 x9_1).f1.f0), .int .i64 ((rd_T41 l0 x9_1).f1.f1), .string ((rd_T41 l0 x9_1).f1.f2), .string (⟨#[]⟩ : ByteArray), .string (⟨#[]⟩ : ByteArray), .int .i64 0, .slice none 0 0]) ?_ 4 _ rfl; (with_reducible repeat (first | refine blk_drewN ?_ _ | refine blk_drew ?_ | refine blk_alloc ?_ _)); refine blk_put (cs := #[.int .i64 ((rd_T41 l0 x9_1).f0), .int .i64 ((rd_T41 l0 x9_1).f1.f0), .int .i64 ((rd_T41 l0 x9_1).f1.f1), .string (⟨#[]⟩ : ByteArray), .string (⟨#[]⟩ : ByteArray), .string (⟨#[]⟩ : ByteArray), .int .i64 0, .slice none 0 0]) ?_ 3 _ rfl; (with_reducible repeat (first | refine blk_drewN ?_ _ | refine blk_drew ?_ | refine blk_alloc ?_ _)); refine blk_put (cs := #[.int .i64 ((rd_T41 l0 x9_1).f0), .int .i64 ((rd_T41 l0 x9_1).f1.f0), .int .i64 0, .string (⟨#[]⟩ : ByteArray), .string (⟨#[]⟩ : ByteArray), .string (⟨#[]⟩ : ByteArray), .int .i64 0, .slice none 0 0]) ?_ 2 _ rfl; (with_reducible repeat (first | refine blk_drewN ?_ _ | refine blk_drew ?_ | refine blk_alloc ?_ _)); refine blk_put (cs := #[.int .i64 ((rd_T41 l0 x9_1).f0), .int .i64 0, .int .i64 0, .string (⟨#[]⟩ : ByteArray), .string (⟨#[]⟩ : ByteArray), .string (⟨#[]⟩ : ByteArray), .int .i64 0, .slice none 0 0]) ?_ 1 _ rfl; (with_reducible repeat (first | refine blk_drewN ?_ _ | refine blk_drew ?_ | refine blk_alloc ?_ _)); refine blk_put (cs := #[.int .i64 0, .int .i64 0, .int .i64 0, .string (⟨#[]⟩ : ByteArray), .string (⟨#[]⟩ : ByteArray), .string (⟨#[]⟩ : ByteArray), .int .i64 0, .slice none 0 0]) ?_ 0 _ rfl; (with_reducible repeat (first | refine blk_drewN ?_ _ | refine blk_drew ?_ | refine blk_alloc ?_ _)); exact BK105.out) hb); have n1_ := Aside0.mk (below_step (by repeat (first | (with_reducible first | exact HB.out | apply below_alloc | apply pw_below_drewN | apply below_drew1 | refine below_set ?_ GE105.out) | exact HB.out)) hb); clear BK105; clear HB; have BK105 := n0_; have HB := n1_; clear n0_ n1_; (try clear hb); (try clear hb2); (try clear hk); (try clear hi)) | ((with_reducible refine gate_dst (N := 5) rfl ?_); refine box_event ?hg (N := 5) ?hd (cs := #[.int .i64 0, .int .i64 0, .int .i64 0, .int .i64 0, .string (⟨#[]⟩ : ByteArray)]) (t := 59) ?hr ?_; (case hd => rfl); (case hg => rfl); (case hr => first | (go_simp; done) | (go_simp; rfl)); intro gb112 hg w16 hbox hb; have n0_ := Aside0.mk (blk_below (g := gb105) (o := .cells #[.int .i64 ((rd_T41 l0 x9_1).f0), .int .i64 ((rd_T41 l0 x9_1).f1.f0), .int .i64 ((rd_T41 l0 x9_1).f1.f1), .string ((rd_T41 l0 x9_1).f1.f2), .string ((rd_T41 l0 x9_1).f2), .string ((rd_T41 l0 x9_1).f3), .int .i64 ((rd_T41 l0 x9_1).f4), .slice A104_7 ((rd_T41 l0 x9_1).f5).length c104_7] 41 (0, 0)) (by (with_reducible repeat (first | refine blk_drewN ?_ _ | refine blk_drew ?_ | refine blk_alloc ?_ _)); exact BK105.out) hb); have n1_ := Aside0.mk (below_step (by repeat (first | (with_reducible first | exact HB.out | apply below_alloc | apply pw_below_drewN | apply below_drew1 | refine below_set ?_ GE105.out) | exact HB.out)) hb); have n2_ := Aside0.mk (hbox); have n3_ := Aside0.mk ((by rw [hg]; exact (below_size (by repeat (first | (with_reducible first | exact HB.out | apply below_alloc | apply pw_below_drewN | apply below_drew1 | refine below_set ?_ GE105.out) | exact HB.out))) : w.heap.size ≤ gb112)); have n4_ := Aside0.mk ((by rw [hg]; exact (below_size (by repeat (first | (with_reducible first | exact HB.out | apply below_alloc | apply pw_below_drewN | apply below_drew1 | refine below_set ?_ GE105.out) | exact HB.out))) : w.heap.size ≤ gb112)); have n5_ := Aside0.mk ((by rw [hg]; exact Nat.ne_of_lt (blk_lt (g := gb105) (o := .cells #[.int .i64 ((rd_T41 l0 x9_1).f0), .int .i64 ((rd_T41 l0 x9_1).f1.f0), .int .i64 ((rd_T41 l0 x9_1).f1.f1), .string ((rd_T41 l0 x9_1).f1.f2), .string ((rd_T41 l0 x9_1).f2), .string ((rd_T41 l0 x9_1).f3), .int .i64 ((rd_T41 l0 x9_1).f4), .slice A104_7 ((rd_T41 l0 x9_1).f5).length c104_7] 41 (0, 0)) (by (with_reducible repeat (first | refine blk_drewN ?_ _ | refine blk_drew ?_ | refine blk_alloc ?_ _)); exact BK105.out)) : gb105 ≠ gb112)); have n6_ := Aside0.mk ((by rw [hg]; exact Nat.ne_of_gt (blk_lt (g := gb105) (o := .cells #[.int .i64 ((rd_T41 l0 x9_1).f0), .int .i64 ((rd_T41 l0 x9_1).f1.f0), .int .i64 ((rd_T41 l0 x9_1).f1.f1), .string ((rd_T41 l0 x9_1).f1.f2), .string ((rd_T41 l0 x9_1).f2), .string ((rd_T41 l0 x9_1).f3), .int .i64 ((rd_T41 l0 x9_1).f4), .slice A104_7 ((rd_T41 l0 x9_1).f5).length c104_7] 41 (0, 0)) (by (with_reducible repeat (first | refine blk_drewN ?_ _ | refine blk_drew ?_ | refine blk_alloc ?_ _)); exact BK105.out)) : gb112 ≠ gb105)); clear BK105; clear HB; have BK105 := n0_; have HB := n1_; have BK112 := n2_; have GW112 := n3_; have GE112 := n4_; have NB105_112 := n5_; have NB112_105 := n6_; clear n0_ n1_ n2_ n3_ n4_ n5_ n6_; clear hb hbox hg; have hnb17 := NB112_105.out; have hnc17 := NB105_112.out; have hcz18_0 : w16.cell? ⟨gb112, 0, none⟩ = some (.int .i64 0) := (blk_cell BK112.out 0).trans rfl; have hcz18_1 : w16.cell? ⟨gb112, 1, none⟩ = some (.int .i64 0) := (blk_cell BK112.out 1).trans rfl; have hcz18_2 : w16.cell? ⟨gb112, 2, none⟩ = some (.int .i64 0) := (blk_cell BK112.out 2).trans rfl; have hcz18_3 : w16.cell? ⟨gb112, 3, none⟩ = some (.int .i64 0) := (blk_cell BK112.out 3).trans rfl; have hcz18_4 : w16.cell? ⟨gb112, 4, none⟩ = some (.string (⟨#[]⟩ : ByteArray)) := (blk_cell BK112.out 4).trans rfl; have hfz18_0 := blk_frozen BK112.out 0; have hfz18_1 := blk_frozen BK112.out 1; have hfz18_2 := blk_frozen BK112.out 2; have hfz18_3 := blk_frozen BK112.out 3; have hfz18_4 := blk_frozen BK112.out 4))
              go_ret
              exact ⟨by first | rfl | (simp [errW_none, errW_some] <;> rfl) | (simp [*, errW_none, errW_some] <;> rfl), by repeat (first | (with_reducible first | exact HB.out | apply below_alloc | apply pw_below_drewN | apply below_drew1 | refine below_set ?_ GE105.out | refine below_set ?_ GE112.out) | exact HB.out)⟩
          · rw [if_neg c4] at H
            exact absurd H (by simp)
        · rw [if_neg c3] at H
          exact absurd H (by simp)
      · rw [if_neg c2] at H
        have c2b0 : decide (x9_1 < (l0.length : Int)) = false := decide_eq_false c2
        clear c2
        obtain rfl := Option.some.inj H
        go_wp2
        go_ret
        exact ⟨by first | rfl | (simp [errW_none, errW_some] <;> rfl) | (simp [*, errW_none, errW_some] <;> rfl), by repeat (first | (with_reducible first | exact HB.out | apply below_alloc | apply pw_below_drewN | apply below_drew1) | exact HB.out)⟩

/-! ### commonholdref_emptyValue: function 80 -/
def commonholdref_emptyValue.f (a0_0 : Int) (a0_1 : Int) (a0_2 : ByteArray) : Option (Bool) := if a0_0 = 0 then (if a0_1 = 0 then (some (a0_2.toList == ([] : List UInt8))) else (some false)) else (some false)
set_option maxHeartbeats 8000000 in
set_option maxRecDepth 100000 in
theorem commonholdref_emptyValue.calls (a0_0 : Int) (a0_1 : Int) (a0_2 : ByteArray) (r : Bool) (w : World) (h : commonholdref_emptyValue.f a0_0 a0_1 a0_2 = some r) :
    Calls Tryd.prog 80 #[.agg #[.int .i64 a0_0, .int .i64 a0_1, .string a0_2]] w fun e w' => e = .returned (.bool r) ∧ Below w.heap.size w w' := by
  have hu39 := Tryd.underlying39
  have HB := Aside0.mk (Below.refl w.heap.size w)
  have H : (if a0_0 = 0 then (if a0_1 = 0 then (some (a0_2.toList == ([] : List UInt8))) else (some false)) else (some false)) = some r := h
  clear h
  by_cases c2 : a0_0 = 0
  · rw [if_pos c2] at H
    have c2b0 : (a0_0 == 0) = true := beq_iff_eq.mpr c2
    have c2b1 : (a0_0 != 0) = false := bne_eq_false_iff_eq.mpr c2
    clear c2
    by_cases c3 : a0_1 = 0
    · rw [if_pos c3] at H
      have c3b0 : (a0_1 == 0) = true := beq_iff_eq.mpr c3
      have c3b1 : (a0_1 != 0) = false := bne_eq_false_iff_eq.mpr c3
      clear c3
      obtain rfl := Option.some.inj H
      go_enter Tryd.func80, Tryd.ntmps80
      go_wp2_with (first | ((with_reducible refine gate_dst (N := 1) rfl ?_); refine box_event ?hg (N := 1) ?hd (cs := #[.int .i64 a0_0, .int .i64 a0_1, .string a0_2]) (t := 39) ?hr ?_; (case hd => rfl); (case hg => rfl); (case hr => first | (go_simp; done) | (go_simp; rfl)); intro gb113 hg w4 hbox hb; have n0_ := Aside0.mk (below_step (by repeat (first | (with_reducible first | exact HB.out | apply below_alloc | apply pw_below_drewN | apply below_drew1) | exact HB.out)) hb); have n1_ := Aside0.mk (hbox); have n2_ := Aside0.mk ((by rw [hg]; exact (below_size (by repeat (first | (with_reducible first | exact HB.out | apply below_alloc | apply pw_below_drewN | apply below_drew1) | exact HB.out))) : w.heap.size ≤ gb113)); have n3_ := Aside0.mk ((by rw [hg]; exact (below_size (by repeat (first | (with_reducible first | exact HB.out | apply below_alloc | apply pw_below_drewN | apply below_drew1) | exact HB.out))) : w.heap.size ≤ gb113)); clear HB; have HB := n0_; have BK113 := n1_; have GW113 := n2_; have GE113 := n3_; clear n0_ n1_ n2_ n3_; clear hb hbox hg; have hcz5_0 : w4.cell? ⟨gb113, 0, none⟩ = some (.int .i64 a0_0) := (blk_cell BK113.out 0).trans rfl; have hcz5_1 : w4.cell? ⟨gb113, 1, none⟩ = some (.int .i64 a0_1) := (blk_cell BK113.out 1).trans rfl; have hcz5_2 : w4.cell? ⟨gb113, 2, none⟩ = some (.string a0_2) := (blk_cell BK113.out 2).trans rfl; have hfz5_0 := blk_frozen BK113.out 0; have hfz5_1 := blk_frozen BK113.out 1; have hfz5_2 := blk_frozen BK113.out 2))
      go_ret
      exact ⟨by first | rfl | (simp [errW_none, errW_some] <;> rfl) | (simp [*, errW_none, errW_some] <;> rfl), by repeat (first | (with_reducible first | exact HB.out | apply below_alloc | apply pw_below_drewN | apply below_drew1 | refine below_set ?_ GE113.out) | exact HB.out)⟩
    · rw [if_neg c3] at H
      have c3b0 : (a0_1 == 0) = false := beq_eq_false_iff_ne.mpr c3
      have c3b1 : (a0_1 != 0) = true := bne_iff_ne.mpr c3
      obtain rfl := Option.some.inj H
      go_enter Tryd.func80, Tryd.ntmps80
      go_wp2_with (first | ((with_reducible refine gate_dst (N := 1) rfl ?_); refine box_event ?hg (N := 1) ?hd (cs := #[.int .i64 a0_0, .int .i64 a0_1, .string a0_2]) (t := 39) ?hr ?_; (case hd => rfl); (case hg => rfl); (case hr => first | (go_simp; done) | (go_simp; rfl)); intro gb113 hg w6 hbox hb; have n0_ := Aside0.mk (below_step (by repeat (first | (with_reducible first | exact HB.out | apply below_alloc | apply pw_below_drewN | apply below_drew1) | exact HB.out)) hb); have n1_ := Aside0.mk (hbox); have n2_ := Aside0.mk ((by rw [hg]; exact (below_size (by repeat (first | (with_reducible first | exact HB.out | apply below_alloc | apply pw_below_drewN | apply below_drew1) | exact HB.out))) : w.heap.size ≤ gb113)); have n3_ := Aside0.mk ((by rw [hg]; exact (below_size (by repeat (first | (with_reducible first | exact HB.out | apply below_alloc | apply pw_below_drewN | apply below_drew1) | exact HB.out))) : w.heap.size ≤ gb113)); clear HB; have HB := n0_; have BK113 := n1_; have GW113 := n2_; have GE113 := n3_; clear n0_ n1_ n2_ n3_; clear hb hbox hg; have hcz7_0 : w6.cell? ⟨gb113, 0, none⟩ = some (.int .i64 a0_0) := (blk_cell BK113.out 0).trans rfl; have hcz7_1 : w6.cell? ⟨gb113, 1, none⟩ = some (.int .i64 a0_1) := (blk_cell BK113.out 1).trans rfl; have hcz7_2 : w6.cell? ⟨gb113, 2, none⟩ = some (.string a0_2) := (blk_cell BK113.out 2).trans rfl; have hfz7_0 := blk_frozen BK113.out 0; have hfz7_1 := blk_frozen BK113.out 1; have hfz7_2 := blk_frozen BK113.out 2))
      go_ret
      exact ⟨by first | rfl | (simp [errW_none, errW_some] <;> rfl) | (simp [*, errW_none, errW_some] <;> rfl), by repeat (first | (with_reducible first | exact HB.out | apply below_alloc | apply pw_below_drewN | apply below_drew1 | refine below_set ?_ GE113.out) | exact HB.out)⟩
  · rw [if_neg c2] at H
    have c2b0 : (a0_0 == 0) = false := beq_eq_false_iff_ne.mpr c2
    have c2b1 : (a0_0 != 0) = true := bne_iff_ne.mpr c2
    obtain rfl := Option.some.inj H
    go_enter Tryd.func80, Tryd.ntmps80
    go_wp2_with (first | ((with_reducible refine gate_dst (N := 1) rfl ?_); refine box_event ?hg (N := 1) ?hd (cs := #[.int .i64 a0_0, .int .i64 a0_1, .string a0_2]) (t := 39) ?hr ?_; (case hd => rfl); (case hg => rfl); (case hr => first | (go_simp; done) | (go_simp; rfl)); intro gb113 hg w8 hbox hb; have n0_ := Aside0.mk (below_step (by repeat (first | (with_reducible first | exact HB.out | apply below_alloc | apply pw_below_drewN | apply below_drew1) | exact HB.out)) hb); have n1_ := Aside0.mk (hbox); have n2_ := Aside0.mk ((by rw [hg]; exact (below_size (by repeat (first | (with_reducible first | exact HB.out | apply below_alloc | apply pw_below_drewN | apply below_drew1) | exact HB.out))) : w.heap.size ≤ gb113)); have n3_ := Aside0.mk ((by rw [hg]; exact (below_size (by repeat (first | (with_reducible first | exact HB.out | apply below_alloc | apply pw_below_drewN | apply below_drew1) | exact HB.out))) : w.heap.size ≤ gb113)); clear HB; have HB := n0_; have BK113 := n1_; have GW113 := n2_; have GE113 := n3_; clear n0_ n1_ n2_ n3_; clear hb hbox hg; have hcz9_0 : w8.cell? ⟨gb113, 0, none⟩ = some (.int .i64 a0_0) := (blk_cell BK113.out 0).trans rfl; have hcz9_1 : w8.cell? ⟨gb113, 1, none⟩ = some (.int .i64 a0_1) := (blk_cell BK113.out 1).trans rfl; have hcz9_2 : w8.cell? ⟨gb113, 2, none⟩ = some (.string a0_2) := (blk_cell BK113.out 2).trans rfl; have hfz9_0 := blk_frozen BK113.out 0; have hfz9_1 := blk_frozen BK113.out 1; have hfz9_2 := blk_frozen BK113.out 2))
    go_ret
    exact ⟨by first | rfl | (simp [errW_none, errW_some] <;> rfl) | (simp [*, errW_none, errW_some] <;> rfl), by repeat (first | (with_reducible first | exact HB.out | apply below_alloc | apply pw_below_drewN | apply below_drew1 | refine below_set ?_ GE113.out) | exact HB.out)⟩

end Go.Proofs.YtfkdldaadjhcfaaDoor.PPlanLeads
