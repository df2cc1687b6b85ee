-- Written by wip/pp of this repo (over the kit's print, with additions of this session); Lean checks every line.
import Derived.Test.YtfkdldaadjhcfaaPEvalSplitsx0
namespace Go.Proofs.Ytfkdldaadjhcfaa.PEvalSplits
open Go.RowKit Go.Proofs.YtfkdldaadjhcfaaW.PrintWords Go.Proofs.YtfkdldaadjhcfaaW.PrintLast Go.Proofs.YtfkdldaadjhcfaaW.PrintMore
attribute [local go_sem] max2_int min2_int max_two min_two max_three min_three max_four min_four   -- for this text's walks alone
set_option linter.unusedVariables false
set_option linter.unusedSimpArgs false

/-! ### commonholdlaw_sameExprs: function 10, by hand -/
-- HAND rounds=1 making=1 alone=1 imports=Derived.Deep.RegionHeld3,Derived.Deep.RegionWith
/-- Are two trees the same, n levels down? -/
def commonholdlaw_sameExprs.eqs (f : S26 → S26 → Bool) : List S26 → List S26 → Bool
  | [], [] => true
  | a :: r, b :: q => f a b && commonholdlaw_sameExprs.eqs f r q
  | _, _ => false
def commonholdlaw_sameExprs.eqN : Nat → S26 → S26 → Bool
  | 0, _, _ => false
  | n + 1, a, b => decide (a.f0 = b.f0) && decide (a.f1.f0 = b.f1.f0) && decide (a.f1.f1 = b.f1.f1) && decide (a.f1.f2 = b.f1.f2) && decide (a.f2 = b.f2) && decide (a.f3 = b.f3) && decide (a.f4 = b.f4) && commonholdlaw_sameExprs.eqs (commonholdlaw_sameExprs.eqN n) a.f5 b.f5
theorem commonholdlaw_sameExprs.eqs_eq {f : S26 → S26 → Bool} (h : ∀ a b, f a b = true → a = b) : ∀ l m, commonholdlaw_sameExprs.eqs f l m = true → l = m
  | [], [], _ => rfl
  | [], _ :: _, e => by simp [commonholdlaw_sameExprs.eqs] at e
  | _ :: _, [], e => by simp [commonholdlaw_sameExprs.eqs] at e
  | a :: r, b :: q, e => by
    simp only [commonholdlaw_sameExprs.eqs, Bool.and_eq_true] at e
    rw [h a b e.1, commonholdlaw_sameExprs.eqs_eq h r q e.2]
theorem commonholdlaw_sameExprs.eqN_eq : ∀ n a b, commonholdlaw_sameExprs.eqN n a b = true → a = b
  | 0, _, _, e => by simp [commonholdlaw_sameExprs.eqN] at e
  | n + 1, a, b, e => by
    simp only [commonholdlaw_sameExprs.eqN, Bool.and_eq_true, decide_eq_true_eq] at e
    obtain ⟨⟨⟨⟨⟨⟨⟨e0, e1⟩, e2⟩, e3⟩, e4⟩, e5⟩, e6⟩, e7⟩ := e
    have e8 := commonholdlaw_sameExprs.eqs_eq (commonholdlaw_sameExprs.eqN_eq n) _ _ e7
    obtain ⟨a0, ⟨a1, a2, a3⟩, a4, a5, a6, a7⟩ := a
    obtain ⟨b0, ⟨b1, b2, b3⟩, b4, b5, b6, b7⟩ := b
    simp only at e0 e1 e2 e3 e4 e5 e6 e8
    subst e0 e1 e2 e3 e4 e5 e6 e8
    rfl
/-- Is it at most n deep? -/
def commonholdlaw_sameExprs.deep : Nat → S26 → Prop
  | 0, _ => False
  | n + 1, e => ∀ s ∈ e.f5, commonholdlaw_sameExprs.deep n s
theorem commonholdlaw_sameExprs.eqs_self {f : S26 → S26 → Bool} : ∀ l, (∀ x ∈ l, f x x = true) → commonholdlaw_sameExprs.eqs f l l = true
  | [], _ => rfl
  | a :: r, h => by
    simp only [commonholdlaw_sameExprs.eqs, Bool.and_eq_true]
    exact ⟨h a (by simp), commonholdlaw_sameExprs.eqs_self r (fun x hx => h x (by simp [hx]))⟩
theorem commonholdlaw_sameExprs.self_eqs {f : S26 → S26 → Bool} : ∀ l, commonholdlaw_sameExprs.eqs f l l = true → ∀ x ∈ l, f x x = true
  | [], _, x, hx => by simp at hx
  | a :: r, h, x, hx => by
    simp only [commonholdlaw_sameExprs.eqs, Bool.and_eq_true] at h
    rcases List.mem_cons.1 hx with rfl | hx
    · exact h.1
    · exact commonholdlaw_sameExprs.self_eqs r h.2 x hx
theorem commonholdlaw_sameExprs.eqN_self : ∀ n e, commonholdlaw_sameExprs.deep n e → commonholdlaw_sameExprs.eqN n e e = true
  | 0, _, h => h.elim
  | n + 1, e, h => by
    simp only [commonholdlaw_sameExprs.eqN, decide_true, Bool.true_and]
    exact commonholdlaw_sameExprs.eqs_self _ (fun x hx => commonholdlaw_sameExprs.eqN_self n x (h x hx))
theorem commonholdlaw_sameExprs.self_deep : ∀ n e, commonholdlaw_sameExprs.eqN n e e = true → commonholdlaw_sameExprs.deep n e
  | 0, _, h => by simp [commonholdlaw_sameExprs.eqN] at h
  | n + 1, e, h => by
    simp only [commonholdlaw_sameExprs.eqN, decide_true, Bool.true_and] at h
    exact fun x hx => commonholdlaw_sameExprs.self_deep n x (commonholdlaw_sameExprs.self_eqs _ h x hx)
theorem commonholdlaw_sameExprs.eqN_more : ∀ n a b, commonholdlaw_sameExprs.eqN n a b = true → commonholdlaw_sameExprs.eqN (n + 1) a b = true := by
  intro n a b h
  obtain rfl := commonholdlaw_sameExprs.eqN_eq n a b h
  have h2 := commonholdlaw_sameExprs.self_deep n a h
  refine commonholdlaw_sameExprs.eqN_self (n + 1) a ?_
  have more : ∀ n e, commonholdlaw_sameExprs.deep n e → commonholdlaw_sameExprs.deep (n + 1) e := fun n => by
    induction n with
    | zero => intro e h; exact h.elim
    | succ n ih => intro e h s hs; exact ih s (h s hs)
  exact more n a h2
theorem commonholdlaw_sameExprs.eqs_more {n : Nat} : ∀ l m, commonholdlaw_sameExprs.eqs (commonholdlaw_sameExprs.eqN n) l m = true → commonholdlaw_sameExprs.eqs (commonholdlaw_sameExprs.eqN (n + 1)) l m = true
  | [], [], _ => rfl
  | [], _ :: _, e => by simp [commonholdlaw_sameExprs.eqs] at e
  | _ :: _, [], e => by simp [commonholdlaw_sameExprs.eqs] at e
  | a :: r, b :: q, e => by
    simp only [commonholdlaw_sameExprs.eqs, Bool.and_eq_true] at e ⊢
    exact ⟨commonholdlaw_sameExprs.eqN_more n a b e.1, commonholdlaw_sameExprs.eqs_more r q e.2⟩
def commonholdlaw_sameExprs.f (k : Nat) (l0 l1 : List S26) : Option Bool := if commonholdlaw_sameExprs.eqs (commonholdlaw_sameExprs.eqN k) l0 l1 = true then some true else none
theorem commonholdlaw_sameExprs.mono : ∀ a0 a1 k, LeO (commonholdlaw_sameExprs.f k a0 a1) (commonholdlaw_sameExprs.f (k + 1) a0 a1) := by
  intro a0 a1 k
  unfold commonholdlaw_sameExprs.f
  by_cases h : commonholdlaw_sameExprs.eqs (commonholdlaw_sameExprs.eqN k) a0 a1 = true
  · rw [if_pos h, if_pos (commonholdlaw_sameExprs.eqs_more _ _ h)]; exact LeO.refl _
  · rw [if_neg h]; exact LeO.none _
theorem commonholdlaw_sameExprs.at_ {w : World} {A : Option Addr} {l : List S26} (h : Kd.C k26 w A l.length l) (h0 : 0 < l.length) : ∃ b o, A = some ⟨b, o, none⟩ ∧ ∀ (i : Nat) (hi : i < l.length), ∃ A7 c7,
    w.cell? ⟨b, o + i * 8, none⟩ = some (.int .i64 l[i].f0) ∧ w.cell? ⟨b, o + i * 8 + 1, none⟩ = some (.int .i64 l[i].f1.f0) ∧ w.cell? ⟨b, o + i * 8 + 2, none⟩ = some (.int .i64 l[i].f1.f1) ∧ w.cell? ⟨b, o + i * 8 + 3, none⟩ = some (.string l[i].f1.f2) ∧ w.cell? ⟨b, o + i * 8 + 4, none⟩ = some (.string l[i].f2) ∧ w.cell? ⟨b, o + i * 8 + 5, none⟩ = some (.string l[i].f3) ∧ w.cell? ⟨b, o + i * 8 + 6, none⟩ = some (.int .i64 l[i].f4) ∧ w.cell? ⟨b, o + i * 8 + 7, none⟩ = some (.slice A7 l[i].f5.length c7) ∧ l[i].f5.length ≤ c7 ∧ Kd.C k26 w A7 l[i].f5.length l[i].f5 := by
  obtain ⟨ad, A7, c7, rfl, g0, _⟩ := at_T26 h 0 (by omega) (by omega)
  have hs : ad.spot = none := by
    cases hsp : ad.spot with
    | none => rfl
    | some s =>
      exfalso
      rw [show ad.add ((0 : Int).toNat * 8) = ad from by simp [Addr.add]] at g0
      unfold World.cell? at g0
      split at g0
      · rw [hsp] at g0
        simp at g0
      · cases g0
  obtain ⟨b, o, sp⟩ := ad
  dsimp only at hs
  subst hs
  refine ⟨b, o, rfl, fun i hi => ?_⟩
  obtain ⟨ad, A7, c7, e, g0, g1, g2, g3, g4, g5, g6, g7, l7, r7⟩ := at_T26 h (i : Int) (by omega) (by omega)
  cases e
  have ee : rd_T26 l (i : Int) = l[i] := by simp [rd_T26, List.getD_eq_getElem?_getD, hi]
  have ha : (⟨b, o, none⟩ : Addr).add ((i : Int).toNat * 8) = ⟨b, o + i * 8, none⟩ := by rw [Int.toNat_natCast]; unfold Addr.add; split <;> simp_all
  rw [ee] at g0 g1 g2 g3 g4 g5 g6 g7 l7 r7
  rw [ha] at g0 g1 g2 g3 g4 g5 g6 g7
  exact ⟨A7, c7, g0, g1, g2, g3, g4, g5, g6, g7, l7, r7⟩
/-- What sameExpr tells of a tree read at two places. -/
def commonholdlaw_sameExprs.One (e : S26) : Prop := ∀ (A B : Option Addr) (c d : Nat) (w : World), Kd.C k26 w A e.f5.length e.f5 → e.f5.length ≤ c → Kd.C k26 w B e.f5.length e.f5 → e.f5.length ≤ d →
  Calls Try.prog 31 #[.agg #[.int .i64 e.f0, .int .i64 e.f1.f0, .int .i64 e.f1.f1, .string e.f1.f2, .string e.f2, .string e.f3, .int .i64 e.f4, .slice A e.f5.length c], .agg #[.int .i64 e.f0, .int .i64 e.f1.f0, .int .i64 e.f1.f1, .string e.f1.f2, .string e.f2, .string e.f3, .int .i64 e.f4, .slice B e.f5.length d]] w fun x w' => x = .returned (.bool true) ∧ Below w.heap.size w w'
set_option maxRecDepth 100000 in
set_option maxHeartbeats 4000000 in
theorem commonholdlaw_sameExprs.many (l : List S26) (A B : Option Addr) (c d : Nat) (w : World) (hA : Kd.C k26 w A l.length l) (hc : l.length ≤ c) (hB : Kd.C k26 w B l.length l) (hd : l.length ≤ d) (H : ∀ s ∈ l, commonholdlaw_sameExprs.One s) :
    Calls Try.prog 10 #[.slice A l.length c, .slice B l.length d] w fun x w' => x = .returned (.bool true) ∧ Below w.heap.size w w' := by
  have hm := hA.2.1
  have HA := Aside0.mk hA
  have HB := Aside0.mk hB
  have HH := Aside0.mk H
  have n1 : ((l.length : Int) != (l.length : Int)) = false := by simp
  clear hA hB H
  go_enter Try.func10, Try.ntmps10
  go_wp2
  go_loopw [5] (fun i wr => ∃ j : Nat, j ≤ l.length ∧ i = .int .i64 j ∧ Aside0 (Below w.heap.size w wr)) (fun i _ => l.length - (intOf i).toNat)
  case atStart => exact ⟨0, by omega, rfl, ⟨Below.refl _ _⟩⟩
  case round =>
    obtain ⟨j, hj, rfl, HW⟩ := hrel
    by_cases hlt : j < l.length
    · obtain ⟨b, o, rfl, hcs⟩ := commonholdlaw_sameExprs.at_ (Kd.C_below HA.out HW.out) (by omega)
      obtain ⟨b', o', rfl, hcs'⟩ := commonholdlaw_sameExprs.at_ (Kd.C_below HB.out HW.out) (by omega)
      obtain ⟨A8, c8, p0, p1, p2, p3, p4, p5, p6, p7, l8, r8⟩ := hcs j hlt
      obtain ⟨A9, c9, q0, q1, q2, q3, q4, q5, q6, q7, l9, r9⟩ := hcs' j hlt
      have hone := HH.out l[j] (List.getElem_mem hlt)
      generalize l[j] = x at *
      have hcall : ∀ W : World, Below wr.heap.size wr W → Calls Try.prog 31 #[.agg #[.int .i64 x.f0, .int .i64 x.f1.f0, .int .i64 x.f1.f1, .string x.f1.f2, .string x.f2, .string x.f3, .int .i64 x.f4, .slice A8 x.f5.length c8], .agg #[.int .i64 x.f0, .int .i64 x.f1.f0, .int .i64 x.f1.f1, .string x.f1.f2, .string x.f2, .string x.f3, .int .i64 x.f4, .slice A9 x.f5.length c9]] W fun y w' => y = .returned (.bool true) ∧ Below wr.heap.size wr w' := fun W hb => (hone A8 A9 c8 c9 W (Kd.C_below r8 hb) l8 (Kd.C_below r9 hb) l9).mono fun y w' ⟨h1, h2⟩ => ⟨h1, hb.trans (h2.mono hb.size)⟩
      have HC := Aside0.mk hcall
      have m1 : (0 : Int) ≤ (j : Int) := by omega
      have m2 : (j : Int) < (l.length : Int) := by omega
      clear hcs hcs' hone hcall r8 r9
      go_wp2
      first
        | fail
        | (go_region_held3 (fun W => W.cell? ⟨b, o + j * 8, none⟩ = some (.int .i64 x.f0) ∧ W.cell? ⟨b, o + j * 8 + 1, none⟩ = some (.int .i64 x.f1.f0) ∧ W.cell? ⟨b, o + j * 8 + 2, none⟩ = some (.int .i64 x.f1.f1) ∧ W.cell? ⟨b, o + j * 8 + 3, none⟩ = some (.string x.f1.f2) ∧ W.cell? ⟨b, o + j * 8 + 4, none⟩ = some (.string x.f2) ∧ W.cell? ⟨b, o + j * 8 + 5, none⟩ = some (.string x.f3) ∧ W.cell? ⟨b, o + j * 8 + 6, none⟩ = some (.int .i64 x.f4) ∧ W.cell? ⟨b, o + j * 8 + 7, none⟩ = some (.slice A8 x.f5.length c8) ∧ W.cell? ⟨b', o' + j * 8, none⟩ = some (.int .i64 x.f0) ∧ W.cell? ⟨b', o' + j * 8 + 1, none⟩ = some (.int .i64 x.f1.f0) ∧ W.cell? ⟨b', o' + j * 8 + 2, none⟩ = some (.int .i64 x.f1.f1) ∧ W.cell? ⟨b', o' + j * 8 + 3, none⟩ = some (.string x.f1.f2) ∧ W.cell? ⟨b', o' + j * 8 + 4, none⟩ = some (.string x.f2) ∧ W.cell? ⟨b', o' + j * 8 + 5, none⟩ = some (.string x.f3) ∧ W.cell? ⟨b', o' + j * 8 + 6, none⟩ = some (.int .i64 x.f4) ∧ W.cell? ⟨b', o' + j * 8 + 7, none⟩ = some (.slice A9 x.f5.length c9))
            (first | (with_reducible assumption) | go_keep | fail)
            ((first
              | (go_at_call 31; refine (HC.out _ (by first | exact Below.refl _ _ | exact below_drew1 (Below.refl _ _))).mono ?_; rintro y w2 ⟨rfl, hb2⟩; have hk2 : w2.cell? ⟨b, o + j * 8, none⟩ = some (.int .i64 x.f0) ∧ w2.cell? ⟨b, o + j * 8 + 1, none⟩ = some (.int .i64 x.f1.f0) ∧ w2.cell? ⟨b, o + j * 8 + 2, none⟩ = some (.int .i64 x.f1.f1) ∧ w2.cell? ⟨b, o + j * 8 + 3, none⟩ = some (.string x.f1.f2) ∧ w2.cell? ⟨b, o + j * 8 + 4, none⟩ = some (.string x.f2) ∧ w2.cell? ⟨b, o + j * 8 + 5, none⟩ = some (.string x.f3) ∧ w2.cell? ⟨b, o + j * 8 + 6, none⟩ = some (.int .i64 x.f4) ∧ w2.cell? ⟨b, o + j * 8 + 7, none⟩ = some (.slice A8 x.f5.length c8) ∧ w2.cell? ⟨b', o' + j * 8, none⟩ = some (.int .i64 x.f0) ∧ w2.cell? ⟨b', o' + j * 8 + 1, none⟩ = some (.int .i64 x.f1.f0) ∧ w2.cell? ⟨b', o' + j * 8 + 2, none⟩ = some (.int .i64 x.f1.f1) ∧ w2.cell? ⟨b', o' + j * 8 + 3, none⟩ = some (.string x.f1.f2) ∧ w2.cell? ⟨b', o' + j * 8 + 4, none⟩ = some (.string x.f2) ∧ w2.cell? ⟨b', o' + j * 8 + 5, none⟩ = some (.string x.f3) ∧ w2.cell? ⟨b', o' + j * 8 + 6, none⟩ = some (.int .i64 x.f4) ∧ w2.cell? ⟨b', o' + j * 8 + 7, none⟩ = some (.slice A9 x.f5.length c9) := ⟨pw_cell_below hb2 p0, pw_cell_below hb2 p1, pw_cell_below hb2 p2, pw_cell_below hb2 p3, pw_cell_below hb2 p4, pw_cell_below hb2 p5, pw_cell_below hb2 p6, pw_cell_below hb2 p7, pw_cell_below hb2 q0, pw_cell_below hb2 q1, pw_cell_below hb2 q2, pw_cell_below hb2 q3, pw_cell_below hb2 q4, pw_cell_below hb2 q5, pw_cell_below hb2 q6, pw_cell_below hb2 q7⟩)
              | fail)))
        | fail
      all_goals
        go_wp2
        go_roundw
        case rel => exact ⟨j + 1, by omega, by go_num, ⟨HW.out.trans (hb2.mono HW.out.size)⟩⟩
        case measure => simp [intOf]; omega
    · obtain rfl : j = l.length := by omega
      go_wp2
      go_ret
      exact ⟨rfl, HW.out⟩
set_option maxRecDepth 100000 in
set_option maxHeartbeats 4000000 in
theorem commonholdlaw_sameExprs.one (n : Nat) : ∀ e : S26, commonholdlaw_sameExprs.deep n e → commonholdlaw_sameExprs.One e := by
  induction n with
  | zero => intro e h; exact h.elim
  | succ n ih =>
  intro e he A B c d w hA hc hB hd
  have hm := hA.2.1
  have hcall : ∀ W : World, Below w.heap.size w W → Calls Try.prog 10 #[.slice A e.f5.length c, .slice B e.f5.length d] W fun x w' => x = .returned (.bool true) ∧ Below w.heap.size w w' := fun W hb => (commonholdlaw_sameExprs.many e.f5 A B c d W (Kd.C_below hA hb) hc (Kd.C_below hB hb) hd (fun s hs => ih s (he s hs))).mono fun y w' ⟨h1, h2⟩ => ⟨h1, hb.trans (h2.mono hb.size)⟩
  have HC := Aside0.mk hcall
  clear hcall hA hB he ih
  go_enter Try.func31, Try.ntmps31
  go_wp2_with (go_at_call 10; refine (HC.out _ (below_alloc (below_alloc (Below.refl _ _) _) _)).mono ?_; rintro y w2 ⟨rfl, hb2⟩)
  go_ret
  exact ⟨rfl, hb2⟩
theorem commonholdlaw_sameExprs.calls (k : Nat) (A0 : Option Addr) (c0 : Nat) (l0 : List S26) (A1 : Option Addr) (c1 : Nat) (l1 : List S26) (r : Bool) (w : World) (hr0 : Kd.C k26 w A0 l0.length l0) (hc0 : l0.length ≤ c0) (hr1 : Kd.C k26 w A1 l1.length l1) (hc1 : l1.length ≤ c1) (h : commonholdlaw_sameExprs.f k l0 l1 = some r) :
    Calls Try.prog 10 #[.slice A0 l0.length c0, .slice A1 l1.length c1] w fun e w' => e = .returned (.bool r) ∧ Below w.heap.size w w' := by
  unfold commonholdlaw_sameExprs.f at h
  split at h
  · rename_i he
    cases h
    obtain rfl := commonholdlaw_sameExprs.eqs_eq (commonholdlaw_sameExprs.eqN_eq k) _ _ he
    exact commonholdlaw_sameExprs.many l0 A0 A1 c0 c1 w hr0 hc0 hr1 hc1 (fun s hs => commonholdlaw_sameExprs.one k s (commonholdlaw_sameExprs.self_deep k s (commonholdlaw_sameExprs.self_eqs _ he s hs)))
  · cases h

-- NOT PRINTED: function 32 (eval_conjuncts)

/-! ### eval_Split: function 11, by hand -/
-- HAND rounds=1 making=1 share=0.7 rsh=0:N imports=Derived.Deep.RegionLaw,Derived.Deep.RegionHeld3,Derived.Deep.RegionWith,Derived.Lib.SliceRun
-- INFO 26
/-- No list in it is too long, n levels down. -/
def eval_Split.fits : Nat → S26 → Bool
  | 0, _ => false
  | n + 1, e => decide (e.f5.length * 104 ≤ 140737488355328) && e.f5.all (eval_Split.fits n)
theorem eval_Split.FK_open {w : World} {ok : Nat → Prop} {x : S26} {cs : List Value} (h : Kd.FK k26 w ok x cs) : ∃ A c, cs = [.int .i64 x.f0, .int .i64 x.f1.f0, .int .i64 x.f1.f1, .string x.f1.f2, .string x.f2, .string x.f3, .int .i64 x.f4, .slice A x.f5.length c] ∧ x.f5.length ≤ c ∧ Kd.F k26 w ok A x.f5.length x.f5 := by
  obtain ⟨A, c, rfl, hl, hr⟩ := k26_open (Kd.FK_now h)
  refine ⟨A, c, rfl, hl, fun W' hW => ?_⟩
  obtain ⟨A', c', he, _, g'⟩ := k26_open (h W' hW)
  have ha : A = A' := by
    simp only [List.cons.injEq, Value.slice.injEq, true_and, and_true] at he
    exact he.1
  rw [ha]
  exact g'
theorem eval_Split.FK_mk {w : World} {ok : Nat → Prop} (x : S26) {A : Option Addr} {c : Nat} (hl : x.f5.length ≤ c) (hf : Kd.F k26 w ok A x.f5.length x.f5) : Kd.FK k26 w ok x [.int .i64 x.f0, .int .i64 x.f1.f0, .int .i64 x.f1.f1, .string x.f1.f2, .string x.f2, .string x.f3, .int .i64 x.f4, .slice A x.f5.length c] := fun W' hW => k26_mk W' x hl (hf W' hW)
theorem eval_Split.at_ {w : World} {ok : Nat → Prop} {A : Option Addr} {l : List S26} (h : Kd.F k26 w ok A l.length l) (h0 : 0 < l.length) : ∃ b o, A = some ⟨b, o, none⟩ ∧ ∀ (i : Nat) (hi : i < l.length), ∃ A7 c7,
    w.cell? ⟨b, o + i * 8, none⟩ = some (.int .i64 l[i].f0) ∧ w.cell? ⟨b, o + i * 8 + 1, none⟩ = some (.int .i64 l[i].f1.f0) ∧ w.cell? ⟨b, o + i * 8 + 2, none⟩ = some (.int .i64 l[i].f1.f1) ∧ w.cell? ⟨b, o + i * 8 + 3, none⟩ = some (.string l[i].f1.f2) ∧ w.cell? ⟨b, o + i * 8 + 4, none⟩ = some (.string l[i].f2) ∧ w.cell? ⟨b, o + i * 8 + 5, none⟩ = some (.string l[i].f3) ∧ w.cell? ⟨b, o + i * 8 + 6, none⟩ = some (.int .i64 l[i].f4) ∧ w.cell? ⟨b, o + i * 8 + 7, none⟩ = some (.slice A7 l[i].f5.length c7) ∧ l[i].f5.length ≤ c7 ∧ Kd.F k26 w ok A7 l[i].f5.length l[i].f5 := by
  obtain ⟨ad, cs, rfl, hcl, hK, hcc, _⟩ := Kd.F_get h z26 0 (by omega) (by omega)
  obtain ⟨A0, c0, rfl, _, _⟩ := eval_Split.FK_open hK
  have g0 : w.cell? ad = some (.int .i64 (l.getD (0 : Int).toNat z26).f0) := by
    have := hcc 0 _ rfl
    rwa [show ad.add ((0 : Int).toNat * k26.sz + 0) = ad from by simp [Addr.add]] at this
  have hs : ad.spot = none := by
    cases hsp : ad.spot with
    | none => rfl
    | some s =>
      exfalso
      unfold World.cell? at g0
      split at g0
      · rw [hsp] at g0
        simp at g0
      · cases g0
  obtain ⟨b, o, sp⟩ := ad
  dsimp only at hs
  subst hs
  refine ⟨b, o, rfl, fun i hi => ?_⟩
  obtain ⟨ad, cs, he, hcl, hK, hcc, _⟩ := Kd.F_get h z26 (i : Int) (by omega) (by omega)
  cases he
  obtain ⟨A7, c7, rfl, hl7, hF7⟩ := eval_Split.FK_open hK
  have ee : l.getD (i : Int).toNat z26 = l[i] := by simp [List.getD_eq_getElem?_getD, hi]
  rw [ee] at hcc hl7 hF7
  have ha : ∀ j, (⟨b, o, none⟩ : Addr).add ((i : Int).toNat * k26.sz + j) = ⟨b, o + i * 8 + j, none⟩ := fun j => by rw [Int.toNat_natCast, show k26.sz = 8 from rfl]; unfold Addr.add; split <;> simp_all <;> omega
  simp only [ha] at hcc
  exact ⟨A7, c7, hcc 0 _ rfl, hcc 1 _ rfl, hcc 2 _ rfl, hcc 3 _ rfl, hcc 4 _ rfl, hcc 5 _ rfl, hcc 6 _ rfl, hcc 7 _ rfl, hl7, hF7⟩
theorem eval_Split.at_alloc1 (w : World) (o1 : Obj) : (w.alloc o1).heap[w.heap.size]? = some o1 := by
  have h : (w.heap.push o1)[w.heap.size]? = some o1 := by simp
  exact h
theorem eval_Split.at_old (w : World) (o : Obj) (j : Nat) (hj : j < w.heap.size) : (w.alloc o).heap[j]? = w.heap[j]? := by
  have h : (w.heap.push o)[j]? = w.heap[j]? := by
    rw [Array.getElem?_push, if_neg (by omega)]
  exact h
theorem eval_Split.set_ (l : List S26) (j : Nat) (h : j < l.length) : (l.take j ++ List.replicate (l.length - j) z26).set j l[j] = l.take (j + 1) ++ List.replicate (l.length - (j + 1)) z26 := by
  rw [List.take_succ_eq_append_getElem h, List.append_assoc]
  rw [List.set_append_right _ _ (by simp; omega)]
  simp only [List.length_take, show min j l.length = j by omega, Nat.sub_self]
  obtain ⟨m, hm⟩ : ∃ m, l.length - j = m + 1 := ⟨l.length - j - 1, by omega⟩
  rw [hm, show l.length - (j + 1) = m by omega, List.replicate_succ]
  rfl
theorem eval_Split.zeroFK (w : World) (ok : Nat → Prop) : Kd.FK k26 w ok z26 [.int .i64 0, .int .i64 0, .int .i64 0, .string { data := #[] }, .string { data := #[] }, .string { data := #[] }, .int .i64 0, .slice none 0 0] := eval_Split.FK_mk z26 (A := none) (c := 0) (Nat.le_refl _) (Kd.F_nil _ _ _)
/-- What own's loop holds: the new list so far, and the two variables. -/
def eval_Split.OwnSt (w wr : World) (e : S26) (ad : Addr) (c7 : Nat) (A1 : Option Addr) (c1 j : Nat) : Prop :=
  Kd.N k26 26 wr w.heap.size (fun k => w.heap.size + 2 ≤ k) (.slice A1 e.f5.length c1) (e.f5.take j ++ List.replicate (e.f5.length - j) z26) ∧ Below w.heap.size w wr ∧ wr.heap[w.heap.size]? = some (.cells #[.int .i64 e.f0, .int .i64 e.f1.f0, .int .i64 e.f1.f1, .string e.f1.f2, .string e.f2, .string e.f3, .int .i64 e.f4, .slice (some ad) e.f5.length c7] 26 (0, 0)) ∧ wr.heap[w.heap.size + 1]? = some (.cells #[.int .i64 0, .int .i64 0, .int .i64 0, .string { data := #[] }, .string { data := #[] }, .string { data := #[] }, .int .i64 0, .slice none 0 0] 26 (0, 0))
set_option maxRecDepth 100000 in
set_option maxHeartbeats 8000000 in
theorem eval_Split.own_ : ∀ (k : Nat) (e : S26) (A7 : Option Addr) (c7 : Nat) (ok : Nat → Prop) (w : World), eval_Split.fits k e = true → Kd.F k26 w ok A7 e.f5.length e.f5 → e.f5.length ≤ c7 →
    Calls Try.prog 34 #[.agg #[.int .i64 e.f0, .int .i64 e.f1.f0, .int .i64 e.f1.f1, .string e.f1.f2, .string e.f2, .string e.f3, .int .i64 e.f4, .slice A7 e.f5.length c7]] w fun x w' => ∃ A c, x = .returned (.agg #[.int .i64 e.f0, .int .i64 e.f1.f0, .int .i64 e.f1.f1, .string e.f1.f2, .string e.f2, .string e.f3, .int .i64 e.f4, .slice A e.f5.length c]) ∧ e.f5.length ≤ c ∧ Kd.F k26 w' (fun j => w.heap.size ≤ j) A e.f5.length e.f5 ∧ Below w.heap.size w w' := by
  intro k
  induction k with
  | zero => intro e A7 c7 ok w hfit; simp [eval_Split.fits] at hfit
  | succ k ih =>
  intro e A7 c7 ok w hfit hF hc
  have hC := Kd.F_now hF
  have hm := hC.2.1
  have hu := Try.underlying26
  simp only [eval_Split.fits, Bool.and_eq_true, decide_eq_true_eq, List.all_eq_true] at hfit
  cases A7 with
  | none =>
    have hnil : e.f5 = [] := by
      cases hq : e.f5 with
      | nil => rfl
      | cons x l =>
        obtain ⟨ad, e', _⟩ := hC.2.2 (by rw [hq]; simp)
        cases e'
    have q22 : ∀ (w : World) (n c : Nat), (binOp .eql 24 (.slice none n c) (.slice none 0 0)).run Try.prog w = .ok (.bool true) w := fun w n c => Lib.run_eql_slice_nil w _ _ none n c 0 0 Try.underlying24
    have HN := Aside0.mk hnil
    clear hnil hfit hF hC ih
    go_enter Try.func34, Try.ntmps34
    go_wp2
    refine bodyPost_ret (results_cell_row rfl _ _ (w.heap.size + 1) 26 _ (0, 0) _ rfl (heap_alloc2_new w _ _) hu rfl (by kernel_rfl)) rfl ?_
    refine ⟨none, c7, rfl, hc, ?_, below_alloc (below_alloc (Below.refl _ _) _) _⟩
    rw [HN.out]
    exact Kd.F_nil _ _ _
  | some ad =>
    have q22 : ∀ (w : World) (n c : Nat), (binOp .eql 24 (.slice (some ad) n c) (.slice none 0 0)).run Try.prog w = .ok (.bool false) w := fun w n c => Lib.run_eql_slice_nil w _ _ (some ad) n c 0 0 Try.underlying24
    have HF := Aside0.mk hF
    have HFI := Aside0.mk hfit
    have IH := Aside0.mk ih
    clear hF hfit ih hC
    go_enter Try.func34, Try.ntmps34
    go_wp2_with (refine Kd.N_make k26 (w0 := w) w.heap.size 26 rfl rfl 24 (.tmp 12) (.tmp 12) rfl (e.f5.length : Int) rfl rfl Try.underlying24 (.agg #[.int .i64 0, .int .i64 0, .int .i64 0, .string { data := #[] }, .string { data := #[] }, .string { data := #[] }, .int .i64 0, .slice none 0 0]) 104 info26 rfl (by decide) (by decide) z26 (ok := fun k => w.heap.size + 2 ≤ k) (okp := fun _ => False) (eval_Split.zeroFK _ _) (fun _ h => h.elim) (by simp) (by omega) (by have := HFI.out.1; omega) (below_alloc (below_alloc (Below.refl _ _) _) _) (by simp; omega) ?_; intro v1 w1 ho1 hb1 hg1 hown1; (obtain ⟨A1, c1, hv1⟩ := Kd.N_slice ho1); rw [List.length_replicate, Int.toNat_natCast] at hv1; subst hv1; rw [Int.toNat_natCast] at ho1; have hb0 := (hg1.block w.heap.size (by simp; omega) (by simp)).trans ((eval_Split.at_old _ _ _ (by simp)).trans (eval_Split.at_alloc1 w _)); have hb2 := (hg1.block (w.heap.size + 1) (by simp) (by simp)).trans (heap_alloc2_new w _ _); have HS : Aside0 (eval_Split.OwnSt w w1 e ad c7 A1 c1 0) := ⟨by simpa [eval_Split.OwnSt] using And.intro ho1 (And.intro hb1 (And.intro hb0 hb2))⟩; have hc7' : w1.cell? ⟨w.heap.size, 7, none⟩ = some (.slice (some ad) e.f5.length c7) := (blk_cell hb0 7).trans rfl; clear ho1 hb1 hg1 hown1 hb0 hb2)
    clear hc7'
    go_loopw [17] (fun i wr => ∃ j : Nat, j ≤ e.f5.length ∧ i = .int .i64 j ∧ Aside0 (eval_Split.OwnSt w wr e ad c7 A1 c1 j)) (fun i _ => e.f5.length - (intOf i).toNat)
    case atStart => exact ⟨0, Nat.zero_le _, rfl, HS⟩
    case round =>
      clear HS
      obtain ⟨j, hj, rfl, HS⟩ := hrel
      obtain ⟨hN, hB, h0, h1⟩ := HS.out
      by_cases hlt : j < e.f5.length
      · obtain ⟨g, cap, hv, hbg, hgl, cells, hcell⟩ := Kd.N_form hN (by simp; omega)
        rw [show (e.f5.take j ++ List.replicate (e.f5.length - j) z26).length = e.f5.length by simp; omega] at hv
        injection hv with hv1 _ hv2
        subst hv1 hv2
        have hg2 : w.heap.size + 2 ≤ g := hN.1 g (by simp [Value.ownBlock])
        obtain ⟨b, o, had, hcs⟩ := eval_Split.at_ (Kd.F_below HF.out hB) (by omega)
        cases had
        obtain ⟨A8, c8, p0, p1, p2, p3, p4, p5, p6, p7, l8, F8⟩ := hcs j hlt
        have HSET := Aside0.mk (eval_Split.set_ e.f5 j hlt)
        have hfx := HFI.out.2 _ (List.getElem_mem hlt)
        have HN := Aside0.mk hN
        have HB := Aside0.mk hB
        have H0 := Aside0.mk h0
        have H1 := Aside0.mk h1
        have HCA : Aside0 (∀ W : World, Below wr.heap.size wr W → Calls Try.prog 34 #[.agg #[.int .i64 e.f5[j].f0, .int .i64 e.f5[j].f1.f0, .int .i64 e.f5[j].f1.f1, .string e.f5[j].f1.f2, .string e.f5[j].f2, .string e.f5[j].f3, .int .i64 e.f5[j].f4, .slice A8 e.f5[j].f5.length c8]] W fun x w' => ∃ A c, x = .returned (.agg #[.int .i64 e.f5[j].f0, .int .i64 e.f5[j].f1.f0, .int .i64 e.f5[j].f1.f1, .string e.f5[j].f1.f2, .string e.f5[j].f2, .string e.f5[j].f3, .int .i64 e.f5[j].f4, .slice A e.f5[j].f5.length c]) ∧ e.f5[j].f5.length ≤ c ∧ Kd.F k26 w' (fun j => W.heap.size ≤ j) A e.f5[j].f5.length e.f5[j].f5 ∧ Below W.heap.size W w') := ⟨fun W hb => IH.out e.f5[j] A8 c8 ok W hfx (Kd.F_below F8 hb) l8⟩
        clear hcs hcell hN hB h0 h1 HS hfx F8
        generalize e.f5[j] = x at *
        go_wp2_with (first
          | (go_at_call 34; refine (HCA.out _ (below_alloc (Below.refl _ _) _)).mono ?_; rintro y w2 ⟨A9, c9, rfl, l9, F9, hb2⟩; have HB2 : Aside0 (Below wr.heap.size wr w2) := ⟨(below_alloc (Below.refl wr.heap.size wr) _).trans (hb2.mono (below_alloc (Below.refl wr.heap.size wr) _).size)⟩; have HF9 := Aside0.mk F9; have HL9 := Aside0.mk l9; (obtain ⟨cz, hcl, _, hcc, _⟩ := Kd.N_elem (Kd.N_below HN.out HB2.out) z26 (j : Int) (by omega) (by omega)); have HCC := Aside0.mk (And.intro hcl hcc); clear hb2 F9 l9 hcl hcc)
          | (refine Kd.N_store k26 (w0 := w) w.heap.size rfl rfl 26 (.tmp 26) (.tmp 25) rfl 26 (j : Int) 0 _ x (.agg #[.int .i64 x.f0, .int .i64 x.f1.f0, .int .i64 x.f1.f1, .string x.f1.f2, .string x.f2, .string x.f3, .int .i64 x.f4, .slice A9 x.f5.length c9]) [.int .i64 x.f0, .int .i64 x.f1.f0, .int .i64 x.f1.f1, .string x.f1.f2, .string x.f2, .string x.f3, .int .i64 x.f4, .slice A9 x.f5.length c9] cz (fun k => w.heap.size + 2 ≤ k) (fun k => wr.heap.size ≤ k) rfl (by rw [Int.toNat_natCast]; rfl) rfl rfl (by kernel_rfl) (k26.K_one (Kd.FK_now (eval_Split.FK_mk x HL9.out HF9.out))) (Kd.N_below HN.out HB2.out) (by omega) (by omega) HCC.out.1 HCC.out.2 (Nat.le_refl 8) ?cM ?cO ?cB ?_; (case cM => (rw [List.drop_eq_nil_of_le (by rw [HCC.out.1]; exact Nat.le_refl 8)]; simpa using Kd.FK_mono (eval_Split.FK_mk x HL9.out HF9.out) (fun q hq => by simp at hq; omega))); (case cO => intro q hq; omega); (case cB => exact HB.out.trans (HB2.out.mono HB.out.size)); intro w3 ho3 hb3 hg3; have HO3 := Aside0.mk ho3; have HB3 := Aside0.mk hb3; have HG3 := Aside0.mk hg3; clear ho3 hb3 hg3))
        go_roundw
        case rel =>
          refine ⟨j + 1, by omega, by go_num, ⟨?_, HB3.out, ?_, ?_⟩⟩
          · have h_ := HO3.out
            rw [Int.toNat_natCast, HSET.out] at h_
            exact h_
          · have h_ := HB2.out.size
            exact (HG3.out.block _ (by omega) (by simp; omega)).trans ((HB2.out.block _ (by omega)).trans H0.out)
          · have h_ := HB2.out.size
            exact (HG3.out.block _ (by omega) (by simp; omega)).trans ((HB2.out.block _ (by omega)).trans H1.out)
        case measure => simp [intOf]; omega
      · obtain rfl : j = e.f5.length := by omega
        rw [List.take_length, Nat.sub_self, List.replicate_zero, List.append_nil] at hN
        have HN := Aside0.mk hN
        have HB := Aside0.mk hB
        have H0 := Aside0.mk h0
        have H1 := Aside0.mk h1
        have y0 : wr.cell? ⟨w.heap.size, 0, none⟩ = some (.int .i64 e.f0) := (blk_cell h0 0).trans rfl
        have y1 : wr.cell? ⟨w.heap.size, 1, none⟩ = some (.int .i64 e.f1.f0) := (blk_cell h0 1).trans rfl
        have y2 : wr.cell? ⟨w.heap.size, 2, none⟩ = some (.int .i64 e.f1.f1) := (blk_cell h0 2).trans rfl
        have y3 : wr.cell? ⟨w.heap.size, 3, none⟩ = some (.string e.f1.f2) := (blk_cell h0 3).trans rfl
        have y4 : wr.cell? ⟨w.heap.size, 4, none⟩ = some (.string e.f2) := (blk_cell h0 4).trans rfl
        have y5 : wr.cell? ⟨w.heap.size, 5, none⟩ = some (.string e.f3) := (blk_cell h0 5).trans rfl
        have y6 : wr.cell? ⟨w.heap.size, 6, none⟩ = some (.int .i64 e.f4) := (blk_cell h0 6).trans rfl
        have y7 : wr.cell? ⟨w.heap.size, 7, none⟩ = some (.slice (some ad) e.f5.length c7) := (blk_cell h0 7).trans rfl
        have z0 : wr.cell? ⟨w.heap.size + 1, 0, none⟩ = some (.int .i64 0) := (blk_cell h1 0).trans rfl
        have z1 : wr.cell? ⟨w.heap.size + 1, 1, none⟩ = some (.int .i64 0) := (blk_cell h1 1).trans rfl
        have z2 : wr.cell? ⟨w.heap.size + 1, 2, none⟩ = some (.int .i64 0) := (blk_cell h1 2).trans rfl
        have z3 : wr.cell? ⟨w.heap.size + 1, 3, none⟩ = some (.string { data := #[] }) := (blk_cell h1 3).trans rfl
        have z4 : wr.cell? ⟨w.heap.size + 1, 4, none⟩ = some (.string { data := #[] }) := (blk_cell h1 4).trans rfl
        have z5 : wr.cell? ⟨w.heap.size + 1, 5, none⟩ = some (.string { data := #[] }) := (blk_cell h1 5).trans rfl
        have z6 : wr.cell? ⟨w.heap.size + 1, 6, none⟩ = some (.int .i64 0) := (blk_cell h1 6).trans rfl
        have z7 : wr.cell? ⟨w.heap.size + 1, 7, none⟩ = some (.slice none 0 0) := (blk_cell h1 7).trans rfl
        have f0 := blk_frozen h0 7
        have f10 := blk_frozen h1 0
        have f11 := blk_frozen h1 1
        have f12 := blk_frozen h1 2
        have f13 := blk_frozen h1 3
        have f14 := blk_frozen h1 4
        have f15 := blk_frozen h1 5
        have f16 := blk_frozen h1 6
        have f17 := blk_frozen h1 7
        clear hN hB h0 h1 HS
        go_wp2
        have hc1 := (Kd.N_reads' HN.out).2.1
        have HV : (((((((((wr.setCell ⟨w.heap.size, 7, none⟩ (.slice A1 e.f5.length c1)).setCell ⟨w.heap.size + 1, 0, none⟩ (.int .i64 e.f0)).setCell ⟨w.heap.size + 1, 1, none⟩ (.int .i64 e.f1.f0)).setCell ⟨w.heap.size + 1, 2, none⟩ (.int .i64 e.f1.f1)).setCell ⟨w.heap.size + 1, 3, none⟩ (.string e.f1.f2)).setCell ⟨w.heap.size + 1, 4, none⟩ (.string e.f2)).setCell ⟨w.heap.size + 1, 5, none⟩ (.string e.f3)).setCell ⟨w.heap.size + 1, 6, none⟩ (.int .i64 e.f4)).setCell ⟨w.heap.size + 1, 7, none⟩ (.slice A1 e.f5.length c1)).heap[w.heap.size + 1]? = some (.cells #[.int .i64 e.f0, .int .i64 e.f1.f0, .int .i64 e.f1.f1, .string e.f1.f2, .string e.f2, .string e.f3, .int .i64 e.f4, .slice A1 e.f5.length c1] 26 (0, 0)) := blk_put (blk_put (blk_put (blk_put (blk_put (blk_put (blk_put (blk_put (blk_far H1.out (p := ⟨w.heap.size, 7, none⟩) (by simp) (.slice A1 e.f5.length c1)) 0 (.int .i64 e.f0) rfl) 1 (.int .i64 e.f1.f0) rfl) 2 (.int .i64 e.f1.f1) rfl) 3 (.string e.f1.f2) rfl) 4 (.string e.f2) rfl) 5 (.string e.f3) rfl) 6 (.int .i64 e.f4) rfl) 7 (.slice A1 e.f5.length c1) rfl
        refine bodyPost_ret (results_cell_row rfl _ _ (w.heap.size + 1) 26 _ (0, 0) _ rfl HV hu rfl (by kernel_rfl)) rfl ?_
        refine ⟨A1, c1, rfl, hc1, ?_, ?_⟩
        · refine Kd.F_mono (ok := fun k => w.heap.size + 2 ≤ k) ?_ (fun q hq => by omega)
          repeat (refine Kd.F_far ?_ (fun q hq => by simp; omega) _)
          exact Kd.N_F HN.out
        · repeat (refine Below.setCell ?_ (by simp) _)
          exact HB.out
/-- The list behind the captured variable at block g, so far. -/
def eval_Split.St (w0 w : World) (g : Nat) (P : Nat → Prop) (acc : List S26) : Prop :=
  ∃ v, w.heap[g]? = some (.cells #[v] 24 (0, 0)) ∧ Kd.N k26 26 w w0.heap.size (fun k => P k ∧ k ≠ g) v acc ∧ Below w0.heap.size w0 w ∧ w0.heap.size ≤ g
/-- Nothing but the variable, the list and what is new has been written. -/
def eval_Split.Fr (w w' : World) (g : Nat) (P : Nat → Prop) : Prop := w.heap.size ≤ w'.heap.size ∧ ∀ k, k < w.heap.size → ¬ P k → k ≠ g → w'.heap[k]? = w.heap[k]?
theorem eval_Split.St.weak {w0 w : World} {g : Nat} {P P' : Nat → Prop} {xs : List S26} (h : eval_Split.St w0 w g P xs) (hp : ∀ k, P k → P' k) : eval_Split.St w0 w g P' xs := by
  obtain ⟨v, hg, hR, hB, hge⟩ := h
  exact ⟨v, hg, Kd.N_mono hR (fun k hk => ⟨hp k hk.1, hk.2⟩), hB, hge⟩
theorem eval_Split.St.grow {w0 w : World} {g : Nat} {P : Nat → Prop} {xs : List S26} (h : eval_Split.St w0 w g P xs) (o : Obj) : eval_Split.St w0 (w.alloc o) g (fun k => P k ∧ k ≠ w.heap.size) xs := by
  obtain ⟨v, hg, hR, hB, hge⟩ := h
  refine ⟨v, (eval_Split.at_old w o g (blk_lt hg)).trans hg, ?_, below_alloc hB o, hge⟩
  exact Kd.N_alloc (Kd.N_mono (Kd.N_bound hR) (fun k hk => ⟨⟨hk.1.1, Nat.ne_of_lt hk.2⟩, hk.1.2⟩)) o
theorem eval_Split.Fr.trans {w w1 w2 : World} {g : Nat} {P : Nat → Prop} (h : eval_Split.Fr w w1 g P) (h2 : eval_Split.Fr w1 w2 g P) : eval_Split.Fr w w2 g P :=
  ⟨Nat.le_trans h.1 h2.1, fun k hk hp hg => (h2.2 k (Nat.lt_of_lt_of_le hk h.1) hp hg).trans (h.2 k hk hp hg)⟩
theorem eval_Split.Fr.of_below {w w1 : World} (g : Nat) (P : Nat → Prop) (h : Below w.heap.size w w1) : eval_Split.Fr w w1 g P := ⟨h.size, fun k hk _ _ => h.block k hk⟩
theorem eval_Split.litF {w : World} {b : Nat} {fr : Nat × Nat} (h : w.heap[b]? = some (.cells #[.int .i64 0, .int .i64 0, .int .i64 0, .string { data := #[] }, .string { data := #[] }, .string { data := #[] }, .int .i64 0, .slice none 0 0] 26 fr)) : Kd.F k26 w (fun q => q = b) (some ⟨b, 0, none⟩) 1 [z26] := by
  intro W' hW
  have hlt := blk_lt h
  have h2 := (hW b rfl hlt).trans h
  refine ⟨rfl, by decide, fun _ => ⟨_, rfl, fun j q hq => ?_⟩⟩
  obtain rfl : j = 0 := by
    rcases j with _ | j
    · rfl
    · simp at hq
  obtain rfl : z26 = q := by simpa using hq
  refine ⟨[.int .i64 0, .int .i64 0, .int .i64 0, .string { data := #[] }, .string { data := #[] }, .string { data := #[] }, .int .i64 0, .slice none 0 0], rfl, k26_mk W' z26 (A7 := none) (c7 := 0) (Nat.le_refl _) (Kd.C_nil _ _), fun i u hu => ?_⟩
  rw [show (⟨b, 0, none⟩ : Addr).add (0 * k26.sz + i) = ⟨b, i, none⟩ from by rw [add_plain]; simp]
  simp [World.cell?, h2]
  simpa using hu
theorem eval_Split.aft {w0 w W w3 : World} {g : Nat} {P : Nat → Prop} {acc : List S26} {A1 : Option Addr} {c1 : Nat} {v3 : Value} {e : S26} {A7 : Option Addr} {c7 : Nat} (hN : Kd.N k26 26 w w0.heap.size (fun k => P k ∧ k ≠ g) (.slice A1 acc.length c1) acc) (hG : W.heap[g]? = some (.cells #[.slice A1 acc.length c1] 24 (0, 0))) (hX : W.heap[w.heap.size]? = some (.cells #[.int .i64 e.f0, .int .i64 e.f1.f0, .int .i64 e.f1.f1, .string e.f1.f2, .string e.f2, .string e.f3, .int .i64 e.f4, .slice A7 e.f5.length c7] 26 (0, 0))) (hbl : w.heap.size < W.heap.size) (hgl : g < w.heap.size)
    (ho : Kd.N k26 26 w3 w0.heap.size (fun k => (P k ∧ k ≠ g) ∧ k ≠ w.heap.size) v3 (acc ++ [z26])) (hg_ : W.grownBy w3 (Value.slice A1 acc.length c1).ownBlock) (hat : v3.ownBlock = (Value.slice A1 acc.length c1).ownBlock ∨ ∃ b, v3.ownBlock = some b ∧ W.heap.size ≤ b) {A9 : Option Addr} {l9 : List S26} (hF : Kd.F k26 W (fun q => w.heap.size < q) A9 l9.length l9) (hbw : Below w.heap.size w W) :
    ∃ g3 c3, v3 = .slice (some ⟨g3, 0, none⟩) (acc.length + 1) c3 ∧ g ≠ g3 ∧ g3 ≠ g ∧ w.heap.size ≠ g3 ∧ g3 ≠ w.heap.size ∧ w3.cell? ⟨g3, acc.length * 8, none⟩ = some (.int .i64 0) ∧ w3.cell? ⟨g3, acc.length * 8 + 1, none⟩ = some (.int .i64 0) ∧ w3.cell? ⟨g3, acc.length * 8 + 2, none⟩ = some (.int .i64 0) ∧ w3.cell? ⟨g3, acc.length * 8 + 3, none⟩ = some (.string { data := #[] }) ∧ w3.cell? ⟨g3, acc.length * 8 + 4, none⟩ = some (.string { data := #[] }) ∧ w3.cell? ⟨g3, acc.length * 8 + 5, none⟩ = some (.string { data := #[] }) ∧ w3.cell? ⟨g3, acc.length * 8 + 6, none⟩ = some (.int .i64 0) ∧ (∃ u, w3.cell? ⟨g3, acc.length * 8 + 7, none⟩ = some u) ∧ w3.frozen? ⟨g3, acc.length * 8, none⟩ = false ∧ w3.frozen? ⟨g3, acc.length * 8 + 1, none⟩ = false ∧ w3.frozen? ⟨g3, acc.length * 8 + 2, none⟩ = false ∧ w3.frozen? ⟨g3, acc.length * 8 + 3, none⟩ = false ∧ w3.frozen? ⟨g3, acc.length * 8 + 4, none⟩ = false ∧ w3.frozen? ⟨g3, acc.length * 8 + 5, none⟩ = false ∧ w3.frozen? ⟨g3, acc.length * 8 + 6, none⟩ = false ∧ w3.frozen? ⟨g3, acc.length * 8 + 7, none⟩ = false ∧ w3.heap[g]? = some (.cells #[.slice A1 acc.length c1] 24 (0, 0)) ∧ w3.heap[w.heap.size]? = some (.cells #[.int .i64 e.f0, .int .i64 e.f1.f0, .int .i64 e.f1.f1, .string e.f1.f2, .string e.f2, .string e.f3, .int .i64 e.f4, .slice A7 e.f5.length c7] 26 (0, 0)) ∧ (w3.cell? ⟨w.heap.size, 0, none⟩ = some (.int .i64 e.f0) ∧ w3.cell? ⟨w.heap.size, 1, none⟩ = some (.int .i64 e.f1.f0) ∧ w3.cell? ⟨w.heap.size, 2, none⟩ = some (.int .i64 e.f1.f1) ∧ w3.cell? ⟨w.heap.size, 3, none⟩ = some (.string e.f1.f2) ∧ w3.cell? ⟨w.heap.size, 4, none⟩ = some (.string e.f2) ∧ w3.cell? ⟨w.heap.size, 5, none⟩ = some (.string e.f3) ∧ w3.cell? ⟨w.heap.size, 6, none⟩ = some (.int .i64 e.f4) ∧ w3.cell? ⟨w.heap.size, 7, none⟩ = some (.slice A7 e.f5.length c7)) ∧ w0.heap.size ≤ g3 ∧ Kd.F k26 w3 (fun q => w.heap.size < q ∧ q ≠ g3) A9 l9.length l9 ∧ (w.heap.size ≤ w3.heap.size ∧ ∀ k, k < w.heap.size → ¬ P k → k ≠ g → w3.heap[k]? = w.heap[k]?) := by
  have h3g := (hg_.block g (by omega) (fun e_ => (hN.1 g e_.symm).2 rfl)).trans hG
  have h3b := (hg_.block w.heap.size hbl (fun e_ => by have := Kd.N_lt hN w.heap.size e_.symm; omega)).trans hX
  obtain ⟨g3, c3, hv3, hbg3, hgl3, cells3, hcell3⟩ := Kd.N_form ho (by simp)
  rw [List.length_append, List.length_singleton] at hv3
  subst hv3
  obtain ⟨⟨hP3, hne3⟩, hnb3⟩ := ho.1 g3 rfl
  obtain ⟨cz, hcl, hFK, hcc, hfr⟩ := Kd.N_elem ho z26 (acc.length : Int) (by omega) (by omega)
  rw [show (acc ++ [z26]).getD (acc.length : Int).toNat z26 = z26 from by simp] at hFK
  obtain ⟨Az, cz', hcz, _⟩ := eval_Split.FK_open hFK
  subst hcz
  simp only [Int.toNat_natCast, show k26.sz = 8 from rfl] at hcc hfr
  refine ⟨g3, c3, rfl, fun e_ => hne3 e_.symm, hne3, fun e_ => hnb3 e_.symm, hnb3, hcc 0 _ rfl, hcc 1 _ rfl, hcc 2 _ rfl, hcc 3 _ rfl, hcc 4 _ rfl, hcc 5 _ rfl, hcc 6 _ rfl, ⟨_, hcc 7 _ rfl⟩, hfr 0, hfr 1, hfr 2, hfr 3, hfr 4, hfr 5, hfr 6, hfr 7, h3g, h3b, ⟨(blk_cell h3b 0).trans rfl, (blk_cell h3b 1).trans rfl, (blk_cell h3b 2).trans rfl, (blk_cell h3b 3).trans rfl, (blk_cell h3b 4).trans rfl, (blk_cell h3b 5).trans rfl, (blk_cell h3b 6).trans rfl, (blk_cell h3b 7).trans rfl⟩, hbg3, ?_, ?_⟩
  · refine Kd.F_mono (Kd.F_grown (Kd.F_bound hF) hg_ (fun q hq e_ => by have := Kd.N_lt hN q e_.symm; omega)) (fun q hq => ⟨hq.1, fun e_ => ?_⟩)
    rcases hat with hat | ⟨b, hb, hle⟩
    · have := Kd.N_lt hN g3 (hat.symm.trans rfl)
      omega
    · have hb2 : g3 = b := by simpa [Value.ownBlock] using hb
      omega
  · refine ⟨Nat.le_trans hbw.size hg_.size, fun q h1 h2 h3 => ?_⟩
    have := hbw.size
    exact (hg_.block q (by omega) (fun e_ => h2 (hN.1 q e_.symm).1)).trans (hbw.block q h1)
theorem eval_Split.fin_ {w0 w w3 Wf : World} {g g3 c3 c9 : Nat} {P : Nat → Prop} {acc : List S26} {old : Value} {e : S26} {A9 : Option Addr} (ho : Kd.N k26 26 w3 w0.heap.size (fun k => (P k ∧ k ≠ g) ∧ k ≠ w.heap.size) (.slice (some ⟨g3, 0, none⟩) (acc.length + 1) c3) (acc ++ [z26])) (hf3 : Kd.F k26 w3 (fun q => w.heap.size < q ∧ q ≠ g3) A9 e.f5.length e.f5) (hl9 : e.f5.length ≤ c9) (h3g : w3.heap[g]? = some (.cells #[old] 24 (0, 0))) (hgl : g < w.heap.size) (hne : g ≠ g3) (hge : w0.heap.size ≤ g) (hge3 : w0.heap.size ≤ g3) (hb : Below w0.heap.size w0 w3) (hfr : w.heap.size ≤ w3.heap.size ∧ ∀ k, k < w.heap.size → ¬ P k → k ≠ g → w3.heap[k]? = w.heap[k]?) (hP : ∀ q, w.heap.size ≤ q → P q)
    (hw : Wf = (w3.setCells g3 (acc.length * 8) [.int .i64 e.f0, .int .i64 e.f1.f0, .int .i64 e.f1.f1, .string e.f1.f2, .string e.f2, .string e.f3, .int .i64 e.f4, .slice A9 e.f5.length c9]).setCell ⟨g, 0, none⟩ (.slice (some ⟨g3, 0, none⟩) (acc.length + 1) c3) ∨ Wf = (w3.setCell ⟨g, 0, none⟩ (.slice (some ⟨g3, 0, none⟩) (acc.length + 1) c3)).setCells g3 (acc.length * 8) [.int .i64 e.f0, .int .i64 e.f1.f0, .int .i64 e.f1.f1, .string e.f1.f2, .string e.f2, .string e.f3, .int .i64 e.f4, .slice A9 e.f5.length c9]) : eval_Split.St w0 Wf g P (acc ++ [e]) ∧ eval_Split.Fr w Wf g P := by
  have hP3 : P g3 := (ho.1 g3 rfl).1.1
  have hset : (acc ++ [z26]).set (acc.length : Int).toNat e = acc ++ [e] := by rw [Int.toNat_natCast, List.set_append_right _ _ (by omega)]; simp
  -- the row written, at any world that agrees with w3 besides g
  have row : ∀ W : World, Kd.N k26 26 W w0.heap.size (fun k => (P k ∧ k ≠ g) ∧ k ≠ w.heap.size) (.slice (some ⟨g3, 0, none⟩) (acc.length + 1) c3) (acc ++ [z26]) → Kd.F k26 W (fun q => w.heap.size < q ∧ q ≠ g3) A9 e.f5.length e.f5 → Kd.N k26 26 (W.setCells g3 (acc.length * 8) [.int .i64 e.f0, .int .i64 e.f1.f0, .int .i64 e.f1.f1, .string e.f1.f2, .string e.f2, .string e.f3, .int .i64 e.f4, .slice A9 e.f5.length c9]) w0.heap.size (fun k => (P k ∧ k ≠ g) ∧ k ≠ w.heap.size) (.slice (some ⟨g3, 0, none⟩) (acc.length + 1) c3) (acc ++ [e]) := fun W hN hF => by
    obtain ⟨cz, hcl, _, hcc, _⟩ := Kd.N_elem hN z26 (acc.length : Int) (by omega) (by omega)
    have h := (Kd.N_seg hN (acc.length : Int) (by omega) (by omega) (c := cz) (seg := [.int .i64 e.f0, .int .i64 e.f1.f0, .int .i64 e.f1.f1, .string e.f1.f2, .string e.f2, .string e.f3, .int .i64 e.f4, .slice A9 e.f5.length c9]) (j := 0) hcl hcc (Nat.le_refl 8) (x' := e) (okp := fun q => w.heap.size < q ∧ q ≠ g3) (by rw [List.drop_eq_nil_of_le (by rw [hcl]; exact Nat.le_refl 8)]; simpa using eval_Split.FK_mk e hl9 hF) (fun q hq => ⟨⟨⟨hP q (by omega), by omega⟩, by omega⟩, hq.2⟩)).1
    rw [hset, Int.toNat_natCast] at h
    exact h
  have szs : ∀ (vs : List Value) (o : Nat) (W : World), (W.setCells g3 o vs).heap.size = W.heap.size := fun vs => by
    induction vs with
    | nil => intro o W; rfl
    | cons v r ih => intro o W; rw [World.setCells, ih]; simp [World.setCell]
  have hN2 : Kd.N k26 26 (w3.setCell ⟨g, 0, none⟩ (.slice (some ⟨g3, 0, none⟩) (acc.length + 1) c3)) w0.heap.size (fun k => (P k ∧ k ≠ g) ∧ k ≠ w.heap.size) (.slice (some ⟨g3, 0, none⟩) (acc.length + 1) c3) (acc ++ [z26]) := Kd.N_far ho (p := ⟨g, 0, none⟩) (fun k hk => hk.1.2) _
  have bel : ∀ (vs : List Value) (o : Nat) (W : World), Below w0.heap.size w0 W → Below w0.heap.size w0 (W.setCells g3 o vs) := fun vs => by
    induction vs with
    | nil => intro o W h; exact h
    | cons v r ih => intro o W h; rw [World.setCells]; exact ih _ _ (h.setCell (p := ⟨g3, o, none⟩) hge3 v)
  have key : Wf.heap[g]? = some (.cells #[.slice (some ⟨g3, 0, none⟩) (acc.length + 1) c3] 24 (0, 0)) ∧ Kd.N k26 26 Wf w0.heap.size (fun k => (P k ∧ k ≠ g) ∧ k ≠ w.heap.size) (.slice (some ⟨g3, 0, none⟩) (acc.length + 1) c3) (acc ++ [e]) ∧ Below w0.heap.size w0 Wf ∧ Wf.heap.size = w3.heap.size ∧ ∀ k, k ≠ g → k ≠ g3 → Wf.heap[k]? = w3.heap[k]? := by
    rcases hw with rfl | rfl
    · refine ⟨blk_put ((setCells_far _ _ g hne).trans h3g) 0 _ rfl, Kd.N_far (row w3 ho hf3) (p := ⟨g, 0, none⟩) (fun k hk => hk.1.2) _, (bel _ _ _ hb).setCell (p := ⟨g, 0, none⟩) hge _, by rw [show ∀ (W : World) (u : Value), (W.setCell ⟨g, 0, none⟩ u).heap.size = W.heap.size from fun W u => by simp [World.setCell], szs], fun k h1 h2 => by rw [Below.heap_setCell _ _ _ _ h1, setCells_far _ _ k h2]⟩
    · refine ⟨(setCells_far _ _ g hne).trans (blk_put h3g 0 _ rfl), row _ hN2 (Kd.F_far hf3 (fun q hq => by show q ≠ g; omega) _), bel _ _ _ (hb.setCell (p := ⟨g, 0, none⟩) hge _), by rw [szs]; simp [World.setCell], fun k h1 h2 => by rw [setCells_far _ _ k h2, Below.heap_setCell _ _ _ _ h1]⟩
  obtain ⟨k1, k2, k3, k4, k5⟩ := key
  exact ⟨⟨_, k1, Kd.N_mono k2 (fun k hk => hk.1), k3, hge⟩, by rw [k4]; exact hfr.1, fun k h1 h2 h3 => (k5 k h3 (fun q => h2 (q ▸ hP3))).trans (hfr.2 k h1 h2 h3)⟩
set_option maxRecDepth 100000 in
set_option maxHeartbeats 8000000 in
theorem eval_Split.clo (w0 w : World) (g : Nat) (P : Nat → Prop) (acc : List S26) (k : Nat) (e : S26) (A7 : Option Addr) (c7 : Nat) (ok : Nat → Prop) (hfit : eval_Split.fits k e = true) (hF : Kd.F k26 w ok A7 e.f5.length e.f5) (hc : e.f5.length ≤ c7) (hS : eval_Split.St w0 w g P acc) (hP : ∀ q, w.heap.size ≤ q → P q) (hl : acc.length < 100000) :
    Calls Try.prog 33 #[.agg #[.int .i64 e.f0, .int .i64 e.f1.f0, .int .i64 e.f1.f1, .string e.f1.f2, .string e.f2, .string e.f3, .int .i64 e.f4, .slice A7 e.f5.length c7], .pointer (some ⟨g, 0, none⟩)] w fun x w' => x = .returned (.bool true) ∧ eval_Split.St w0 w' g P (acc ++ [e]) ∧ eval_Split.Fr w w' g P := by
  obtain ⟨v, hg, hN, hB, hge⟩ := hS
  obtain ⟨A1, c1, rfl⟩ := Kd.N_slice hN
  have hgl := blk_lt hg
  have hcall : ∀ W : World, Below (w.alloc (.cells #[.int .i64 e.f0, .int .i64 e.f1.f0, .int .i64 e.f1.f1, .string e.f1.f2, .string e.f2, .string e.f3, .int .i64 e.f4, .slice A7 e.f5.length c7] 26)).heap.size (w.alloc (.cells #[.int .i64 e.f0, .int .i64 e.f1.f0, .int .i64 e.f1.f1, .string e.f1.f2, .string e.f2, .string e.f3, .int .i64 e.f4, .slice A7 e.f5.length c7] 26)) W → Calls Try.prog 34 #[.agg #[.int .i64 e.f0, .int .i64 e.f1.f0, .int .i64 e.f1.f1, .string e.f1.f2, .string e.f2, .string e.f3, .int .i64 e.f4, .slice A7 e.f5.length c7]] W fun x w' => ∃ A c, x = .returned (.agg #[.int .i64 e.f0, .int .i64 e.f1.f0, .int .i64 e.f1.f1, .string e.f1.f2, .string e.f2, .string e.f3, .int .i64 e.f4, .slice A e.f5.length c]) ∧ e.f5.length ≤ c ∧ Kd.F k26 w' (fun j => (w.alloc (.cells #[.int .i64 e.f0, .int .i64 e.f1.f0, .int .i64 e.f1.f1, .string e.f1.f2, .string e.f2, .string e.f3, .int .i64 e.f4, .slice A7 e.f5.length c7] 26)).heap.size ≤ j) A e.f5.length e.f5 ∧ Below (w.alloc (.cells #[.int .i64 e.f0, .int .i64 e.f1.f0, .int .i64 e.f1.f1, .string e.f1.f2, .string e.f2, .string e.f3, .int .i64 e.f4, .slice A7 e.f5.length c7] 26)).heap.size (w.alloc (.cells #[.int .i64 e.f0, .int .i64 e.f1.f0, .int .i64 e.f1.f1, .string e.f1.f2, .string e.f2, .string e.f3, .int .i64 e.f4, .slice A7 e.f5.length c7] 26)) w' ∧ Below W.heap.size W w' := fun W hb => (eval_Split.own_ k e A7 c7 ok W hfit (Kd.F_below hF ((below_alloc (Below.refl _ _) _).trans (hb.mono (below_alloc (Below.refl _ _) _).size))) hc).mono fun x w' ⟨A, c, h1, h2, h3, h4⟩ => ⟨A, c, h1, h2, Kd.F_mono h3 (fun q hq => Nat.le_trans hb.size hq), hb.trans (h4.mono hb.size), h4⟩
  have HX : Aside0 (∀ W : World, Below (w.alloc (.cells #[.int .i64 e.f0, .int .i64 e.f1.f0, .int .i64 e.f1.f1, .string e.f1.f2, .string e.f2, .string e.f3, .int .i64 e.f4, .slice A7 e.f5.length c7] 26)).heap.size (w.alloc (.cells #[.int .i64 e.f0, .int .i64 e.f1.f0, .int .i64 e.f1.f1, .string e.f1.f2, .string e.f2, .string e.f3, .int .i64 e.f4, .slice A7 e.f5.length c7] 26)) W → Kd.N k26 26 W w0.heap.size (fun k => (P k ∧ k ≠ g) ∧ k ≠ w.heap.size) (.slice A1 acc.length c1) acc ∧ Below w0.heap.size w0 W ∧ w0.heap.size ≤ W.heap.size ∧ (∀ q, W.heap.size ≤ q → (P q ∧ q ≠ g) ∧ q ≠ w.heap.size) ∧ (W.cell? ⟨w.heap.size, 0, none⟩ = some (.int .i64 e.f0) ∧ W.cell? ⟨w.heap.size, 1, none⟩ = some (.int .i64 e.f1.f0) ∧ W.cell? ⟨w.heap.size, 2, none⟩ = some (.int .i64 e.f1.f1) ∧ W.cell? ⟨w.heap.size, 3, none⟩ = some (.string e.f1.f2) ∧ W.cell? ⟨w.heap.size, 4, none⟩ = some (.string e.f2) ∧ W.cell? ⟨w.heap.size, 5, none⟩ = some (.string e.f3) ∧ W.cell? ⟨w.heap.size, 6, none⟩ = some (.int .i64 e.f4) ∧ W.cell? ⟨w.heap.size, 7, none⟩ = some (.slice A7 e.f5.length c7)) ∧ W.heap[g]? = some (.cells #[.slice A1 acc.length c1] 24 (0, 0)) ∧ W.heap[w.heap.size]? = some (.cells #[.int .i64 e.f0, .int .i64 e.f1.f0, .int .i64 e.f1.f1, .string e.f1.f2, .string e.f2, .string e.f3, .int .i64 e.f4, .slice A7 e.f5.length c7] 26 (0, 0)) ∧ w.heap.size < W.heap.size ∧ Below w.heap.size w W) := ⟨fun W hb => by
    have hbw : Below w.heap.size w W := (below_alloc (Below.refl _ _) _).trans (hb.mono (below_alloc (Below.refl _ _) _).size)
    have hsz := hb.size
    simp at hsz
    refine ⟨Kd.N_below (Kd.N_mono (Kd.N_bound hN) (fun q hq => ⟨hq.1, by have := hq.2; omega⟩)) hbw, hB.trans (hbw.mono hB.size), Nat.le_trans hB.size hbw.size, fun q hq => ⟨⟨hP q (by omega), by omega⟩, by omega⟩, ⟨pw_cell_below hb (by simp [go_sem]), pw_cell_below hb (by simp [go_sem]), pw_cell_below hb (by simp [go_sem]), pw_cell_below hb (by simp [go_sem]), pw_cell_below hb (by simp [go_sem]), pw_cell_below hb (by simp [go_sem]), pw_cell_below hb (by simp [go_sem]), pw_cell_below hb (by simp [go_sem])⟩, (hb.block g (by simp; omega)).trans ((eval_Split.at_old w _ g hgl).trans hg), (hb.block w.heap.size (by simp)).trans (eval_Split.at_alloc1 w _), by omega, hbw⟩⟩
  have HC := Aside0.mk hcall
  have HN := Aside0.mk hN
  have HG := Aside0.mk hg
  have HB := Aside0.mk hB
  have HP := Aside0.mk hP
  have LM := Aside0.mk hl
  clear hfit hF hN hg hB hP hl hcall
  go_enter Try.func33, Try.ntmps33
  go_wp2
  obtain ⟨y0, y1, y2, y3, y4, y5, y6, y7⟩ := (HX.out _ (Below.refl _ _)).2.2.2.2.1
  have x0 : (w.alloc (.cells #[.int .i64 e.f0, .int .i64 e.f1.f0, .int .i64 e.f1.f1, .string e.f1.f2, .string e.f2, .string e.f3, .int .i64 e.f4, .slice A7 e.f5.length c7] 26)).cell? ⟨g, 0, none⟩ = some (.slice A1 acc.length c1) := (blk_cell (HX.out _ (Below.refl _ _)).2.2.2.2.2.1 0).trans rfl
  have x1 : ∀ o : Obj, ((w.alloc (.cells #[.int .i64 e.f0, .int .i64 e.f1.f0, .int .i64 e.f1.f1, .string e.f1.f2, .string e.f2, .string e.f3, .int .i64 e.f4, .slice A7 e.f5.length c7] 26)).drew.alloc o).cell? ⟨g, 0, none⟩ = some (.slice A1 acc.length c1) := fun o => (blk_cell (HX.out _ (below_alloc (below_drew1 (Below.refl _ _)) o)).2.2.2.2.2.1 0).trans rfl
  have hgb : g ≠ w.heap.size := by omega
  have hgb' : w.heap.size ≠ g := by omega
  have hi0 : (0 : Int) ≤ (acc.length : Int) := by omega
  have hi1 : (acc.length : Int) < (acc.length : Int) + 1 := by omega
  have hi2 : acc.length < acc.length + 1 := by omega
  go_region_law (first
    | (refine Kd.N_append_rows_step k26 (w0 := w0) w0.heap.size (by rfl) (.tmp 4) (.tmp 8) 24 26 (.agg #[.int .i64 0, .int .i64 0, .int .i64 0, .string { data := #[] }, .string { data := #[] }, .string { data := #[] }, .int .i64 0, .slice none 0 0]) 104 (by rfl) Try.underlying24 info26 (by rfl) (by decide) (by decide) (.slice A1 acc.length c1) acc [z26] _ 1 1 (fun k => (P k ∧ k ≠ g) ∧ k ≠ w.heap.size) (fun q => w.heap.size < q) (by rfl) (by rfl) (HX.out _ (by repeat (first | (with_reducible assumption) | (with_reducible exact Below.refl _ _) | (with_reducible apply below_alloc) | (with_reducible apply below_drew1) | (with_reducible apply pw_below_drewN)))).1 (by first | exact Kd.F_mono (eval_Split.litF (eval_Split.at_alloc1 _ _)) (fun q hq => by subst hq; exact (HX.out _ (by repeat (first | (with_reducible assumption) | (with_reducible exact Below.refl _ _) | (with_reducible apply below_alloc) | (with_reducible apply below_drew1) | (with_reducible apply pw_below_drewN)))).2.2.2.2.2.2.2.1) | exact Kd.F_mono (eval_Split.litF ((HBW.out.block _ (by simp)).trans (heap_alloc2_new w _ _))) (fun q hq => by subst hq; omega)) (fun q hq => ⟨⟨⟨HP.out q (by omega), by omega⟩, by omega⟩, fun e_ => by have := Kd.N_lt HN.out q e_.symm; omega⟩) (HX.out _ (by repeat (first | (with_reducible assumption) | (with_reducible exact Below.refl _ _) | (with_reducible apply below_alloc) | (with_reducible apply below_drew1) | (with_reducible apply pw_below_drewN)))).2.2.2.1 (HX.out _ (by repeat (first | (with_reducible assumption) | (with_reducible exact Below.refl _ _) | (with_reducible apply below_alloc) | (with_reducible apply below_drew1) | (with_reducible apply pw_below_drewN)))).2.1 (HX.out _ (by repeat (first | (with_reducible assumption) | (with_reducible exact Below.refl _ _) | (with_reducible apply below_alloc) | (with_reducible apply below_drew1) | (with_reducible apply pw_below_drewN)))).2.2.1 (by have := LM.out; omega) ?_; intro v3 w3 ho hb hg_ hat; have hxx := (fun {W : World} (h_ : W.grownBy w3 (Value.slice A1 acc.length c1).ownBlock) (hb_ : Below (w.alloc (.cells #[.int .i64 e.f0, .int .i64 e.f1.f0, .int .i64 e.f1.f1, .string e.f1.f2, .string e.f2, .string e.f3, .int .i64 e.f4, .slice A7 e.f5.length c7] 26)).heap.size (w.alloc (.cells #[.int .i64 e.f0, .int .i64 e.f1.f0, .int .i64 e.f1.f1, .string e.f1.f2, .string e.f2, .string e.f3, .int .i64 e.f4, .slice A7 e.f5.length c7] 26)) W) => HX.out W hb_) hg_ (by repeat (first | (with_reducible assumption) | (with_reducible exact Below.refl _ _) | (with_reducible apply below_alloc) | (with_reducible apply below_drew1) | (with_reducible apply pw_below_drewN))); (obtain ⟨g3, c3, rfl, hne3', hne3, hnb3', hnb3, z0, z1, z2, z3, z4, z5, z6, ⟨uz, z7⟩, fz0, fz1, fz2, fz3, fz4, fz5, fz6, fz7, h3g, h3b, hs3, hge3, hf3, hfr3⟩ := eval_Split.aft HN.out hxx.2.2.2.2.2.1 hxx.2.2.2.2.2.2.1 hxx.2.2.2.2.2.2.2.1 hgl ho hg_ hat (Kd.F_mono (Kd.F_below HF9.out (by first | exact Below.refl _ _ | exact below_alloc (Below.refl _ _) _)) (fun q hq => by simp at hq; omega)) hxx.2.2.2.2.2.2.2.2); have fg3 := blk_frozen h3g 0; have x4 : w3.cell? ⟨g, 0, none⟩ = some (.slice A1 acc.length c1) := (blk_cell h3g 0).trans rfl; try clear x1; try clear x3; have HO3 := Aside0.mk ho; have HB3 := Aside0.mk hb; have HG3 := Aside0.mk hg_; have H3G := Aside0.mk h3g; have H3B := Aside0.mk h3b; have HF3 := Aside0.mk hf3; have HFR := Aside0.mk hfr3; have HGE3 := Aside0.mk hge3; clear hf3 hfr3 ho hb hg_ hat hxx h3g h3b)
    | (go_simp; go_at_call 34; refine (HC.out _ (by repeat (first | (with_reducible assumption) | (with_reducible exact Below.refl _ _) | (with_reducible apply below_alloc) | (with_reducible apply below_drew1) | (with_reducible apply pw_below_drewN)))).mono ?_; rintro x w2 ⟨A9, c9, rfl, l9, F9, hb2, hbw⟩; have x2 : w2.cell? ⟨g, 0, none⟩ = some (.slice A1 acc.length c1) := (blk_cell (HX.out w2 hb2).2.2.2.2.2.1 0).trans rfl; have x3 : ∀ o : Obj, (w2.alloc o).cell? ⟨g, 0, none⟩ = some (.slice A1 acc.length c1) := fun o => (blk_cell (HX.out _ (below_alloc hb2 o)).2.2.2.2.2.1 0).trans rfl; have HBW := Aside0.mk hbw; have HF9 := Aside0.mk F9; have HL9 := Aside0.mk l9; clear hbw F9 l9)
    | fail)
  all_goals
    go_wp2
    go_ret
    refine ⟨rfl, eval_Split.fin_ (e := e) HO3.out HF3.out HL9.out H3G.out hgl hne3' hge HGE3.out HB3.out HFR.out HP.out ?_⟩
    first
      | (refine .inl ?_; simp only [World.setCells, Nat.add_assoc, Nat.reduceAdd]; done)
      | (refine .inr ?_; simp only [World.setCells, Nat.add_assoc, Nat.reduceAdd]; done)
/-- An expression's conjuncts, n levels more. -/
def eval_Split.parts : Nat → S26 → List S26
  | 0, e => [e]
  | n + 1, e => if e.f0 = 19 ∧ e.f5.length = 2 then eval_Split.parts n (rd_T26 e.f5 0) ++ eval_Split.parts n (rd_T26 e.f5 1) else [e]
theorem eval_Split.parts_len : ∀ (n : Nat) (e : S26), (eval_Split.parts n e).length ≤ 2 ^ n
  | 0, e => by simp [eval_Split.parts]
  | n + 1, e => by
    rw [eval_Split.parts]
    split
    · have h1 := eval_Split.parts_len n (rd_T26 e.f5 0)
      have h2 := eval_Split.parts_len n (rd_T26 e.f5 1)
      rw [List.length_append, Nat.pow_succ]
      omega
    · simp; exact Nat.one_le_two_pow
theorem eval_Split.Fr.grew {w w' : World} {g : Nat} {P : Nat → Prop} {o : Obj} (h : eval_Split.Fr (w.alloc o) w' g (fun k => P k ∧ k ≠ w.heap.size)) : eval_Split.Fr w w' g P := by
  refine ⟨Nat.le_trans (by simp) h.1, fun k h1 h2 h3 => ?_⟩
  exact (h.2 k (by simp; omega) (fun q => h2 q.1) h3).trans (eval_Split.at_old w o k h1)
set_option maxRecDepth 100000 in
set_option maxHeartbeats 4000000 in
theorem eval_Split.leaf (w0 w : World) (g : Nat) (P : Nat → Prop) (acc : List S26) (k : Nat) (e : S26) (A7 : Option Addr) (c7 : Nat) (ok : Nat → Prop) (d : Int) (hfit : eval_Split.fits k e = true) (hF : Kd.F k26 w ok A7 e.f5.length e.f5) (hc : e.f5.length ≤ c7) (hS : eval_Split.St w0 w g P acc) (hP : ∀ q, w.heap.size ≤ q → P q) (hl : acc.length < 100000) (hd : ¬ e.f0 = 19 ∨ ¬ e.f5.length = 2 ∨ 12 ≤ d) :
    Calls Try.prog 32 #[.agg #[.int .i64 e.f0, .int .i64 e.f1.f0, .int .i64 e.f1.f1, .string e.f1.f2, .string e.f2, .string e.f3, .int .i64 e.f4, .slice A7 e.f5.length c7], .int .i64 d, .func (.func 33) #[] #[.pointer (some ⟨g, 0, none⟩)]] w fun x w' => x = .returned (.bool true) ∧ eval_Split.St w0 w' g P (acc ++ [e]) ∧ eval_Split.Fr w w' g P := by
  have hcall : Calls Try.prog 33 #[.agg #[.int .i64 e.f0, .int .i64 e.f1.f0, .int .i64 e.f1.f1, .string e.f1.f2, .string e.f2, .string e.f3, .int .i64 e.f4, .slice A7 e.f5.length c7], .pointer (some ⟨g, 0, none⟩)] (w.alloc (.cells #[.int .i64 e.f0, .int .i64 e.f1.f0, .int .i64 e.f1.f1, .string e.f1.f2, .string e.f2, .string e.f3, .int .i64 e.f4, .slice A7 e.f5.length c7] 26)) fun x w' => x = .returned (.bool true) ∧ eval_Split.St w0 w' g P (acc ++ [e]) ∧ eval_Split.Fr w w' g P :=
    (eval_Split.clo w0 (w.alloc (.cells #[.int .i64 e.f0, .int .i64 e.f1.f0, .int .i64 e.f1.f1, .string e.f1.f2, .string e.f2, .string e.f3, .int .i64 e.f4, .slice A7 e.f5.length c7] 26)) g (fun k => P k ∧ k ≠ w.heap.size) acc k e A7 c7 ok hfit (Kd.F_alloc hF _) hc (hS.grow _) (fun q hq => ⟨hP q (by simp at hq; omega), by simp at hq; omega⟩) hl).mono fun x w' ⟨h1, h2, h3⟩ => ⟨h1, h2.weak (fun k hk => hk.1), eval_Split.Fr.grew h3⟩
  have HC := Aside0.mk hcall
  clear hcall hfit hF hS hP hl
  by_cases h1 : e.f0 = 19
  rotate_left
  · have d1 : (e.f0 != 19) = true := by simpa using h1
    clear h1 hd
    go_enter Try.func32, Try.ntmps32
    go_wp2_with (go_at_call 33; (with_reducible refine HC.out.mono ?_); rintro x w2 ⟨rfl, hs, hf⟩; have HS := Aside0.mk hs; have HF := Aside0.mk hf; clear hs hf)
    go_ret
    exact ⟨rfl, HS.out, HF.out⟩
  have d1 : (e.f0 != 19) = false := by simpa using h1
  by_cases h2 : e.f5.length = 2
  rotate_left
  · have d2 : ((e.f5.length : Int) != 2) = true := by rw [bne_iff_ne]; omega
    clear h1 h2 hd
    go_enter Try.func32, Try.ntmps32
    go_wp2_with (go_at_call 33; (with_reducible refine HC.out.mono ?_); rintro x w2 ⟨rfl, hs, hf⟩; have HS := Aside0.mk hs; have HF := Aside0.mk hf; clear hs hf)
    go_ret
    exact ⟨rfl, HS.out, HF.out⟩
  have d2 : ((e.f5.length : Int) != 2) = false := by rw [bne_eq_false_iff_eq]; omega
  have d3 : (12 : Int) ≤ d := by rcases hd with hd | hd | hd <;> first | exact absurd h1 hd | exact absurd h2 hd | exact hd
  clear h1 h2 hd
  go_enter Try.func32, Try.ntmps32
  go_wp2_with (go_at_call 33; (with_reducible refine HC.out.mono ?_); rintro x w2 ⟨rfl, hs, hf⟩; have HS := Aside0.mk hs; have HF := Aside0.mk hf; clear hs hf)
  go_ret
  exact ⟨rfl, HS.out, HF.out⟩
set_option maxRecDepth 100000 in
set_option maxHeartbeats 8000000 in
theorem eval_Split.conj (w0 : World) (g : Nat) : ∀ (n m : Nat) (e : S26) (A7 : Option Addr) (c7 : Nat) (ok P : Nat → Prop) (w : World) (acc : List S26), n ≤ 11 → eval_Split.fits m e = true → Kd.F k26 w ok A7 e.f5.length e.f5 → e.f5.length ≤ c7 → eval_Split.St w0 w g P acc → (∀ q, w.heap.size ≤ q → P q) → (∀ q, ok q → ¬ P q ∧ q ≠ g) → acc.length + (eval_Split.parts n e).length < 100000 →
    Calls Try.prog 32 #[.agg #[.int .i64 e.f0, .int .i64 e.f1.f0, .int .i64 e.f1.f1, .string e.f1.f2, .string e.f2, .string e.f3, .int .i64 e.f4, .slice A7 e.f5.length c7], .int .i64 (12 - (n : Int)), .func (.func 33) #[] #[.pointer (some ⟨g, 0, none⟩)]] w fun x w' => x = .returned (.bool true) ∧ eval_Split.St w0 w' g P (acc ++ eval_Split.parts n e) ∧ eval_Split.Fr w w' g P := by
  intro n
  induction n with
  | zero =>
    intro m e A7 c7 ok P w acc hn hfit hF hc hS hP hok hl
    exact eval_Split.leaf w0 w g P acc m e A7 c7 ok _ hfit hF hc hS hP (by omega) (.inr (.inr (by omega)))
  | succ n ih =>
  intro m e A7 c7 ok P w acc hn hfit hF hc hS hP hok hl
  rw [eval_Split.parts] at hl ⊢
  by_cases hcd : e.f0 = 19 ∧ e.f5.length = 2
  rotate_left
  · rw [if_neg hcd] at hl ⊢
    exact eval_Split.leaf w0 w g P acc m e A7 c7 ok _ hfit hF hc hS hP (by omega) (by by_cases q : e.f0 = 19; exact .inr (.inl (fun q2 => hcd ⟨q, q2⟩)); exact .inl q)
  rw [if_pos hcd] at hl ⊢
  rw [List.length_append] at hl
  obtain ⟨h1, h2⟩ := hcd
  cases m with
  | zero => simp [eval_Split.fits] at hfit
  | succ m =>
  simp only [eval_Split.fits, Bool.and_eq_true, decide_eq_true_eq, List.all_eq_true] at hfit
  have hgl : g < w.heap.size := by obtain ⟨v, hg, _⟩ := hS; exact blk_lt hg
  obtain ⟨b, o, rfl, hcs⟩ := eval_Split.at_ hF (by omega)
  obtain ⟨A8, c8, p0, p1, p2, p3, p4, p5, p6, p7, l8, F8⟩ := hcs 0 (by omega)
  simp only [Nat.zero_mul, Nat.add_zero] at p0 p1 p2 p3 p4 p5 p6 p7
  have e0 : rd_T26 e.f5 0 = e.f5[0] := by simp [rd_T26, List.getD_eq_getElem?_getD, h2]
  have e1 : rd_T26 e.f5 1 = e.f5[1] := by simp [rd_T26, List.getD_eq_getElem?_getD, h2]
  rw [e0, e1] at hl ⊢
  have f0 := hfit.2 e.f5[0] (List.getElem_mem _)
  have f1 := hfit.2 e.f5[1] (List.getElem_mem _)
  have hF' := Kd.F_bound hF
  have F8' := Kd.F_bound F8
  generalize hx0 : e.f5[0] = x0 at *
  generalize hx1 : e.f5[1] = x1 at *
  have ok1 : ∀ q, (ok q ∧ q < w.heap.size) → ¬ (P q ∧ q ≠ w.heap.size) ∧ q ≠ g := fun q hq => ⟨fun r => (hok q hq.1).1 r.1, (hok q hq.1).2⟩
  have hP1 : ∀ q, w.heap.size + 1 ≤ q → P q ∧ q ≠ w.heap.size := fun q hq => ⟨hP q (by omega), by omega⟩
  obtain ⟨d, hd1, hd2⟩ : ∃ d : Int, d = 12 - ((n + 1 : Nat) : Int) ∧ d + 1 = 12 - (n : Int) := ⟨_, rfl, by omega⟩
  rw [← hd1]
  have hcall1 : Calls Try.prog 32 #[.agg #[.int .i64 x0.f0, .int .i64 x0.f1.f0, .int .i64 x0.f1.f1, .string x0.f1.f2, .string x0.f2, .string x0.f3, .int .i64 x0.f4, .slice A8 x0.f5.length c8], .int .i64 (d + 1), .func (.func 33) #[] #[.pointer (some ⟨g, 0, none⟩)]] (w.alloc (.cells #[.int .i64 e.f0, .int .i64 e.f1.f0, .int .i64 e.f1.f1, .string e.f1.f2, .string e.f2, .string e.f3, .int .i64 e.f4, .slice (some ⟨b, o, none⟩) e.f5.length c7] 26)) fun x w' => x = .returned (.bool true) ∧ eval_Split.St w0 w' g (fun k => P k ∧ k ≠ w.heap.size) (acc ++ eval_Split.parts n x0) ∧ eval_Split.Fr (w.alloc (.cells #[.int .i64 e.f0, .int .i64 e.f1.f0, .int .i64 e.f1.f1, .string e.f1.f2, .string e.f2, .string e.f3, .int .i64 e.f4, .slice (some ⟨b, o, none⟩) e.f5.length c7] 26)) w' g (fun k => P k ∧ k ≠ w.heap.size) := by
    rw [hd2]
    exact ih m x0 A8 c8 (fun q => ok q ∧ q < w.heap.size) (fun k => P k ∧ k ≠ w.heap.size) (w.alloc (.cells #[.int .i64 e.f0, .int .i64 e.f1.f0, .int .i64 e.f1.f1, .string e.f1.f2, .string e.f2, .string e.f3, .int .i64 e.f4, .slice (some ⟨b, o, none⟩) e.f5.length c7] 26)) acc (by omega) f0 (Kd.F_alloc F8' _) l8 (hS.grow _) (fun q hq => hP1 q (by simpa using hq)) ok1 (by omega)
  have hcall2 : ∀ W : World, eval_Split.St w0 W g (fun k => P k ∧ k ≠ w.heap.size) (acc ++ eval_Split.parts n x0) → eval_Split.Fr (w.alloc (.cells #[.int .i64 e.f0, .int .i64 e.f1.f0, .int .i64 e.f1.f1, .string e.f1.f2, .string e.f2, .string e.f3, .int .i64 e.f4, .slice (some ⟨b, o, none⟩) e.f5.length c7] 26)) W g (fun k => P k ∧ k ≠ w.heap.size) → ∃ (A9 : Option Addr) (c9 : Nat),
      (Calls Try.prog 32 #[.agg #[.int .i64 x1.f0, .int .i64 x1.f1.f0, .int .i64 x1.f1.f1, .string x1.f1.f2, .string x1.f2, .string x1.f3, .int .i64 x1.f4, .slice A9 x1.f5.length c9], .int .i64 (d + 1), .func (.func 33) #[] #[.pointer (some ⟨g, 0, none⟩)]] W fun x w' => x = .returned (.bool true) ∧ eval_Split.St w0 w' g P (acc ++ (eval_Split.parts n x0 ++ eval_Split.parts n x1)) ∧ eval_Split.Fr w w' g P) ∧
      W.cell? ⟨w.heap.size, 0, none⟩ = some (.int .i64 e.f0) ∧ W.cell? ⟨w.heap.size, 1, none⟩ = some (.int .i64 e.f1.f0) ∧ W.cell? ⟨w.heap.size, 2, none⟩ = some (.int .i64 e.f1.f1) ∧ W.cell? ⟨w.heap.size, 3, none⟩ = some (.string e.f1.f2) ∧ W.cell? ⟨w.heap.size, 4, none⟩ = some (.string e.f2) ∧ W.cell? ⟨w.heap.size, 5, none⟩ = some (.string e.f3) ∧ W.cell? ⟨w.heap.size, 6, none⟩ = some (.int .i64 e.f4) ∧ W.cell? ⟨w.heap.size, 7, none⟩ = some (.slice (some ⟨b, o, none⟩) e.f5.length c7) ∧ W.cell? ⟨b, o + 8, none⟩ = some (.int .i64 x1.f0) ∧ W.cell? ⟨b, o + 9, none⟩ = some (.int .i64 x1.f1.f0) ∧ W.cell? ⟨b, o + 10, none⟩ = some (.int .i64 x1.f1.f1) ∧ W.cell? ⟨b, o + 11, none⟩ = some (.string x1.f1.f2) ∧ W.cell? ⟨b, o + 12, none⟩ = some (.string x1.f2) ∧ W.cell? ⟨b, o + 13, none⟩ = some (.string x1.f3) ∧ W.cell? ⟨b, o + 14, none⟩ = some (.int .i64 x1.f4) ∧ W.cell? ⟨b, o + 15, none⟩ = some (.slice A9 x1.f5.length c9) := fun W hs hf => by
    have hb := (hf.2 w.heap.size (by simp) (fun r => r.2 rfl) (by omega)).trans (eval_Split.at_alloc1 w _)
    have same : ∀ k, (ok k ∧ k < w.heap.size) → W.heap[k]? = w.heap[k]? := fun k hk => (hf.2 k (by simp; omega) (ok1 k hk).1 (ok1 k hk).2).trans (eval_Split.at_old w _ k hk.2)
    have hsz := hf.1
    simp at hsz
    obtain ⟨b', o', eb, hcs'⟩ := eval_Split.at_ (Kd.F_step hF' (fun k hk _ => same k hk)) (by omega)
    cases eb
    obtain ⟨A9, c9, r0, r1, r2, r3, r4, r5, r6, r7, l9, F9⟩ := hcs' 1 (by omega)
    simp only [Nat.one_mul, Nat.add_assoc, Nat.reduceAdd, hx1] at r0 r1 r2 r3 r4 r5 r6 r7 l9 F9
    refine ⟨A9, c9, ?_, (blk_cell hb 0).trans rfl, (blk_cell hb 1).trans rfl, (blk_cell hb 2).trans rfl, (blk_cell hb 3).trans rfl, (blk_cell hb 4).trans rfl, (blk_cell hb 5).trans rfl, (blk_cell hb 6).trans rfl, (blk_cell hb 7).trans rfl, r0, r1, r2, r3, r4, r5, r6, r7⟩
    rw [hd2]
    refine (ih m x1 A9 c9 (fun q => ok q ∧ q < w.heap.size) (fun k => P k ∧ k ≠ w.heap.size) W _ (by omega) f1 F9 l9 hs (fun q hq => hP1 q (by omega)) ok1 (by rw [List.length_append]; omega)).mono fun x w' ⟨k1, k2, k3⟩ => ⟨k1, ?_, eval_Split.Fr.grew (hf.trans k3)⟩
    rw [← List.append_assoc]
    exact k2.weak (fun k hk => hk.1)
  have hbl : b < w.heap.size := World.block_lt_of_cell? w _ p0
  have HC1 := Aside0.mk hcall1
  have HC2 := Aside0.mk hcall2
  have n1 : (e.f0 != 19) = false := by simpa using h1
  have n2 : ((e.f5.length : Int) != 2) = false := by rw [bne_eq_false_iff_eq]; omega
  have n3 : ¬ (12 : Int) ≤ d := by omega
  have n4 : IntKind.i64.wrap (d + 1) = d + 1 := by rw [IntKind.wrap_i64]; omega
  have n5 : (0 : Int) < (e.f5.length : Int) := by omega
  have n6 : (1 : Int) < (e.f5.length : Int) := by omega
  have n7 : 0 < e.f5.length := by omega
  have n8 : 1 < e.f5.length := by omega
  clear hcall1 hcall2 hcs hfit hF hS hP hok hl h1 h2 e0 e1 f0 f1 hF' F8' F8 ok1 hP1 hx0 hx1 ih hd1 hd2 l8 hn
  go_enter Try.func32, Try.ntmps32
  go_wp2_with (first
    | (go_at_call 32; (with_reducible refine HC1.out.mono ?_); rintro x w2 ⟨rfl, hs, hf⟩; (obtain ⟨A9, c9, hc2, y0, y1, y2, y3, y4, y5, y6, y7, r0, r1, r2, r3, r4, r5, r6, r7⟩ := HC2.out w2 hs hf); have HC3 := Aside0.mk hc2; clear hs hf hc2)
    | (go_at_call 32; (with_reducible refine HC3.out.mono ?_); rintro x w3 ⟨rfl, hs, hf⟩; have HS := Aside0.mk hs; have HFR := Aside0.mk hf; clear hs hf))
  go_ret
  exact ⟨rfl, HS.out, HFR.out⟩
def eval_Split.expr (a0 a1 a2 : Int) (a3 a4 a5 : ByteArray) (a6 : Int) (l7 : List S26) : S26 := ⟨a0, ⟨a1, a2, a3⟩, a4, a5, a6, l7⟩
def eval_Split.f (k : Nat) (a0_0 : Int) (a0_1 : Int) (a0_2 : Int) (a0_3 : ByteArray) (a0_4 : ByteArray) (a0_5 : ByteArray) (a0_6 : Int) (l0_7 : List S26) : Option (List S26) := if a0_0 = 0 then some [] else if eval_Split.fits k (eval_Split.expr a0_0 a0_1 a0_2 a0_3 a0_4 a0_5 a0_6 l0_7) = true then some (eval_Split.parts 11 (eval_Split.expr a0_0 a0_1 a0_2 a0_3 a0_4 a0_5 a0_6 l0_7)) else none
theorem eval_Split.fits_more : ∀ (k : Nat) (e : S26), eval_Split.fits k e = true → eval_Split.fits (k + 1) e = true
  | 0, e, h => by simp [eval_Split.fits] at h
  | k + 1, e, h => by
    unfold eval_Split.fits at h ⊢
    simp only [Bool.and_eq_true, List.all_eq_true] at h ⊢
    exact ⟨h.1, fun x hx => eval_Split.fits_more k x (h.2 x hx)⟩
theorem eval_Split.mono : ∀ a0 a1 a2 a3 a4 a5 a6 a7 k, LeO (eval_Split.f k a0 a1 a2 a3 a4 a5 a6 a7) (eval_Split.f (k + 1) a0 a1 a2 a3 a4 a5 a6 a7) := by
  intro a0 a1 a2 a3 a4 a5 a6 a7 k
  unfold eval_Split.f
  refine LeO.ite (LeO.refl _) ?_
  by_cases h : eval_Split.fits k (eval_Split.expr a0 a1 a2 a3 a4 a5 a6 a7) = true
  · rw [if_pos h, if_pos (eval_Split.fits_more _ _ h)]; exact LeO.refl _
  · rw [if_neg h]; exact LeO.none _
set_option maxRecDepth 100000 in
set_option maxHeartbeats 4000000 in
theorem eval_Split.calls (k : Nat) (a0_0 : Int) (a0_1 : Int) (a0_2 : Int) (a0_3 : ByteArray) (a0_4 : ByteArray) (a0_5 : ByteArray) (a0_6 : Int) (P0_7_ : Nat → Prop) (A0_7 : Option Addr) (c0_7 : Nat) (l0_7 : List S26) (r : List S26) (w : World) (hs0_7 : Kd.V k26 26 w w.heap.size (fun k_ => P0_7_ k_) (.slice A0_7 l0_7.length c0_7) l0_7) (h : eval_Split.f k a0_0 a0_1 a0_2 a0_3 a0_4 a0_5 a0_6 l0_7 = some r) :
    Calls Try.prog 11 #[.agg #[.int .i64 a0_0, .int .i64 a0_1, .int .i64 a0_2, .string a0_3, .string a0_4, .string a0_5, .int .i64 a0_6, .slice A0_7 l0_7.length c0_7]] w fun e w' => ∃ v0_ : Value, e = .returned (v0_) ∧ Kd.N k26 26 w' w.heap.size (fun k_ => (P0_7_ k_ ∨ w.heap.size ≤ k_)) v0_ r ∧ Below w.heap.size w w' := by
  unfold eval_Split.f at h
  by_cases h0 : a0_0 = 0
  · rw [if_pos h0] at h
    obtain rfl := Option.some.inj h
    have n0 : (a0_0 == 0) = true := by simpa using h0
    clear h h0 hs0_7
    go_enter Try.func11, Try.ntmps11
    go_wp2
    go_ret
    exact ⟨_, rfl, Kd.N_nil _ _ _ _ _, below_alloc (Below.refl _ _) _⟩
  rw [if_neg h0] at h
  by_cases hf : eval_Split.fits k (eval_Split.expr a0_0 a0_1 a0_2 a0_3 a0_4 a0_5 a0_6 l0_7) = true
  rotate_left
  · rw [if_neg hf] at h; cases h
  rw [if_pos hf] at h
  obtain rfl := Option.some.inj h
  have n0 : (a0_0 == 0) = false := by simpa using h0
  have hV := Kd.V_at hs0_7
  have hB : Below w.heap.size w ((w.alloc (.cells #[.int .i64 a0_0, .int .i64 a0_1, .int .i64 a0_2, .string a0_3, .string a0_4, .string a0_5, .int .i64 a0_6, .slice A0_7 l0_7.length c0_7] 26)).alloc (.cells #[.slice none 0 0] 24)) := below_alloc (below_alloc (Below.refl _ _) _) _
  have hcall : Calls Try.prog 32 #[.agg #[.int .i64 a0_0, .int .i64 a0_1, .int .i64 a0_2, .string a0_3, .string a0_4, .string a0_5, .int .i64 a0_6, .slice A0_7 l0_7.length c0_7], .int .i64 1, .func (.func 33) #[] #[.pointer (some ⟨w.heap.size + 1, 0, none⟩)]] ((w.alloc (.cells #[.int .i64 a0_0, .int .i64 a0_1, .int .i64 a0_2, .string a0_3, .string a0_4, .string a0_5, .int .i64 a0_6, .slice A0_7 l0_7.length c0_7] 26)).alloc (.cells #[.slice none 0 0] 24)) fun x w' => x = .returned (.bool true) ∧ eval_Split.St w w' (w.heap.size + 1) (fun q => w.heap.size + 2 ≤ q) (eval_Split.parts 11 (eval_Split.expr a0_0 a0_1 a0_2 a0_3 a0_4 a0_5 a0_6 l0_7)) ∧ eval_Split.Fr ((w.alloc (.cells #[.int .i64 a0_0, .int .i64 a0_1, .int .i64 a0_2, .string a0_3, .string a0_4, .string a0_5, .int .i64 a0_6, .slice A0_7 l0_7.length c0_7] 26)).alloc (.cells #[.slice none 0 0] 24)) w' (w.heap.size + 1) (fun q => w.heap.size + 2 ≤ q) := eval_Split.conj w (w.heap.size + 1) 11 k (eval_Split.expr a0_0 a0_1 a0_2 a0_3 a0_4 a0_5 a0_6 l0_7) A0_7 c0_7 (fun q => P0_7_ q ∧ q < w.heap.size) (fun q => w.heap.size + 2 ≤ q) ((w.alloc (.cells #[.int .i64 a0_0, .int .i64 a0_1, .int .i64 a0_2, .string a0_3, .string a0_4, .string a0_5, .int .i64 a0_6, .slice A0_7 l0_7.length c0_7] 26)).alloc (.cells #[.slice none 0 0] 24)) [] (by omega) hf (Kd.F_below (Kd.F_bound hV.2.2) hB) hV.2.1 ⟨_, heap_alloc2_new w _ _, Kd.N_nil _ _ _ _ _, hB, by omega⟩ (fun q hq => by simp at hq; exact hq) (fun q hq => ⟨by have := hq.2; omega, by have := hq.2; omega⟩) (by have := eval_Split.parts_len 11 (eval_Split.expr a0_0 a0_1 a0_2 a0_3 a0_4 a0_5 a0_6 l0_7); simp only [List.length_nil]; omega)
  have HC := Aside0.mk hcall
  clear h h0 hs0_7 hcall hf hV hB
  go_enter Try.func11, Try.ntmps11
  go_wp2_with (go_at_call 32; (with_reducible refine HC.out.mono ?_); rintro x w2 ⟨rfl, ⟨v, hg, hN, hB2, _⟩, _⟩; have hcg : w2.cell? ⟨w.heap.size + 1, 0, none⟩ = some v := (blk_cell hg 0).trans rfl; have HN := Aside0.mk hN; have HB2 := Aside0.mk hB2; clear hg hN hB2)
  go_ret
  exact ⟨_, rfl, Kd.N_mono HN.out (fun q hq => .inr (by have := hq.1; omega)), HB2.out⟩

end Go.Proofs.Ytfkdldaadjhcfaa.PEvalSplits
