-- Written by wip/pp of this repo (over the kit's print, with additions of this session); Lean checks every line.
import Derived.Test.YtdepkigheacdnabPMeldSavesx0
import Derived.Test.YtdepkigheacdnabPMeldSavesx1
namespace Go.Proofs.Ytdepkigheacdnab.PMeldSaves
open Go.RowKit Go.Proofs.YtdepkigheacdnabW.PrintWords Go.Proofs.YtdepkigheacdnabW.PrintLast Go.Proofs.YtdepkigheacdnabW.PrintMore
attribute [local go_sem] max2_int min2_int max_two min_two max_three min_three max_four min_four   -- for this text's walks alone
set_option linter.unusedVariables false
set_option linter.unusedSimpArgs false

/-! ### api_Done: function 60, by hand -/
-- HAND rounds=1 making=1 func=1 after=61 imports=Derived.Deep.RegionHeld3,Derived.Deep.QuietTactic,Derived.BigQuiet
/-- Does each stand ahead of the next one? -/
def api_Done.f (k : Nat) : List S102 → Option Bool
  | [] => some true
  | [_] => some true
  | a :: b :: r => (meld_byName.f k a.f0 a.f1 a.f2 a.f3 b.f0 b.f1 b.f2 b.f3).bind fun c => if c ≥ 0 then some false else api_Done.f k (b :: r)
theorem api_Done.mono : ∀ a0 k, LeO (api_Done.f k a0) (api_Done.f (k + 1) a0) := by
  intro a0 k
  match a0 with
  | [] => exact LeO.refl _
  | [_] => exact LeO.refl _
  | a :: b :: r =>
    rw [api_Done.f, api_Done.f]
    exact LeO.bind (meld_byName.mono _ _ _ _ _ _ _ _ _) fun c => LeO.ite (LeO.refl _) (api_Done.mono (b :: r) k)
theorem api_Done.at_ {w : World} {A : Option Addr} {l : List S102} (h : Kd.C k102 w A l.length l) (h0 : 0 < l.length) : ∃ b o, A = some ⟨b, o, none⟩ ∧ ∀ (i : Nat) (hi : i < l.length), w.cell? ⟨b, o + i * 4, none⟩ = some (.int .i64 l[i].f0) ∧ w.cell? ⟨b, o + i * 4 + 1, none⟩ = some (.int .i64 l[i].f1) ∧ w.cell? ⟨b, o + i * 4 + 2, none⟩ = some (.int .i64 l[i].f2) ∧ w.cell? ⟨b, o + i * 4 + 3, none⟩ = some (.bool l[i].f3) := by
  obtain ⟨ad, rfl, g0, _⟩ := at_T102 h 0 (by omega) (by omega)
  have hs : ad.spot = none := by
    cases hsp : ad.spot with
    | none => rfl
    | some s =>
      exfalso
      rw [show ad.add ((0 : Int).toNat * 4) = ad from by simp [Addr.add]] at g0
      unfold World.cell? at g0
      split at g0
      · rw [hsp] at g0
        simp at g0
      · cases g0
  obtain ⟨b, o, sp⟩ := ad
  dsimp only at hs
  subst hs
  refine ⟨b, o, rfl, fun i hi => ?_⟩
  obtain ⟨ad, e, g0, g1, g2, g3⟩ := at_T102 h (i : Int) (by omega) (by omega)
  cases e
  have ee : rd_T102 l (i : Int) = l[i] := by simp [rd_T102, List.getD_eq_getElem?_getD, hi]
  have ha : (⟨b, o, none⟩ : Addr).add ((i : Int).toNat * 4) = ⟨b, o + i * 4, none⟩ := by rw [Int.toNat_natCast]; unfold Addr.add; split <;> simp_all
  rw [ee] at g0 g1 g2 g3
  rw [ha] at g0 g1 g2 g3
  exact ⟨g0, g1, g2, g3⟩
set_option maxRecDepth 100000 in
set_option maxHeartbeats 4000000 in
theorem api_Done.calls (k0 : Nat) (A0 : Option Addr) (c0 : Nat) (l0 : List S102) (r : Bool) (w : World) (hr0 : Kd.C k102 w A0 l0.length l0) (hc0 : l0.length ≤ c0) (h : api_Done.f k0 l0 = some r) :
    Calls Try.prog 60 #[.slice A0 l0.length c0, .func (.func 61) #[] #[]] w fun e w' => e = .returned (.bool r) ∧ Below w.heap.size w w' := by
  have hm := hr0.2.1
  have HR := Aside0.mk hr0
  have HS := Aside0.mk h
  clear hr0 h
  go_enter Try.func60, Try.ntmps60
  go_wp2
  go_loopw [5, 8] (fun _ i wr => ∃ k : Nat, k ≤ l0.length ∧ i = .int .i64 k ∧ Aside0 (api_Done.f k0 (l0.drop (k - 1)) = some r) ∧ Aside0 (Below w.heap.size w wr)) (fun _ i _ => l0.length - (intOf i).toNat)
  case atStart => exact ⟨0, by omega, rfl, HS, ⟨Below.refl _ _⟩⟩
  case round =>
    obtain ⟨k, hk, rfl, HG, HB⟩ := hrel
    by_cases hlt : k < l0.length
    · rcases k with _ | q
      · go_wp2
        go_quiet (fail)
        go_wp2
        go_roundw
        case rel => exact ⟨1, by omega, by go_num, HG, ⟨pw_below_drewN HB.out _⟩⟩
        case measure => simp [intOf]; omega
      · obtain ⟨b, o, rfl, hcs⟩ := api_Done.at_ HR.out (by omega)
        obtain ⟨p0, p1, p2, p3⟩ := hcs q (by omega)
        obtain ⟨s0, s1, s2, s3⟩ := hcs (q + 1) hlt
        have hg := HG.out
        rw [Nat.add_sub_cancel, List.drop_eq_getElem_cons (show q < l0.length by omega), List.drop_eq_getElem_cons hlt, api_Done.f] at hg
        obtain ⟨c, hb, hg2⟩ := Option.bind_eq_some_iff.1 hg
        clear hg
        generalize l0[q] = x at *
        generalize hy : l0[q + 1] = y at *
        have HY := Aside0.mk hy
        clear hy
        have keep : ∀ W : World, Below w.heap.size w W → Below w.heap.size w W ∧ W.cell? ⟨b, o + q * 4, none⟩ = some (.int .i64 x.f0) ∧ W.cell? ⟨b, o + q * 4 + 1, none⟩ = some (.int .i64 x.f1) ∧ W.cell? ⟨b, o + q * 4 + 2, none⟩ = some (.int .i64 x.f2) ∧ W.cell? ⟨b, o + q * 4 + 3, none⟩ = some (.bool x.f3) ∧
            W.cell? ⟨b, o + (q + 1) * 4, none⟩ = some (.int .i64 y.f0) ∧ W.cell? ⟨b, o + (q + 1) * 4 + 1, none⟩ = some (.int .i64 y.f1) ∧ W.cell? ⟨b, o + (q + 1) * 4 + 2, none⟩ = some (.int .i64 y.f2) ∧ W.cell? ⟨b, o + (q + 1) * 4 + 3, none⟩ = some (.bool y.f3) :=
          fun W h => ⟨h, pw_cell_below h p0, pw_cell_below h p1, pw_cell_below h p2, pw_cell_below h p3, pw_cell_below h s0, pw_cell_below h s1, pw_cell_below h s2, pw_cell_below h s3⟩
        have hcall : ∀ W : World, Below w.heap.size w W → Calls Try.prog 61 #[.agg #[.int .i64 x.f0, .int .i64 x.f1, .int .i64 x.f2, .bool x.f3], .agg #[.int .i64 y.f0, .int .i64 y.f1, .int .i64 y.f2, .bool y.f3]] W fun e w' => e = .returned (.int .i64 c) ∧ Below w.heap.size w w' :=
          fun W h => (meld_byName.calls k0 _ _ _ _ _ _ _ _ c W hb).mono fun e w' ⟨he, hd⟩ => ⟨he, h.trans (hd.mono h.size)⟩
        have KP := Aside0.mk keep
        have HC := Aside0.mk hcall
        clear keep hcall p0 p1 p2 p3 s0 s1 s2 s3 hcs hb
        have hw1 : IntKind.i64.wrap (((q : Nat) : Int) + 1 - 1) = (q : Int) := by rw [IntKind.wrap_i64]; omega
        have hw2 : IntKind.i64.wrap (((q + 1 : Nat) : Int) - 1) = (q : Int) := by rw [IntKind.wrap_i64]; omega
        have hw3 : IntKind.i64.wrap ((q : Nat) : Int) = (q : Int) := by rw [IntKind.wrap_i64]; omega
        have hq5 : (0 : Int) ≤ ((q + 1 : Nat) : Int) := by omega
        have hq6 : ((q + 1 : Nat) : Int) < (l0.length : Int) := by omega
        have hq7 : decide ((0 : Int) < ((q : Nat) : Int) + 1) = true := by rw [decide_eq_true_iff]; omega
        have hq0 : (0 : Int) ≤ (q : Int) := by omega
        have hq1 : (q : Int) < (l0.length : Int) := by omega
        have hq2 : ((q : Int) + 1) < (l0.length : Int) := by omega
        have hq3 : (0 : Int) ≤ (q : Int) + 1 := by omega
        have hq4 : ((q : Int) + 1).toNat = q + 1 := by omega
        by_cases hc : c ≥ 0
        · rw [if_pos hc] at hg2
          obtain rfl := Option.some.inj hg2
          clear hg2 HG
          go_wp2
          obtain ⟨y0, y1, y2, y3, y4, y5, y6, y7, y8⟩ := KP.out _ HB.out
          go_region_held3 (fun W => Below w.heap.size w W ∧ W.cell? ⟨b, o + q * 4, none⟩ = some (.int .i64 x.f0) ∧ W.cell? ⟨b, o + q * 4 + 1, none⟩ = some (.int .i64 x.f1) ∧ W.cell? ⟨b, o + q * 4 + 2, none⟩ = some (.int .i64 x.f2) ∧ W.cell? ⟨b, o + q * 4 + 3, none⟩ = some (.bool x.f3) ∧
            W.cell? ⟨b, o + (q + 1) * 4, none⟩ = some (.int .i64 y.f0) ∧ W.cell? ⟨b, o + (q + 1) * 4 + 1, none⟩ = some (.int .i64 y.f1) ∧ W.cell? ⟨b, o + (q + 1) * 4 + 2, none⟩ = some (.int .i64 y.f2) ∧ W.cell? ⟨b, o + (q + 1) * 4 + 3, none⟩ = some (.bool y.f3))
            (first | exact KP.out _ (by assumption) | exact KP.out _ (below_drew1 (by assumption)))
            ((go_at_call 61; refine (HC.out _ (by go_split_ands; assumption)).mono ?_; rintro e w1 ⟨rfl, hb1⟩))
          go_wp2
          go_ret
          exact ⟨rfl, hb1⟩
        · rw [if_neg hc] at hg2
          have hc2 : ¬ (0 : Int) ≤ c := hc
          have hc3 : decide ((0 : Int) ≤ c) = false := decide_eq_false hc
          have HF := Aside0.mk hg2
          clear hg2 HG
          go_wp2
          obtain ⟨y0, y1, y2, y3, y4, y5, y6, y7, y8⟩ := KP.out _ HB.out
          go_region_held3 (fun W => Below w.heap.size w W ∧ W.cell? ⟨b, o + q * 4, none⟩ = some (.int .i64 x.f0) ∧ W.cell? ⟨b, o + q * 4 + 1, none⟩ = some (.int .i64 x.f1) ∧ W.cell? ⟨b, o + q * 4 + 2, none⟩ = some (.int .i64 x.f2) ∧ W.cell? ⟨b, o + q * 4 + 3, none⟩ = some (.bool x.f3) ∧
            W.cell? ⟨b, o + (q + 1) * 4, none⟩ = some (.int .i64 y.f0) ∧ W.cell? ⟨b, o + (q + 1) * 4 + 1, none⟩ = some (.int .i64 y.f1) ∧ W.cell? ⟨b, o + (q + 1) * 4 + 2, none⟩ = some (.int .i64 y.f2) ∧ W.cell? ⟨b, o + (q + 1) * 4 + 3, none⟩ = some (.bool y.f3))
            (first | exact KP.out _ (by assumption) | exact KP.out _ (below_drew1 (by assumption)))
            ((go_at_call 61; refine (HC.out _ (by go_split_ands; assumption)).mono ?_; rintro e w1 ⟨rfl, hb1⟩))
          go_wp2
          go_roundw
          case rel => exact ⟨q + 2, by omega, by go_num, ⟨by rw [show q + 2 - 1 = q + 1 from rfl, List.drop_eq_getElem_cons hlt, HY.out]; exact HF.out⟩, ⟨hb1⟩⟩
          case measure => simp [intOf]; omega
    · have hk2 : k = l0.length := by omega
      subst hk2
      have hr : r = true := by
        have hg := HG.out
        rcases hn : l0.drop (l0.length - 1) with _ | ⟨x, _ | ⟨y, z⟩⟩
        · rw [hn] at hg; exact (Option.some.inj hg).symm
        · rw [hn] at hg; exact (Option.some.inj hg).symm
        · exfalso
          have hh := congrArg List.length hn
          rw [List.length_drop] at hh
          simp only [List.length_cons] at hh
          omega
      subst hr
      clear HG
      go_wp2
      go_ret
      exact ⟨rfl, HB.out⟩

end Go.Proofs.Ytdepkigheacdnab.PMeldSaves
