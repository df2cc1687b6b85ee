-- Written by wip/pp of this repo (over the kit's print, with additions of this session); Lean checks every line.
import Derived.Test.YtaadljjfckhinaaPValueOrsx0
namespace Go.Proofs.Ytaadljjfckhinaa.PValueOrs
open Go.RowKit Go.Proofs.YtaadljjfckhinaaW.PrintWords Go.Proofs.YtaadljjfckhinaaW.PrintLast Go.Proofs.YtaadljjfckhinaaW.PrintMore
attribute [local go_sem] max2_int min2_int max_two min_two max_three min_three max_four min_four   -- for this text's walks alone
set_option linter.unusedVariables false
set_option linter.unusedSimpArgs false

-- NOT PRINTED: function 39 (value_fold)

/-! ### value_Or: function 32, by hand -/
-- HAND rounds=0 making=0
/-- What the closure and the fold come to over the first elements. -/
def value_Or.st (l : List Int) : Int × Bool := l.foldl (fun s t => (mx s.1 t, s.2 || (decide (t < 0) || decide (t > 2)))) (0, false)
def value_Or.f (l0 : List Int) : Option (Int × Int) := some (if (value_Or.st l0).2 = true then (0, 2) else ((value_Or.st l0).1, 0))
theorem value_Or.st_snoc (l : List Int) (t : Int) : value_Or.st (l ++ [t]) = (mx (value_Or.st l).1 t, (value_Or.st l).2 || (decide (t < 0) || decide (t > 2))) := by
  simp [value_Or.st, List.foldl_append]
theorem value_Or.st_take (l : List Int) (i : Nat) (h : i < l.length) : value_Or.st (l.take (i + 1)) = (mx (value_Or.st (l.take i)).1 (rd l i), (value_Or.st (l.take i)).2 || (decide (rd l i < 0) || decide (rd l i > 2))) := by
  rw [List.take_succ_eq_append_getElem h, value_Or.st_snoc]
  have e : rd l (i : Int) = l[i] := by simp [rd, List.getD_eq_getElem?_getD, h]
  rw [e]
theorem value_Or.step (a b : Int) (w : World) : Calls Try.prog 42 #[.int .i64 a, .int .i64 b] w fun e w' => e = .returned (.int .i64 (mx a b)) ∧ w' = w := by
  go_enter Try.func42, Try.ntmps42
  go_wp2
  all_goals go_ret
  · exact ⟨by unfold mx; rw [if_pos (by assumption)]; rfl, rfl⟩
  · exact ⟨by unfold mx; rw [if_neg (by omega)]; rfl, rfl⟩
theorem value_Or.fold (A0 : Option Addr) (c0 : Nat) (l0 : List Int) (w : World) (hr0 : Kd.C (Kd.int .i64) w A0 l0.length l0) (hm : l0.length ≤ 9223372036854775807) (z1 : Int) (z2 : Bool) (hz : Hid (value_Or.st l0 = (z1, z2))) :
    Calls Try.prog 39 #[.int .i64 0, .slice A0 l0.length c0, .func (.func 42) #[] #[]] w fun e w' =>
      e = .returned (.tuple #[.int .i64 (if z2 = true then 0 else z1), .int .i64 (if z2 = true then 2 else 0)]) ∧ w' = w := by
  have HR0 := Aside0.mk hr0
  clear hr0
  go_enter Try.func39, Try.ntmps39
  go_wp2
  go_loop [8, 9, 15] (fun o b i => ∃ k : Nat, k ≤ l0.length ∧ i = .int .i64 k ∧ o = .int .i64 (value_Or.st (l0.take k)).1 ∧ b = .bool (value_Or.st (l0.take k)).2) (fun _ _ i => l0.length - (intOf i).toNat)
  case atStart => exact ⟨0, by omega, rfl, rfl, rfl⟩
  case round =>
    obtain ⟨k, hk, rfl, rfl, rfl⟩ := hrel
    by_cases hlt : k < l0.length
    · have hs := value_Or.st_take l0 k hlt
      obtain ⟨ad, e1, hc'⟩ := Kd.at_int HR0.out (k : Int) (by omega) (by omega)
      cases e1
      have hc : w.cell? (ad.add k) = some (.int .i64 (rd l0 (k : Int))) := by simpa using hc'
      clear hc'
      generalize value_Or.st (l0.take k) = s at *
      generalize rd l0 (k : Int) = t at *
      obtain ⟨s1, s2⟩ := s
      have HS := Lib.hid hs
      clear hs
      cases s2 with
      | true =>
        go_wp2_with (go_at_call 42; refine (value_Or.step _ _ _).mono ?_; rintro e w' ⟨rfl, rfl⟩)
        go_round
        case rel => exact ⟨k + 1, by omega, by go_num, by rw [HS.out], by rw [HS.out]; rfl⟩
        case measure => simp [intOf]; omega
      | false =>
        by_cases h0 : t < 0
        · have h1 : decide (t < 0) = true := decide_eq_true h0
          go_wp2_with (go_at_call 42; refine (value_Or.step _ _ _).mono ?_; rintro e w' ⟨rfl, rfl⟩)
          go_round
          case rel => exact ⟨k + 1, by omega, by go_num, by rw [HS.out], by rw [HS.out]; simp [h1]⟩
          case measure => simp [intOf]; omega
        · have h1 : decide (t < 0) = false := decide_eq_false h0
          by_cases h2 : 2 < t
          · have h3 : decide (t > 2) = true := decide_eq_true h2
            go_wp2_with (go_at_call 42; refine (value_Or.step _ _ _).mono ?_; rintro e w' ⟨rfl, rfl⟩)
            go_round
            case rel => exact ⟨k + 1, by omega, by go_num, by rw [HS.out], by rw [HS.out]; simp [h1, h3]⟩
            case measure => simp [intOf]; omega
          · have h3 : decide (t > 2) = false := decide_eq_false h2
            go_wp2_with (go_at_call 42; refine (value_Or.step _ _ _).mono ?_; rintro e w' ⟨rfl, rfl⟩)
            go_round
            case rel => exact ⟨k + 1, by omega, by go_num, by rw [HS.out], by rw [HS.out]; simp [h1, h3]⟩
            case measure => simp [intOf]; omega
    · have hkl : k = l0.length := by omega
      subst hkl
      have e := hz.out
      rw [List.take_length, e]
      clear e
      cases z2 with
      | true =>
        go_wp2
        go_ret2
        exact ⟨rfl, rfl⟩
      | false =>
        go_wp2
        go_ret2
        exact ⟨rfl, rfl⟩
theorem value_Or.calls (A0 : Option Addr) (c0 : Nat) (l0 : List Int) (r1 : Int) (r2 : Int) (w : World) (hr0 : Kd.C (Kd.int .i64) w A0 l0.length l0) (hc0 : l0.length ≤ c0) (h : value_Or.f l0 = some (r1, r2)) :
    Calls Try.prog 32 #[.slice A0 l0.length c0] w fun e w' => e = .returned (.tuple #[.int .i64 r1, .int .i64 r2]) ∧ Drawn0 w w' := by
  obtain ⟨z1, z2, hz⟩ : ∃ z1 z2, value_Or.st l0 = (z1, z2) := ⟨_, _, rfl⟩
  have HF := Lib.hid (value_Or.fold A0 c0 l0 w hr0 hr0.2.1 z1 z2 (Lib.hid hz))
  have hv : r1 = (if z2 = true then 0 else z1) ∧ r2 = (if z2 = true then 2 else 0) := by
    unfold value_Or.f at h
    rw [hz] at h
    have h := Option.some.inj h
    cases z2 <;> (simp at h; simp [h])
  obtain ⟨rfl, rfl⟩ := hv
  clear h hr0 hz
  generalize (if z2 = true then (0 : Int) else z1) = u at *
  generalize (if z2 = true then (2 : Int) else 0) = v at *
  go_enter Try.func32, Try.ntmps32
  go_wp2_with (go_at_call 39; refine HF.out.mono ?_; rintro e w' ⟨rfl, rfl⟩)
  go_ret2
  exact ⟨rfl, Drawn0.refl _⟩

-- NOT PRINTED: function 41 (commonholdref_counted)

/-! ### commonholdref_AnyOf: function 33, by hand -/
-- HAND rounds=0 making=1
def commonholdref_AnyOf.bad (l : List Int) : Bool := l.any fun t => decide (t < 0) || decide (t > 2)
def commonholdref_AnyOf.f (l0 : List Int) : Option (Int × Int) := some (if commonholdref_AnyOf.bad l0 = true then (0, 2) else if 0 < l0.count 2 then (2, 0) else if 0 < l0.count 1 then (1, 0) else (0, 0))
def commonholdref_AnyOf.cellsOf (n0 n1 n2 : Nat) : Array Value := #[.int .i64 n0, .int .i64 n1, .int .i64 n2]
/-- What counted hands back: the three counts, unless something is no truth value. -/
def commonholdref_AnyOf.Told (l : List Int) (w : World) (e : Ending) (w' : World) : Prop :=
  (commonholdref_AnyOf.bad l = false ∧ e = .returned (.tuple #[.agg #[.int .i64 (l.count 0 : Nat), .int .i64 (l.count 1 : Nat), .int .i64 (l.count 2 : Nat)], .bool true]) ∧ Below w.heap.size w w') ∨
  (commonholdref_AnyOf.bad l = true ∧ ∃ n0 n1 n2 : Int, e = .returned (.tuple #[.agg #[.int .i64 n0, .int .i64 n1, .int .i64 n2], .bool false]) ∧ Below w.heap.size w w')
theorem commonholdref_AnyOf.take_at (l : List Int) (i : Nat) (h : i < l.length) : l.take (i + 1) = l.take i ++ [rd l i] := by
  rw [List.take_succ_eq_append_getElem h]
  have e : rd l (i : Int) = l[i] := by simp [rd, List.getD_eq_getElem?_getD, h]
  rw [e]
theorem commonholdref_AnyOf.bad_at (l : List Int) (i : Nat) (h : i < l.length) (hb : decide (rd l i < 0) = true ∨ decide (rd l i > 2) = true) : commonholdref_AnyOf.bad l = true := by
  have e : rd l (i : Int) = l[i] := by simp [rd, List.getD_eq_getElem?_getD, h]
  rw [e] at hb
  simp only [commonholdref_AnyOf.bad, List.any_eq_true]
  exact ⟨l[i], List.getElem_mem h, by simpa using hb⟩
theorem commonholdref_AnyOf.not_bad (l : List Int) (i : Nat) (h : i < l.length) (h0 : 0 ≤ rd l i) (h2 : rd l i ≤ 2) (hb : commonholdref_AnyOf.bad (l.take i) = false) : commonholdref_AnyOf.bad (l.take (i + 1)) = false := by
  rw [commonholdref_AnyOf.take_at l i h]
  unfold commonholdref_AnyOf.bad at *
  rw [List.any_append, hb]
  simp
  omega
theorem commonholdref_AnyOf.counted (A0 : Option Addr) (c0 : Nat) (l0 : List Int) (w : World) (hr0 : Kd.C (Kd.int .i64) w A0 l0.length l0) (hm : l0.length ≤ 9223372036854775807) :
    Calls Try.prog 41 #[.slice A0 l0.length c0] w (commonholdref_AnyOf.Told l0 w) := by
  have HR0 := Aside0.mk hr0
  clear hr0
  go_enter Try.func41, Try.ntmps41
  go_wp2
  go_loopw [9] (fun i wr => ∃ k : Nat, k ≤ l0.length ∧ i = .int .i64 k ∧ Hid (commonholdref_AnyOf.bad (l0.take k) = false) ∧ ∃ n0 n1 n2 : Nat, Hid ((l0.take k).count 0 = n0) ∧ Hid ((l0.take k).count 1 = n1) ∧ Hid ((l0.take k).count 2 = n2) ∧ n0 ≤ k ∧ n1 ≤ k ∧ n2 ≤ k ∧
      wr = (w.alloc (.cells #[.int .i64 0, .int .i64 0, .int .i64 0] 47)).alloc (.cells #[.int .i64 n0, .int .i64 n1, .int .i64 n2] 47))
    (fun i _ => l0.length - (intOf i).toNat)
  case atStart => exact ⟨0, by omega, rfl, Lib.hid rfl, 0, 0, 0, Lib.hid rfl, Lib.hid rfl, Lib.hid rfl, by omega, by omega, by omega, rfl⟩
  case round =>
    obtain ⟨k, hk, rfl, hb, n0, n1, n2, h0, h1, h2, b0, b1, b2, rfl⟩ := hrel
    by_cases hlt : k < l0.length
    · obtain ⟨ad, e1, hc'⟩ := Kd.at_int HR0.out (k : Int) (by omega) (by omega)
      cases e1
      have hc : ((w.alloc (.cells #[.int .i64 0, .int .i64 0, .int .i64 0] 47)).alloc (.cells #[.int .i64 n0, .int .i64 n1, .int .i64 n2] 47)).cell? (ad.add k) = some (.int .i64 (rd l0 (k : Int))) :=
        pw_cell_below (below_alloc (below_alloc (Below.refl _ _) _) _) (by simpa using hc')
      clear hc'
      by_cases t0 : rd l0 (k : Int) < 0
      · have hbad := Lib.hid (commonholdref_AnyOf.bad_at l0 k hlt (.inl (decide_eq_true t0)))
        generalize rd l0 (k : Int) = t at *
        go_wp2
        refine bodyPost_ret (v := .tuple #[.agg #[.int .i64 n0, .int .i64 n1, .int .i64 n2], .bool false]) (by simp [results, Try.results41, go_sem]) rfl (.inr ⟨hbad.out, _, _, _, rfl, below_alloc (below_alloc (Below.refl _ _) _) _⟩)
      · by_cases t2 : 2 < rd l0 (k : Int)
        · have hbad := Lib.hid (commonholdref_AnyOf.bad_at l0 k hlt (.inr (decide_eq_true t2)))
          generalize rd l0 (k : Int) = t at *
          go_wp2
          refine bodyPost_ret (v := .tuple #[.agg #[.int .i64 n0, .int .i64 n1, .int .i64 n2], .bool false]) (by simp [results, Try.results41, go_sem]) rfl (.inr ⟨hbad.out, _, _, _, rfl, below_alloc (below_alloc (Below.refl _ _) _) _⟩)
        rcases (show rd l0 (k : Int) = 0 ∨ rd l0 (k : Int) = 1 ∨ rd l0 (k : Int) = 2 by omega) with t3 | t3 | t3
        · have htv : rd l0 (k : Int) = 0 := by omega
          have hk1 := commonholdref_AnyOf.take_at l0 k hlt
          have hnb := Lib.hid (commonholdref_AnyOf.not_bad l0 k hlt (by omega) (by omega) hb.out)
          rw [htv] at hk1 hc
          have g0 := Lib.hid (show (l0.take (k + 1)).count 0 = n0 + 1 by rw [hk1, List.count_append, h0.out]; rfl)
          have g1 := Lib.hid (show (l0.take (k + 1)).count 1 = n1 by rw [hk1, List.count_append, h1.out]; rfl)
          have g2 := Lib.hid (show (l0.take (k + 1)).count 2 = n2 by rw [hk1, List.count_append, h2.out]; rfl)
          clear hk1 htv h0 h1 h2 hb t0 t2
          go_wp2
          go_roundw
          case rel => exact ⟨k + 1, by omega, by go_num, hnb, _, _, _, g0, g1, g2, by omega, by omega, by omega, by simp⟩
          case measure => simp [intOf]; omega
        · have htv : rd l0 (k : Int) = 1 := by omega
          have hk1 := commonholdref_AnyOf.take_at l0 k hlt
          have hnb := Lib.hid (commonholdref_AnyOf.not_bad l0 k hlt (by omega) (by omega) hb.out)
          rw [htv] at hk1 hc
          have g0 := Lib.hid (show (l0.take (k + 1)).count 0 = n0 by rw [hk1, List.count_append, h0.out]; rfl)
          have g1 := Lib.hid (show (l0.take (k + 1)).count 1 = n1 + 1 by rw [hk1, List.count_append, h1.out]; rfl)
          have g2 := Lib.hid (show (l0.take (k + 1)).count 2 = n2 by rw [hk1, List.count_append, h2.out]; rfl)
          clear hk1 htv h0 h1 h2 hb t0 t2
          go_wp2
          go_roundw
          case rel => exact ⟨k + 1, by omega, by go_num, hnb, _, _, _, g0, g1, g2, by omega, by omega, by omega, by simp⟩
          case measure => simp [intOf]; omega
        · have htv : rd l0 (k : Int) = 2 := by omega
          have hk1 := commonholdref_AnyOf.take_at l0 k hlt
          have hnb := Lib.hid (commonholdref_AnyOf.not_bad l0 k hlt (by omega) (by omega) hb.out)
          rw [htv] at hk1 hc
          have g0 := Lib.hid (show (l0.take (k + 1)).count 0 = n0 by rw [hk1, List.count_append, h0.out]; rfl)
          have g1 := Lib.hid (show (l0.take (k + 1)).count 1 = n1 by rw [hk1, List.count_append, h1.out]; rfl)
          have g2 := Lib.hid (show (l0.take (k + 1)).count 2 = n2 + 1 by rw [hk1, List.count_append, h2.out]; rfl)
          clear hk1 htv h0 h1 h2 hb t0 t2
          go_wp2
          go_roundw
          case rel => exact ⟨k + 1, by omega, by go_num, hnb, _, _, _, g0, g1, g2, by omega, by omega, by omega, by simp⟩
          case measure => simp [intOf]; omega
    · have hkl : k = l0.length := by omega
      subst hkl
      rw [List.take_length] at hb h0 h1 h2
      have e0 := h0.out
      have e1 := h1.out
      have e2 := h2.out
      subst e0
      subst e1
      subst e2
      generalize hn0 : l0.count 0 = n0 at *
      generalize hn1 : l0.count 1 = n1 at *
      generalize hn2 : l0.count 2 = n2 at *
      have hn0 := Lib.hid hn0
      have hn1 := Lib.hid hn1
      have hn2 := Lib.hid hn2
      go_wp2
      refine bodyPost_ret (v := .tuple #[.agg #[.int .i64 n0, .int .i64 n1, .int .i64 n2], .bool true]) (by simp [results, Try.results41, go_sem]) rfl (.inl ⟨hb.out, by rw [hn0.out, hn1.out, hn2.out], below_alloc (below_alloc (Below.refl _ _) _) _⟩)
theorem commonholdref_AnyOf.calls (A0 : Option Addr) (c0 : Nat) (l0 : List Int) (r1 : Int) (r2 : Int) (w : World) (hr0 : Kd.C (Kd.int .i64) w A0 l0.length l0) (hc0 : l0.length ≤ c0) (h : commonholdref_AnyOf.f l0 = some (r1, r2)) :
    Calls Try.prog 33 #[.slice A0 l0.length c0] w fun e w' => e = .returned (.tuple #[.int .i64 r1, .int .i64 r2]) ∧ Below w.heap.size w w' := by
  have HF := Lib.hid (commonholdref_AnyOf.counted A0 c0 l0 w hr0 hr0.2.1)
  have H := Lib.hid (Option.some.inj h)
  clear h hr0
  generalize hn0 : l0.count 0 = n0 at *
  generalize hn1 : l0.count 1 = n1 at *
  generalize hn2 : l0.count 2 = n2 at *
  have hn0 := Lib.hid hn0
  have hn1 := Lib.hid hn1
  have hn2 := Lib.hid hn2
  go_enter Try.func33, Try.ntmps33
  go_wp2_with fail
  refine HF.out.mono ?_
  rintro e w1 (⟨hb, rfl, hB⟩ | ⟨hb, m0, m1, m2, rfl, hB⟩)
  · have hb := Lib.hid hb
    rw [hn0.out, hn1.out, hn2.out]
    by_cases p0 : 0 < n2
    · have q0 : 0 < (n2 : Int) := by omega
      go_wp2
      go_ret2
      have e := H.out
      rw [hb.out, if_neg (by simp), if_pos p0] at e
      injection e with e1 e2
      subst e1; subst e2
      exact ⟨rfl, below_alloc hB _⟩
    · have q0 : ¬ 0 < (n2 : Int) := by omega
      by_cases p1 : 0 < n1
      · have q1 : 0 < (n1 : Int) := by omega
        go_wp2
        go_ret2
        have e := H.out
        rw [hb.out, if_neg (by simp), if_neg p0, if_pos p1] at e
        injection e with e1 e2
        subst e1; subst e2
        exact ⟨rfl, below_alloc hB _⟩
      · have q1 : ¬ 0 < (n1 : Int) := by omega
        go_wp2
        go_ret2
        have e := H.out
        rw [hb.out, if_neg (by simp), if_neg p0, if_neg p1] at e
        injection e with e1 e2
        subst e1; subst e2
        exact ⟨rfl, below_alloc hB _⟩
  · have hb := Lib.hid hb
    go_wp2
    go_ret2
    have e := H.out
    rw [hb.out, if_pos rfl] at e
    injection e with e1 e2
    subst e1; subst e2
    exact ⟨rfl, below_alloc hB _⟩

/-! ### commonholdlaw_ValueOrs: function 13 -/
def commonholdlaw_ValueOrs.f (l0 : List Int) : Option (Bool) := if ([] : List Int).length + l0.length < 17592186044416 then ((value_Or.f (([] : List Int) ++ l0)).bind fun bt104 => ((commonholdref_AnyOf.f l0).bind fun bt106 => (if bt104.1 = bt106.1 then (some (bt104.2 == bt106.2)) else (some false)))) else (none)
set_option maxHeartbeats 8000000 in
set_option maxRecDepth 100000 in
theorem commonholdlaw_ValueOrs.calls (A0 : Option Addr) (c0 : Nat) (l0 : List Int) (r : Bool) (w : World) (hr0 : Kd.C (Kd.int .i64) w A0 l0.length l0) (hc0 : l0.length ≤ c0) (h : commonholdlaw_ValueOrs.f l0 = some r) :
    Calls Try.prog 13 #[.slice A0 l0.length c0] w fun e w' => e = .returned (.bool r) ∧ Below w.heap.size w w' := by
  have HR0 := Aside0.mk hr0
  have HC0 := Aside0.mk hc0
  clear hr0 hc0
  have HB := Aside0.mk (Below.refl w.heap.size w)
  have H : (if ([] : List Int).length + l0.length < 17592186044416 then ((value_Or.f (([] : List Int) ++ l0)).bind fun bt104 => ((commonholdref_AnyOf.f l0).bind fun bt106 => (if bt104.1 = bt106.1 then (some (bt104.2 == bt106.2)) else (some false)))) else (none)) = some r := h
  clear h
  by_cases c2 : ([] : List Int).length + l0.length < 17592186044416
  · rw [if_pos c2] at H
    have LMc2 := Aside0.mk c2
    clear c2
    obtain ⟨y101, hy101⟩ : ∃ y_ : List Int, y_ = (([] : List Int) ++ l0) := ⟨_, rfl⟩
    replace H : ((value_Or.f y101).bind fun bt104 => ((commonholdref_AnyOf.f l0).bind fun bt106 => (if bt104.1 = bt106.1 then (some (bt104.2 == bt106.2)) else (some false)))) = some r := by first | (rw [hy101]; with_reducible exact H) | (have H2_ := (Option.bind_some _ _).symm.trans H; rw [hy101]; with_reducible exact H2_) | (have H2_ := (Option.bind_some _ _).symm.trans H; with_reducible exact H2_) | with_reducible exact H | (rw [hy101]; exact H) | exact H
    have Ny101 := Aside0.mk hy101
    clear hy101
    replace H := Option.bind_eq_some_iff.mp H
    obtain ⟨⟨t104, t105⟩, A30, H⟩ := H
    replace H : ((commonholdref_AnyOf.f l0).bind fun bt106 => (if t104 = bt106.1 then (some (t105 == bt106.2)) else (some false))) = some r := H
    have A3 := Aside0.mk A30
    clear A30
    replace H := Option.bind_eq_some_iff.mp H
    obtain ⟨⟨t106, t107⟩, A40, H⟩ := H
    replace H : (if t104 = t106 then (some (t105 == t107)) else (some false)) = some r := H
    have A4 := Aside0.mk A40
    clear A40
    by_cases c5 : t104 = t106
    · rw [if_pos c5] at H
      have c5b0 : (t104 == t106) = true := beq_iff_eq.mpr c5
      have c5b1 : (t104 != t106) = false := bne_eq_false_iff_eq.mpr c5
      clear c5
      obtain rfl := Option.some.inj H
      go_enter Try.func13, Try.ntmps13
      go_wp2_with (first | ((with_reducible refine gate_builtin (b := .append) (xs := #[.const (.slice none 0 0), .tmp 8]) rfl ?_); at_builtin; refine Kd.R_append_rows (Kd.int .i64) (w0 := w) w.heap.size rfl (.const (.slice none 0 0)) (.tmp 8) 24 3 (.int .i64 0) 8 rfl Try.underlying24 info3 rfl (by decide) (by omega) (.slice none 0 0) ([] : List Int) l0 _ _ _ (fun _ => True) (fun _ => False) rfl rfl ?aO ?aR (fun _ _ h => h) (fun _ h => h.elim) ?aF ?aB ?aS ?aL ?_; (case aR => repeat (first | exact HR0.out | (with_reducible refine Kd.C_alloc ?_ _) | (with_reducible refine Kd.C_drewN ?_ _) | (with_reducible refine Kd.C_drew ?_))); (case aB => exact (by repeat (first | (with_reducible first | exact HB.out | apply below_alloc | apply pw_below_drewN | apply below_drew1) | exact HB.out))); (case aF => exact (fun _ _ => trivial)); (case aO => exact ((Kd.R_nil _ _ _ _ (fun _ => True)))); (case aS => exact (below_size (by repeat (first | (with_reducible first | exact HB.out | apply below_alloc | apply pw_below_drewN | apply below_drew1) | exact HB.out)))); (case aL => have := LMc2.out; omega); intro v102 w6 ho hb hg hat; rw [← Ny101.out] at ho; have n0_ := Aside0.mk (hb); have n1_ := Aside0.mk (ho); clear HB; have HB := n0_; have HO103 := n1_; clear n0_ n1_; clear ho hb hg hat; obtain ⟨Ao7, co7, eo7⟩ := Kd.R_slice HO103.out; subst eo7) | ((with_reducible refine gate_callee (f := 32) rfl ?_); refine goesL_ (some 10) rfl rfl Try.func32 (by kernel_rfl) rfl #[.slice Ao7 y101.length co7] rfl (by (try simp only [List.map_toArray, List.map_cons, List.map_nil]); first | done | rfl | (simp only [List.length_drop, List.length_take]; rfl)) ?_; (with_reducible refine (value_Or.calls _ _ y101 t104 t105 _ ?side1 ?side2 A3.out).mono ?_); (case side1 => repeat (first | exact (Kd.R_reads' HO103.out).2.2 | (with_reducible refine Kd.C_alloc ?_ _) | (with_reducible refine Kd.C_drewN ?_ _) | (with_reducible refine Kd.C_drew ?_))); (case side2 => exact (Kd.R_reads' HO103.out).2.1); rintro e w' ⟨rfl, ⟨nd, rfl⟩⟩; refine ⟨_, rfl, ?_⟩) | ((with_reducible refine gate_callee (f := 33) rfl ?_); refine goesL_ (some 15) rfl rfl Try.func33 (by kernel_rfl) rfl #[.slice A0 l0.length c0] rfl (by (try simp only [List.map_toArray, List.map_cons, List.map_nil]); first | done | rfl | (simp only [List.length_drop, List.length_take]; rfl)) ?_; (with_reducible refine (commonholdref_AnyOf.calls _ _ l0 t106 t107 _ ?side1 ?side2 A4.out).mono ?_); (case side1 => repeat (first | exact (Kd.C_below HR0.out (by repeat (first | (with_reducible first | exact HB.out | apply below_alloc | apply pw_below_drewN | apply below_drew1) | exact HB.out))) | (with_reducible refine Kd.C_alloc ?_ _) | (with_reducible refine Kd.C_drewN ?_ _) | (with_reducible refine Kd.C_drew ?_))); (case side2 => exact HC0.out); rintro e w8 ⟨rfl, hb⟩; refine ⟨_, rfl, ?_⟩; have n0_ := Aside0.mk (Kd.R_below (by (with_reducible repeat (first | apply Kd.R_alloc | apply Kd.R_drewN | apply Kd.R_drew)); exact HO103.out) hb); have n1_ := Aside0.mk (below_step (by repeat (first | (with_reducible first | exact HB.out | apply below_alloc | apply pw_below_drewN | apply below_drew1) | exact HB.out)) hb); clear HO103; clear HB; have HO103 := n0_; have HB := n1_; clear n0_ n1_; (try clear hb); (try clear hb2); (try clear hk); (try clear hi)))
      go_ret
      exact ⟨by first | rfl | (simp [errW_none, errW_some] <;> rfl) | (simp [*, errW_none, errW_some] <;> rfl), by repeat (first | (with_reducible first | exact HB.out | apply below_alloc | apply pw_below_drewN | apply below_drew1) | exact HB.out)⟩
    · rw [if_neg c5] at H
      have c5b0 : (t104 == t106) = false := beq_eq_false_iff_ne.mpr c5
      have c5b1 : (t104 != t106) = true := bne_iff_ne.mpr c5
      obtain rfl := Option.some.inj H
      go_enter Try.func13, Try.ntmps13
      go_wp2_with (first | ((with_reducible refine gate_builtin (b := .append) (xs := #[.const (.slice none 0 0), .tmp 8]) rfl ?_); at_builtin; refine Kd.R_append_rows (Kd.int .i64) (w0 := w) w.heap.size rfl (.const (.slice none 0 0)) (.tmp 8) 24 3 (.int .i64 0) 8 rfl Try.underlying24 info3 rfl (by decide) (by omega) (.slice none 0 0) ([] : List Int) l0 _ _ _ (fun _ => True) (fun _ => False) rfl rfl ?aO ?aR (fun _ _ h => h) (fun _ h => h.elim) ?aF ?aB ?aS ?aL ?_; (case aR => repeat (first | exact HR0.out | (with_reducible refine Kd.C_alloc ?_ _) | (with_reducible refine Kd.C_drewN ?_ _) | (with_reducible refine Kd.C_drew ?_))); (case aB => exact (by repeat (first | (with_reducible first | exact HB.out | apply below_alloc | apply pw_below_drewN | apply below_drew1) | exact HB.out))); (case aF => exact (fun _ _ => trivial)); (case aO => exact ((Kd.R_nil _ _ _ _ (fun _ => True)))); (case aS => exact (below_size (by repeat (first | (with_reducible first | exact HB.out | apply below_alloc | apply pw_below_drewN | apply below_drew1) | exact HB.out)))); (case aL => have := LMc2.out; omega); intro v102 w9 ho hb hg hat; rw [← Ny101.out] at ho; have n0_ := Aside0.mk (hb); have n1_ := Aside0.mk (ho); clear HB; have HB := n0_; have HO103 := n1_; clear n0_ n1_; clear ho hb hg hat; obtain ⟨Ao10, co10, eo10⟩ := Kd.R_slice HO103.out; subst eo10) | ((with_reducible refine gate_callee (f := 32) rfl ?_); refine goesL_ (some 10) rfl rfl Try.func32 (by kernel_rfl) rfl #[.slice Ao10 y101.length co10] rfl (by (try simp only [List.map_toArray, List.map_cons, List.map_nil]); first | done | rfl | (simp only [List.length_drop, List.length_take]; rfl)) ?_; (with_reducible refine (value_Or.calls _ _ y101 t104 t105 _ ?side1 ?side2 A3.out).mono ?_); (case side1 => repeat (first | exact (Kd.R_reads' HO103.out).2.2 | (with_reducible refine Kd.C_alloc ?_ _) | (with_reducible refine Kd.C_drewN ?_ _) | (with_reducible refine Kd.C_drew ?_))); (case side2 => exact (Kd.R_reads' HO103.out).2.1); rintro e w' ⟨rfl, ⟨nd, rfl⟩⟩; refine ⟨_, rfl, ?_⟩) | ((with_reducible refine gate_callee (f := 33) rfl ?_); refine goesL_ (some 15) rfl rfl Try.func33 (by kernel_rfl) rfl #[.slice A0 l0.length c0] rfl (by (try simp only [List.map_toArray, List.map_cons, List.map_nil]); first | done | rfl | (simp only [List.length_drop, List.length_take]; rfl)) ?_; (with_reducible refine (commonholdref_AnyOf.calls _ _ l0 t106 t107 _ ?side1 ?side2 A4.out).mono ?_); (case side1 => repeat (first | exact (Kd.C_below HR0.out (by repeat (first | (with_reducible first | exact HB.out | apply below_alloc | apply pw_below_drewN | apply below_drew1) | exact HB.out))) | (with_reducible refine Kd.C_alloc ?_ _) | (with_reducible refine Kd.C_drewN ?_ _) | (with_reducible refine Kd.C_drew ?_))); (case side2 => exact HC0.out); rintro e w11 ⟨rfl, hb⟩; refine ⟨_, rfl, ?_⟩; have n0_ := Aside0.mk (Kd.R_below (by (with_reducible repeat (first | apply Kd.R_alloc | apply Kd.R_drewN | apply Kd.R_drew)); exact HO103.out) hb); have n1_ := Aside0.mk (below_step (by repeat (first | (with_reducible first | exact HB.out | apply below_alloc | apply pw_below_drewN | apply below_drew1) | exact HB.out)) hb); clear HO103; clear HB; have HO103 := n0_; have HB := n1_; clear n0_ n1_; (try clear hb); (try clear hb2); (try clear hk); (try clear hi)))
      go_ret
      exact ⟨by first | rfl | (simp [errW_none, errW_some] <;> rfl) | (simp [*, errW_none, errW_some] <;> rfl), by repeat (first | (with_reducible first | exact HB.out | apply below_alloc | apply pw_below_drewN | apply below_drew1) | exact HB.out)⟩
  · rw [if_neg c2] at H
    exact absurd H (by simp)

/-- THE ONE PURE STATEMENT of commonholdlaw_ValueOrs: yours. -/
def commonholdlaw_ValueOrs.Pure : Prop := ∀ (l0 : List Int), l0.length ≤ maxLen → l0.length * 8 ≤ 140737488351232 → (∀ x ∈ l0, (Lit.int .i64 x).wf = true) → commonholdlaw_ValueOrs.f l0 = some true
theorem commonholdlaw_ValueOrs.walk (P : commonholdlaw_ValueOrs.Pure) (a0 : Option Addr) (len0 cap0 : Nat) (z0 : List Int) (w : World) (w0 : (a0 = none ∧ len0 = 0 ∧ cap0 = 0 ∧ z0 = []) ∨ ∃ x, a0 = some x ∧ len0 ≤ cap0 ∧ cap0 ≤ maxLen ∧ z0.length = cap0 ∧ (∀ i, i < z0.length → w.cell? (x.add i) = some (.int .i64 (z0.getD i 0))) ∧ ∀ n ∈ z0, (Lit.int .i64 n).wf = true) (y0 : len0 * 8 ≤ 140737488351232) :
    Calls Try.prog 13 #[.slice a0 len0 cap0] w fun e w' => e = .returned (.bool true) ∧ Below w.heap.size w w' := by
  obtain ⟨l0, rfl, hr0, hm0, hw0, hc0⟩ := ReadsInt.ofRowC w0
  have h := P l0 hm0 y0 hw0
  refine (commonholdlaw_ValueOrs.calls _ _ l0 true w (Kd.C_of_reads (d := (0 : Int)) (h1 := fun _ => rfl) hr0) hc0 h).mono ?_
  rintro e w' ⟨rfl, hd⟩
  exact ⟨rfl, hd⟩

end Go.Proofs.Ytaadljjfckhinaa.PValueOrs
