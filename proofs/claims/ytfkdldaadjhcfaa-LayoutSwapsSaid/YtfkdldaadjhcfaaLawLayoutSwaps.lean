-- Written by wip/pp of this repo (over the kit's print, with additions of this session); Lean checks every line.
import Derived.Test.YtfkdldaadjhcfaaRows
import Derived.Test.YtfkdldaadjhcfaaPLayoutSwapsx5
import Derived.Test.YtfkdldaadjhcfaaPureLayoutSwaps
import Derived.Test.YtfkdldaadjhcfaaOpen
import Derived.WalkKit
import Derived.ProofKit
import Derived.OpenShut
import Derived.ShutString
import Derived.ChangeOld
import Derived.Below
import Derived.SizedLaws
import Derived.JoinedCond
import Derived.Carry
namespace Go.Proofs.Ytfkdldaadjhcfaa.layoutSwaps
open Go Go.ChangeShapes Go.WideShapes Go.ChangeAt Go.RowKit Go.Proofs.Ytfkdldaadjhcfaa Go.Proofs.Ytfkdldaadjhcfaa.PLayoutSwaps Go.Proofs.YtfkdldaadjhcfaaW.PrintWords Go.Proofs.YtfkdldaadjhcfaaW.PrintLast
open Go.ChangeMaps (open_string shut_string)
set_option linter.unusedVariables false
set_option linter.unusedSimpArgs false
theorem own : ownKnob Try.prog.godebug = none := by kernel_rfl
theorem laidOut : laidOutB Try.prog = true := by kernel_rfl
theorem o43 (N : Nat) : Op.Opens Try.prog N 43 k43 gd43 zd43 bd43 := by
  have h := Op.opens_iso (N := N) (Op.opens_struct Try.underlying43 (by kernel_rfl) (Op.opensF_cons rfl (Op.opens_int Try.underlying3 (by kernel_rfl)) (Op.opensF_one rfl (Op.opens_slice Try.underlying41 (by kernel_rfl) (b := 24) (by kernel_rfl) (Op.opens_slice Try.underlying100 (by kernel_rfl) (b := 8) (by kernel_rfl) (Op.opens_int Try.underlying3 (by kernel_rfl))))))) (fun x : S43 => (x.f0, x.f1)) (fun x_ => ⟨x_.1, x_.2⟩) (fun _ => rfl)
  exact h
set_option maxRecDepth 100000 in
theorem contract (H : Type) (enc : TypeId × Value → H) (W : World) (base : Nat) (args : Array Value) (ds gs : List (DataW H)) (before : List MemPlace)
    (hval : ∀ (j : Nat) t v, Try.f5.params[j]? = some t → args[j]? = some v → Value.okWide Try.prog W .any base t v)
    (hW : DataW.Whole enc Try.prog Try.f5.params.toList Rows.layoutSwapsSpec.vars false W args.toList ds gs before) (hsz0 : (DataW.weightsEach Try.prog (Try.f5.params.toList ++ Rows.layoutSwapsSpec.plain.varTypes Try.prog) (ds ++ gs)).all (· ≤ reachBytes) = true) :
    Calls Try.prog 5 args W fun e W' => ∃ v, e = .returned v ∧ Rows.layoutSwapsSpec.post enc Try.prog Try.f5 false true false false W args v W' := by
  have hW' := hW
  obtain ⟨p, q, hA0, hV, rfl, hfz, hnd⟩ := hW
  have hA : DataW.TrodAll enc Try.prog W 0 (fun _ => true) true Try.f5.params.toList args.toList ds p := hA0
  rw [Try.params5] at hA hval
  have hsz := hsz0
  rw [Try.params5] at hsz
  obtain ⟨v0, vs0, d0, ds0, p0, q0, hargs, rfl, rfl, h0, r0⟩ := trodAll_cons hA
  obtain ⟨v1, vs1, d1, ds1, p1, q1, rfl, rfl, rfl, h1, r1⟩ := trodAll_cons r0
  obtain ⟨v2, vs2, d2, ds2, p2, q2, rfl, rfl, rfl, h2, r2⟩ := trodAll_cons r1
  obtain ⟨rfl, rfl, rfl⟩ := trodAll_nil r2
  obtain rfl : args = #[v0, v1, v2] := by cases args; simp_all
  obtain ⟨rfl, rfl⟩ := trodVars_none hV
  have k0 := h0
  have lt0 := Op.places_lt h0
  obtain ⟨x0, K0, G0, Z0, B0⟩ := Op.opened (fun N => (o43 N)) h0
  obtain ⟨cs0, rfl, _⟩ := okWide_struct Try.underlying43 (hval 0 43 v0 rfl rfl)
  obtain ⟨A0_1, c0_1, e0, l0_1, g0_1⟩ := k43_open K0
  obtain rfl : cs0 = #[.int .i64 x0.f0, .slice A0_1 x0.f1.length c0_1] := by apply Array.ext'; exact e0
  have k1 := h1
  have lt1 := Op.places_lt h1
  obtain ⟨x1, K1, G1, Z1, B1⟩ := Op.opened (fun N => (Op.opens_int Try.underlying3 (by kernel_rfl))) h1
  obtain ⟨z1, rfl, _⟩ := open_int Try.underlying3 (hval 1 3 v1 rfl rfl) h1
  have e1 := List.head_eq_of_cons_eq K1
  injection e1 with e1a e1b
  have e1' := e1b.symm
  subst e1'
  have k2 := h2
  have lt2 := Op.places_lt h2
  obtain ⟨x2, K2, G2, Z2, B2⟩ := Op.opened (fun N => (Op.opens_int Try.underlying3 (by kernel_rfl))) h2
  obtain ⟨z2, rfl, _⟩ := open_int Try.underlying3 (hval 2 3 v2 rfl rfl) h2
  have e2 := List.head_eq_of_cons_eq K2
  injection e2 with e2a e2b
  have e2' := e2b.symm
  subst e2'
  obtain ⟨k, h⟩ := Pure.LayoutSwaps x0 x1 x2 G0 G1 G2 (Z0 (Op.wt_of hsz (j := 0) (t := 43) rfl rfl))
  refine (commonholdlaw_LayoutSwaps.calls k x0.f0 _ _ x0.f1 x1 x2 true W g0_1 l0_1 h).mono ?_
  rintro e W' ⟨rfl, bel0⟩
  have bel : Below W.heap.size W W' := bel0
  exact ⟨_, rfl, _, _, _, [], _, [], hW', trodAll_mk1 (shut_bool Try.underlying4 _), (trodAll_cons_mk (Below.trod laidOut (by kernel_rfl) (of_decide_eq_true (by kernel_rfl)) k0 bel lt0) (trodAll_cons_mk (Below.trod laidOut (by kernel_rfl) (of_decide_eq_true (by kernel_rfl)) k1 bel lt1) (trodAll_cons_mk (Below.trod laidOut (by kernel_rfl) (of_decide_eq_true (by kernel_rfl)) k2 bel lt2) trodAll_mk0))), rfl, bel.frame _, fun h => by cases h⟩
set_option maxRecDepth 100000 in
theorem lifted (os : Os) (started : os.Started) (H : Type) (enc : TypeId × Value → H) :
    ReturnsInHanded {} Try.checked os 5 .any (Rows.layoutSwapsSpec.pre6 enc Try.prog Try.f5 Rows.layoutSwapsRow.domain false) (Rows.layoutSwapsSpec.post enc Try.prog Try.f5 false true false false) := by
  refine returnsInHanded_of_change_sized (C := Try.checked) own started (by kernel_rfl) Try.func5
    (ChangeSpec.witness6 (enc := enc) (C := Try.checked) false ⟨#[], #[.agg #[.int .i64 0, .slice none 0 0], .int .i64 0, .int .i64 0], []⟩ 8 (by kernel_rfl) (by kernel_rfl) (by kernel_rfl) (by kernel_rfl)) ?_
  intro W base args ds gs before hval hW hcnd hsz0 _
  exact contract H enc W base args ds gs before hval hW hsz0
theorem over : Rows.layoutSwapsRow.holds Try.pinned (OpenSpec.ofChange Rows.layoutSwapsSpec) :=
  OpenClaim.holds_of_wide 5 Try.f5 rfl rfl rfl rfl rfl rfl rfl ⟨rfl, rfl, rfl, rfl, rfl⟩ rfl rfl rfl rfl rfl (by kernel_rfl) Try.func5 (by kernel_rfl)
    (of_decide_eq_true (by kernel_rfl)) (by unfold Func.isWrapper; first | (rw [if_pos (by decide +kernel)]; kernel_rfl) | (rw [if_neg (by decide +kernel)]; exact ⟨rfl, rfl⟩))
    (fun os started H enc _ => lifted os started H enc)
theorem proved : Rows.LayoutSwapsSaid := over
#print axioms proved
end Go.Proofs.Ytfkdldaadjhcfaa.layoutSwaps
namespace Go.Proofs.Ytfkdldaadjhcfaa
/-- The row, under a short name, for the claim. -/
theorem layoutSwaps_holds : Rows.LayoutSwapsSaid := layoutSwaps.proved
end Go.Proofs.Ytfkdldaadjhcfaa
