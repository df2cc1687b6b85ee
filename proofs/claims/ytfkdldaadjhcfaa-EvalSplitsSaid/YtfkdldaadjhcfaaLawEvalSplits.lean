-- Written by wip/pp of this repo (over the kit's print, with additions of this session); Lean checks every line.
import Derived.Test.YtfkdldaadjhcfaaRows
import Derived.Test.YtfkdldaadjhcfaaPEvalSplitsx2
import Derived.Test.YtfkdldaadjhcfaaPureEvalSplits
import Derived.Test.YtfkdldaadjhcfaaOpen
import Derived.WalkKit
import Derived.ProofKit
import Derived.OpenShut
import Derived.ShutString
import Derived.ChangeOld
import Derived.Below
import Derived.SizedLaws
import Derived.JoinedCond
import Derived.Carry
namespace Go.Proofs.Ytfkdldaadjhcfaa.evalSplits
open Go Go.ChangeShapes Go.WideShapes Go.ChangeAt Go.RowKit Go.Proofs.Ytfkdldaadjhcfaa Go.Proofs.Ytfkdldaadjhcfaa.PEvalSplits Go.Proofs.YtfkdldaadjhcfaaW.PrintWords Go.Proofs.YtfkdldaadjhcfaaW.PrintLast
open Go.ChangeMaps (open_string shut_string)
set_option linter.unusedVariables false
set_option linter.unusedSimpArgs false
theorem own : ownKnob Try.prog.godebug = none := by kernel_rfl
theorem laidOut : laidOutB Try.prog = true := by kernel_rfl
theorem o23 (N : Nat) : Op.Opens Try.prog N 23 k23 gd23 zd23 bd23 := by
  have h := Op.opens_iso (N := N) (Op.opens_struct Try.underlying23 (by kernel_rfl) (Op.opensF_cons rfl (Op.opens_int Try.underlying3 (by kernel_rfl)) (Op.opensF_cons rfl (Op.opens_int Try.underlying3 (by kernel_rfl)) (Op.opensF_one rfl (Op.opens_string Try.underlying9 (by kernel_rfl)))))) (fun x : S23 => (x.f0, x.f1, x.f2)) (fun x_ => ⟨x_.1, x_.2.1, x_.2.2⟩) (fun _ => rfl)
  exact h
theorem o26 (N : Nat) : Op.Opens Try.prog N 26 k26 gd26 zd26 bd26 := by
  induction N with
  | zero => exact ⟨by kernel_rfl, fun enc W fuel cs y ps hN h => by
      obtain rfl : fuel = 0 := by omega
      simp [DataW.trod] at h⟩
  | succ N ih =>
  have h := Op.opens_iso (N := N + 1) (Op.opens_struct_succ Try.underlying26 (by kernel_rfl) (Op.opensF_cons rfl (Op.opens_int Try.underlying3 (by kernel_rfl)) (Op.opensF_cons rfl (o23 N) (Op.opensF_cons rfl (Op.opens_string Try.underlying9 (by kernel_rfl)) (Op.opensF_cons rfl (Op.opens_string Try.underlying9 (by kernel_rfl)) (Op.opensF_cons rfl (Op.opens_int Try.underlying3 (by kernel_rfl)) (Op.opensF_one rfl (Op.opens_slice Try.underlying24 (by kernel_rfl) (b := 104) (by kernel_rfl) ih)))))))) (fun x : S26 => (x.f0, x.f1, x.f2, x.f3, x.f4, x.f5)) (fun x_ => ⟨x_.1, x_.2.1, x_.2.2.1, x_.2.2.2.1, x_.2.2.2.2.1, x_.2.2.2.2.2⟩) (fun _ => rfl)
  refine ⟨by kernel_rfl, fun enc W fuel cs y ps hN hy => ?_⟩
  obtain ⟨x, hK, hG, hZ, hB⟩ := h.2 enc W fuel cs y ps hN hy
  refine ⟨x, Op.fold_fix (F := F26) (Op.folds_iso _ (Op.folds_pair mono26 (Op.folds_const _) (Op.folds_pair mono26 (Op.folds_const _) (Op.folds_pair mono26 (Op.folds_const _) (Op.folds_pair mono26 (Op.folds_const _) (Op.folds_pair mono26 (Op.folds_const _) (Op.folds_slice mono26 26))))))) hK, ?_, fun hw => ?_, fun B BA hb => ?_⟩
  · obtain ⟨h0_, h1_, h2_, h3_, h4_, h5_, i5_⟩ := hG
    exact gd26.mk x h0_ h1_ h2_ h3_ h4_ h5_ i5_
  · obtain ⟨h0_, h1_, h2_, h3_, h4_, h5_, i5_⟩ := hZ hw
    exact zd26.mk x h0_ h1_ h2_ h3_ h4_ h5_ i5_
  · rw [bd26_eq]
    exact hB B BA hb
set_option maxRecDepth 100000 in
theorem contract (H : Type) (enc : TypeId × Value → H) (W : World) (base : Nat) (args : Array Value) (ds gs : List (DataW H)) (before : List MemPlace)
    (hval : ∀ (j : Nat) t v, Try.f3.params[j]? = some t → args[j]? = some v → Value.okWide Try.prog W .any base t v)
    (hW : DataW.Whole enc Try.prog Try.f3.params.toList Rows.evalSplitsSpec.vars false W args.toList ds gs before) (hsz0 : (DataW.weightsEach Try.prog (Try.f3.params.toList ++ Rows.evalSplitsSpec.plain.varTypes Try.prog) (ds ++ gs)).all (· ≤ reachBytes) = true) :
    Calls Try.prog 3 args W fun e W' => ∃ v, e = .returned v ∧ Rows.evalSplitsSpec.post enc Try.prog Try.f3 false true false false W args v W' := by
  have hW' := hW
  obtain ⟨p, q, hA0, hV, rfl, hfz, hnd⟩ := hW
  have hA : DataW.TrodAll enc Try.prog W 0 (fun _ => true) true Try.f3.params.toList args.toList ds p := hA0
  rw [Try.params3] at hA hval
  have hsz := hsz0
  rw [Try.params3] at hsz
  obtain ⟨v0, vs0, d0, ds0, p0, q0, hargs, rfl, rfl, h0, r0⟩ := trodAll_cons hA
  obtain ⟨rfl, rfl, rfl⟩ := trodAll_nil r0
  obtain rfl : args = #[v0] := by cases args; simp_all
  obtain ⟨rfl, rfl⟩ := trodVars_none hV
  have k0 := h0
  have lt0 := Op.places_lt h0
  obtain ⟨x0, K0, G0, Z0, B0⟩ := Op.opened (fun N => (o26 N)) h0
  obtain ⟨cs0, rfl, _⟩ := okWide_struct Try.underlying26 (hval 0 26 v0 rfl rfl)
  obtain ⟨A0_7, c0_7, e0, l0_7, g0_7⟩ := k26_open K0
  obtain rfl : cs0 = #[.int .i64 x0.f0, .int .i64 x0.f1.f0, .int .i64 x0.f1.f1, .string x0.f1.f2, .string x0.f2, .string x0.f3, .int .i64 x0.f4, .slice A0_7 x0.f5.length c0_7] := by apply Array.ext'; exact e0
  obtain ⟨k, h⟩ := Pure.EvalSplits x0 G0 (Z0 (Op.wt_of hsz (j := 0) (t := 26) rfl rfl))
  refine (commonholdlaw_EvalSplits.calls k x0.f0 x0.f1.f0 x0.f1.f1 x0.f1.f2 x0.f2 x0.f3 x0.f4 _ _ x0.f5 true W g0_7 l0_7 h).mono ?_
  rintro e W' ⟨rfl, bel0⟩
  have bel : Below W.heap.size W W' := bel0
  exact ⟨_, rfl, _, _, _, [], _, [], hW', trodAll_mk1 (shut_bool Try.underlying4 _), (trodAll_cons_mk (Below.trod laidOut (by kernel_rfl) (of_decide_eq_true (by kernel_rfl)) k0 bel lt0) trodAll_mk0), rfl, bel.frame _, fun h => by cases h⟩
set_option maxRecDepth 100000 in
theorem lifted (os : Os) (started : os.Started) (H : Type) (enc : TypeId × Value → H) :
    ReturnsInHanded {} Try.checked os 3 .any (Rows.evalSplitsSpec.pre6 enc Try.prog Try.f3 Rows.evalSplitsRow.domain false) (Rows.evalSplitsSpec.post enc Try.prog Try.f3 false true false false) := by
  refine returnsInHanded_of_change_sized (C := Try.checked) own started (by kernel_rfl) Try.func3
    (ChangeSpec.witness6 (enc := enc) (C := Try.checked) false ⟨#[], #[.agg #[.int .i64 0, .int .i64 0, .int .i64 0, .string ByteArray.empty, .string ByteArray.empty, .string ByteArray.empty, .int .i64 0, .slice none 0 0]], []⟩ 8 (by kernel_rfl) (by kernel_rfl) (by kernel_rfl) (by kernel_rfl)) ?_
  intro W base args ds gs before hval hW hcnd hsz0 _
  exact contract H enc W base args ds gs before hval hW hsz0
theorem over : Rows.evalSplitsRow.holds Try.pinned (OpenSpec.ofChange Rows.evalSplitsSpec) :=
  OpenClaim.holds_of_wide 3 Try.f3 rfl rfl rfl rfl rfl rfl rfl ⟨rfl, rfl, rfl, rfl, rfl⟩ rfl rfl rfl rfl rfl (by kernel_rfl) Try.func3 (by kernel_rfl)
    (of_decide_eq_true (by kernel_rfl)) (by unfold Func.isWrapper; first | (rw [if_pos (by decide +kernel)]; kernel_rfl) | (rw [if_neg (by decide +kernel)]; exact ⟨rfl, rfl⟩))
    (fun os started H enc _ => lifted os started H enc)
theorem proved : Rows.EvalSplitsSaid := over
#print axioms proved
end Go.Proofs.Ytfkdldaadjhcfaa.evalSplits
namespace Go.Proofs.Ytfkdldaadjhcfaa
/-- The row, under a short name, for the claim. -/
theorem evalSplits_holds : Rows.EvalSplitsSaid := evalSplits.proved
end Go.Proofs.Ytfkdldaadjhcfaa
