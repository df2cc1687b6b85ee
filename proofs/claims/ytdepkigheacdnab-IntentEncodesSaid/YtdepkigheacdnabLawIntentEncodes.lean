-- Written by wip/pp of this repo (over the kit's print, with additions of this session); Lean checks every line.
import Derived.Test.YtdepkigheacdnabRows
import Derived.Test.YtdepkigheacdnabPIntentEncodesx7
import Derived.Test.YtdepkigheacdnabPureIntentEncodes
import Derived.Test.YtdepkigheacdnabOpen
import Derived.WalkKit
import Derived.ProofKit
import Derived.OpenShut
import Derived.ShutString
import Derived.ChangeOld
import Derived.Below
import Derived.SizedLaws
import Derived.JoinedCond
import Derived.Carry
namespace Go.Proofs.Ytdepkigheacdnab.intentEncodes
open Go Go.ChangeShapes Go.WideShapes Go.ChangeAt Go.RowKit Go.Proofs.Ytdepkigheacdnab Go.Proofs.Ytdepkigheacdnab.PIntentEncodes Go.Proofs.YtdepkigheacdnabW.PrintWords Go.Proofs.YtdepkigheacdnabW.PrintLast
open Go.ChangeMaps (open_string shut_string)
set_option linter.unusedVariables false
set_option linter.unusedSimpArgs false
theorem own : ownKnob Try.prog.godebug = none := by kernel_rfl
theorem laidOut : laidOutB Try.prog = true := by kernel_rfl
theorem o77 (N : Nat) : Op.Opens Try.prog N 77 k77 gd77 zd77 bd77 := by
  have h := Op.opens_iso (N := N) (Op.opens_struct Try.underlying77 (by kernel_rfl) (Op.opensF_cons rfl (Op.opens_slice Try.underlying26 (by kernel_rfl) (b := 1) (by kernel_rfl) (Op.opens_int Try.underlying5 (by kernel_rfl))) (Op.opensF_one rfl (Op.opens_slice Try.underlying26 (by kernel_rfl) (b := 1) (by kernel_rfl) (Op.opens_int Try.underlying5 (by kernel_rfl)))))) (fun x : S77 => (x.f0, x.f1)) (fun x_ => ⟨x_.1, x_.2⟩) (fun _ => rfl)
  exact h
theorem o80 (N : Nat) : Op.Opens Try.prog N 80 k80 gd80 zd80 bd80 := by
  have h := Op.opens_iso (N := N) (Op.opens_struct Try.underlying80 (by kernel_rfl) (Op.opensF_cons rfl (Op.opens_slice Try.underlying26 (by kernel_rfl) (b := 1) (by kernel_rfl) (Op.opens_int Try.underlying5 (by kernel_rfl))) (Op.opensF_cons rfl (Op.opens_slice Try.underlying26 (by kernel_rfl) (b := 1) (by kernel_rfl) (Op.opens_int Try.underlying5 (by kernel_rfl))) (Op.opensF_one rfl (Op.opens_bool Try.underlying4 (by kernel_rfl)))))) (fun x : S80 => (x.f0, x.f1, x.f2)) (fun x_ => ⟨x_.1, x_.2.1, x_.2.2⟩) (fun _ => rfl)
  exact h
theorem o25 (N : Nat) : Op.Opens Try.prog N 25 k25 gd25 zd25 bd25 := by
  have h := Op.opens_iso (N := N) (Op.opens_struct Try.underlying25 (by kernel_rfl) (Op.opensF_cons rfl (Op.opens_int Try.underlying3 (by kernel_rfl)) (Op.opensF_cons rfl (Op.opens_int Try.underlying3 (by kernel_rfl)) (Op.opensF_cons rfl (Op.opens_int Try.underlying3 (by kernel_rfl)) (Op.opensF_cons rfl (Op.opens_slice Try.underlying22 (by kernel_rfl) (b := 48) (by kernel_rfl) (o77 N)) (Op.opensF_one rfl (Op.opens_slice Try.underlying23 (by kernel_rfl) (b := 56) (by kernel_rfl) (o80 N)))))))) (fun x : S25 => (x.f0, x.f1, x.f2, x.f3, x.f4)) (fun x_ => ⟨x_.1, x_.2.1, x_.2.2.1, x_.2.2.2.1, x_.2.2.2.2⟩) (fun _ => rfl)
  exact h
set_option maxRecDepth 100000 in
theorem contract (H : Type) (enc : TypeId × Value → H) (W : World) (base : Nat) (args : Array Value) (ds gs : List (DataW H)) (before : List MemPlace)
    (hval : ∀ (j : Nat) t v, Try.f3.params[j]? = some t → args[j]? = some v → Value.okWide Try.prog W .any base t v)
    (hW : DataW.Whole enc Try.prog Try.f3.params.toList Rows.intentEncodesSpec.vars false W args.toList ds gs before) (hsz0 : (DataW.weightsEach Try.prog (Try.f3.params.toList ++ Rows.intentEncodesSpec.plain.varTypes Try.prog) (ds ++ gs)).all (· ≤ reachBytes) = true) :
    Calls Try.prog 3 args W fun e W' => ∃ v, e = .returned v ∧ Rows.intentEncodesSpec.post enc Try.prog Try.f3 false true false false W args v W' := by
  have hW' := hW
  obtain ⟨p, q, hA0, hV, rfl, hfz, hnd⟩ := hW
  have hA : DataW.TrodAll enc Try.prog W 0 (fun _ => true) true Try.f3.params.toList args.toList ds p := hA0
  rw [Try.params3] at hA hval
  have hsz := hsz0
  rw [Try.params3] at hsz
  obtain ⟨v0, vs0, d0, ds0, p0, q0, hargs, rfl, rfl, h0, r0⟩ := trodAll_cons hA
  obtain ⟨rfl, rfl, rfl⟩ := trodAll_nil r0
  obtain rfl : args = #[v0] := by cases args; simp_all
  obtain ⟨rfl, rfl⟩ := trodVars_none hV
  have k0 := h0
  have lt0 := Op.places_lt h0
  obtain ⟨x0, K0, G0, Z0, B0⟩ := Op.opened (fun N => (o25 N)) h0
  obtain ⟨cs0, rfl, _⟩ := okWide_struct Try.underlying25 (hval 0 25 v0 rfl rfl)
  obtain ⟨A0_3, c0_3, A0_4, c0_4, e0, l0_3, g0_3, l0_4, g0_4⟩ := k25_open K0
  obtain rfl : cs0 = #[.int .i64 x0.f0, .int .i64 x0.f1, .int .i64 x0.f2, .slice A0_3 x0.f3.length c0_3, .slice A0_4 x0.f4.length c0_4] := by apply Array.ext'; exact e0
  obtain ⟨k, h⟩ := Pure.IntentEncodes x0 G0 (Z0 (Op.wt_of hsz (j := 0) (t := 25) rfl rfl))
  refine (commonholdlaw_IntentEncodes.calls k x0.f0 x0.f1 x0.f2 _ _ x0.f3 _ _ x0.f4 true W g0_3 l0_3 g0_4 l0_4 h).mono ?_
  rintro e W' ⟨rfl, bel0⟩
  have bel : Below W.heap.size W W' := bel0
  exact ⟨_, rfl, _, _, _, [], _, [], hW', trodAll_mk1 (shut_bool Try.underlying4 _), (trodAll_cons_mk (Below.trod laidOut (by kernel_rfl) (of_decide_eq_true (by kernel_rfl)) k0 bel lt0) trodAll_mk0), rfl, bel.frame _, fun h => by cases h⟩
set_option maxRecDepth 100000 in
theorem lifted (os : Os) (started : os.Started) (H : Type) (enc : TypeId × Value → H) :
    ReturnsInHanded {} Try.checked os 3 .any (Rows.intentEncodesSpec.pre6 enc Try.prog Try.f3 Rows.intentEncodesRow.domain false) (Rows.intentEncodesSpec.post enc Try.prog Try.f3 false true false false) := by
  refine returnsInHanded_of_change_sized (C := Try.checked) own started (by kernel_rfl) Try.func3
    (ChangeSpec.witness6 (enc := enc) (C := Try.checked) false ⟨#[], #[.agg #[.int .i64 0, .int .i64 0, .int .i64 0, .slice none 0 0, .slice none 0 0]], []⟩ 8 (by kernel_rfl) (by kernel_rfl) (by kernel_rfl) (by kernel_rfl)) ?_
  intro W base args ds gs before hval hW hcnd hsz0 _
  exact contract H enc W base args ds gs before hval hW hsz0
theorem over : Rows.intentEncodesRow.holds Try.pinned (OpenSpec.ofChange Rows.intentEncodesSpec) :=
  OpenClaim.holds_of_wide 3 Try.f3 rfl rfl rfl rfl rfl rfl rfl ⟨rfl, rfl, rfl, rfl, rfl⟩ rfl rfl rfl rfl rfl (by kernel_rfl) Try.func3 (by kernel_rfl)
    (of_decide_eq_true (by kernel_rfl)) (by unfold Func.isWrapper; first | (rw [if_pos (by decide +kernel)]; kernel_rfl) | (rw [if_neg (by decide +kernel)]; exact ⟨rfl, rfl⟩))
    (fun os started H enc _ => lifted os started H enc)
theorem proved : Rows.IntentEncodesSaid := over
#print axioms proved
end Go.Proofs.Ytdepkigheacdnab.intentEncodes
namespace Go.Proofs.Ytdepkigheacdnab
/-- The row, under a short name, for the claim. -/
theorem intentEncodes_holds : Rows.IntentEncodesSaid := intentEncodes.proved
end Go.Proofs.Ytdepkigheacdnab
