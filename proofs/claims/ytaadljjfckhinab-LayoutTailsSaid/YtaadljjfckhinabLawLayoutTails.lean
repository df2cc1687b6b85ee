-- Written by wip/pp of this repo (over the kit's print, with additions of this session); Lean checks every line.
import Derived.Test.YtaadljjfckhinabRows
import Derived.Test.YtaadljjfckhinabPLayoutTailsx3
import Derived.Test.YtaadljjfckhinabPureLayoutTails
import Derived.Test.YtaadljjfckhinabOpen
import Derived.WalkKit
import Derived.ProofKit
import Derived.OpenShut
import Derived.ShutString
import Derived.ChangeOld
import Derived.Below
import Derived.SizedLaws
import Derived.JoinedCond
import Derived.Carry
namespace Go.Proofs.Ytaadljjfckhinab.layoutTails
open Go Go.ChangeShapes Go.WideShapes Go.ChangeAt Go.RowKit Go.Proofs.Ytaadljjfckhinab Go.Proofs.Ytaadljjfckhinab.PLayoutTails Go.Proofs.YtaadljjfckhinabW.PrintWords Go.Proofs.YtaadljjfckhinabW.PrintLast
open Go.ChangeMaps (open_string shut_string)
set_option linter.unusedVariables false
set_option linter.unusedSimpArgs false
theorem own : ownKnob Try.prog.godebug = none := by kernel_rfl
theorem laidOut : laidOutB Try.prog = true := by kernel_rfl
theorem o44 (N : Nat) : Op.Opens Try.prog N 44 k44 gd44 zd44 bd44 := by
  have h := Op.opens_iso (N := N) (Op.opens_struct Try.underlying44 (by kernel_rfl) (Op.opensF_cons rfl (Op.opens_int Try.underlying3 (by kernel_rfl)) (Op.opensF_one rfl (Op.opens_slice Try.underlying42 (by kernel_rfl) (b := 24) (by kernel_rfl) (Op.opens_slice Try.underlying52 (by kernel_rfl) (b := 8) (by kernel_rfl) (Op.opens_int Try.underlying3 (by kernel_rfl))))))) (fun x : S44 => (x.f0, x.f1)) (fun x_ => ⟨x_.1, x_.2⟩) (fun _ => rfl)
  exact h
set_option maxRecDepth 100000 in
theorem contract (H : Type) (enc : TypeId × Value → H) (W : World) (base : Nat) (args : Array Value) (ds gs : List (DataW H)) (before : List MemPlace)
    (hval : ∀ (j : Nat) t v, Try.f9.params[j]? = some t → args[j]? = some v → Value.okWide Try.prog W .any base t v)
    (hW : DataW.Whole enc Try.prog Try.f9.params.toList Rows.layoutTailsSpec.vars false W args.toList ds gs before) (hsz0 : (DataW.weightsEach Try.prog (Try.f9.params.toList ++ Rows.layoutTailsSpec.plain.varTypes Try.prog) (ds ++ gs)).all (· ≤ reachBytes) = true) :
    Calls Try.prog 9 args W fun e W' => ∃ v, e = .returned v ∧ Rows.layoutTailsSpec.post enc Try.prog Try.f9 false true false false W args v W' := by
  have hW' := hW
  obtain ⟨p, q, hA0, hV, rfl, hfz, hnd⟩ := hW
  have hA : DataW.TrodAll enc Try.prog W 0 (fun _ => true) true Try.f9.params.toList args.toList ds p := hA0
  rw [Try.params9] at hA hval
  have hsz := hsz0
  rw [Try.params9] at hsz
  obtain ⟨v0, vs0, d0, ds0, p0, q0, hargs, rfl, rfl, h0, r0⟩ := trodAll_cons hA
  obtain ⟨v1, vs1, d1, ds1, p1, q1, rfl, rfl, rfl, h1, r1⟩ := trodAll_cons r0
  obtain ⟨rfl, rfl, rfl⟩ := trodAll_nil r1
  obtain rfl : args = #[v0, v1] := by cases args; simp_all
  obtain ⟨rfl, rfl⟩ := trodVars_none hV
  have k0 := h0
  have lt0 := Op.places_lt h0
  obtain ⟨x0, K0, G0, Z0, B0⟩ := Op.opened (fun N => (o44 N)) h0
  obtain ⟨cs0, rfl, _⟩ := okWide_struct Try.underlying44 (hval 0 44 v0 rfl rfl)
  obtain ⟨A0_1, c0_1, e0, l0_1, g0_1⟩ := k44_open K0
  obtain rfl : cs0 = #[.int .i64 x0.f0, .slice A0_1 x0.f1.length c0_1] := by apply Array.ext'; exact e0
  have k1 := h1
  have lt1 := Op.places_lt h1
  obtain ⟨x1, K1, G1, Z1, B1⟩ := Op.opened (fun N => (Op.opens_slice Try.underlying52 (by kernel_rfl) (b := 8) (by kernel_rfl) (Op.opens_int Try.underlying3 (by kernel_rfl)))) h1
  obtain ⟨a1, len1, cap1, rfl⟩ := okWide_slice Try.underlying52 (hval 1 52 v1 rfl rfl)
  obtain ⟨A1_0, c1_0, e1, l1_0, g1_0⟩ := K1
  have e1' := List.head_eq_of_cons_eq e1
  injection e1' with ea1 en1 ec1
  subst ea1; subst en1; subst ec1
  obtain ⟨k, h⟩ := Pure.LayoutTails x0 x1 G0 G1 (Z0 (Op.wt_of hsz (j := 0) (t := 44) rfl rfl)) (Z1 (Op.wt_of hsz (j := 1) (t := 52) rfl rfl))
  refine (commonholdlaw_LayoutTails.calls k x0.f0 _ _ x0.f1 _ _ x1 true W g0_1 l0_1 g1_0 l1_0 h).mono ?_
  rintro e W' ⟨rfl, bel0⟩
  have bel : Below W.heap.size W W' := bel0
  exact ⟨_, rfl, _, _, _, [], _, [], hW', trodAll_mk1 (shut_bool Try.underlying4 _), (trodAll_cons_mk (Below.trod laidOut (by kernel_rfl) (of_decide_eq_true (by kernel_rfl)) k0 bel lt0) (trodAll_cons_mk (Below.trod laidOut (by kernel_rfl) (of_decide_eq_true (by kernel_rfl)) k1 bel lt1) trodAll_mk0)), rfl, bel.frame _, fun h => by cases h⟩
set_option maxRecDepth 100000 in
theorem lifted (os : Os) (started : os.Started) (H : Type) (enc : TypeId × Value → H) :
    ReturnsInHanded {} Try.checked os 9 .any (Rows.layoutTailsSpec.pre6 enc Try.prog Try.f9 Rows.layoutTailsRow.domain false) (Rows.layoutTailsSpec.post enc Try.prog Try.f9 false true false false) := by
  refine returnsInHanded_of_change_sized (C := Try.checked) own started (by kernel_rfl) Try.func9
    (ChangeSpec.witness6 (enc := enc) (C := Try.checked) false ⟨#[], #[.agg #[.int .i64 0, .slice none 0 0], .slice none 0 0], []⟩ 8 (by kernel_rfl) (by kernel_rfl) (by kernel_rfl) (by kernel_rfl)) ?_
  intro W base args ds gs before hval hW hcnd hsz0 _
  exact contract H enc W base args ds gs before hval hW hsz0
theorem over : Rows.layoutTailsRow.holds Try.pinned (OpenSpec.ofChange Rows.layoutTailsSpec) :=
  OpenClaim.holds_of_wide 9 Try.f9 rfl rfl rfl rfl rfl rfl rfl ⟨rfl, rfl, rfl, rfl, rfl⟩ rfl rfl rfl rfl rfl (by kernel_rfl) Try.func9 (by kernel_rfl)
    (of_decide_eq_true (by kernel_rfl)) (by unfold Func.isWrapper; first | (rw [if_pos (by decide +kernel)]; kernel_rfl) | (rw [if_neg (by decide +kernel)]; exact ⟨rfl, rfl⟩))
    (fun os started H enc _ => lifted os started H enc)
theorem proved : Rows.LayoutTailsSaid := over
#print axioms proved
end Go.Proofs.Ytaadljjfckhinab.layoutTails
namespace Go.Proofs.Ytaadljjfckhinab
/-- The row, under a short name, for the claim. -/
theorem layoutTails_holds : Rows.LayoutTailsSaid := layoutTails.proved
end Go.Proofs.Ytaadljjfckhinab
