-- Written by wip/pp of this repo (over the kit's print, with additions of this session); Lean checks every line.
import Derived.Test.YtfkdldaadjhcfaaDoorCards
import Derived.Test.YtfkdldaadjhcfaaDoorTie
import Derived.Test.YtfkdldaadjhcfaaDoorPPlanLeadsx8
import Derived.Test.YtfkdldaadjhcfaaDoorPurePlanLeads
import Derived.Test.YtfkdldaadjhcfaaDoorOpen
import Derived.WalkKit
import Derived.ProofKit
import Derived.OpenShut
import Derived.ShutString
import Derived.ChangeOld
import Derived.Below
import Derived.SizedLaws
import Derived.JoinedCond
import Derived.Carry
import Derived.Deep.DeepHandedRow
import Derived.Lib.LaidTab
import Derived.Lib.LaidIn
import Derived.Deep.DeepWitnessRowRef
namespace Go.Proofs.YtfkdldaadjhcfaaDoor.planLeads
open Go Go.ChangeShapes Go.WideShapes Go.ChangeAt Go.RowKit Go.Proofs.YtfkdldaadjhcfaaDoor Go.Proofs.YtfkdldaadjhcfaaDoor.PPlanLeads Go.Proofs.YtfkdldaadjhcfaaDoorW.PrintWords Go.Proofs.YtfkdldaadjhcfaaDoorW.PrintLast
open Go.ChangeMaps (open_string shut_string)
set_option linter.unusedVariables false
set_option linter.unusedSimpArgs false
theorem own : ownKnob Tryd.prog.godebug = none := by kernel_rfl
theorem laidOut : laidOutB Tryd.prog = true := by kernel_rfl
theorem o39 (N : Nat) : Op.Opens Tryd.prog N 39 k39 gd39 zd39 bd39 := by
  have h := Op.opens_iso (N := N) (Op.opens_struct Tryd.underlying39 (by kernel_rfl) (Op.opensF_cons rfl (Op.opens_int Tryd.underlying3 (by kernel_rfl)) (Op.opensF_cons rfl (Op.opens_int Tryd.underlying3 (by kernel_rfl)) (Op.opensF_one rfl (Op.opens_string Tryd.underlying9 (by kernel_rfl)))))) (fun x : S39 => (x.f0, x.f1, x.f2)) (fun x_ => ⟨x_.1, x_.2.1, x_.2.2⟩) (fun _ => rfl)
  exact h
theorem o41 (N : Nat) : Op.Opens Tryd.prog N 41 k41 gd41 zd41 bd41 := by
  induction N with
  | zero => exact ⟨by kernel_rfl, fun enc W fuel cs y ps hN h => by
      obtain rfl : fuel = 0 := by omega
      simp [DataW.trod] at h⟩
  | succ N ih =>
  have h := Op.opens_iso (N := N + 1) (Op.opens_struct_succ Tryd.underlying41 (by kernel_rfl) (Op.opensF_cons rfl (Op.opens_int Tryd.underlying3 (by kernel_rfl)) (Op.opensF_cons rfl (o39 N) (Op.opensF_cons rfl (Op.opens_string Tryd.underlying9 (by kernel_rfl)) (Op.opensF_cons rfl (Op.opens_string Tryd.underlying9 (by kernel_rfl)) (Op.opensF_cons rfl (Op.opens_int Tryd.underlying3 (by kernel_rfl)) (Op.opensF_one rfl (Op.opens_slice Tryd.underlying30 (by kernel_rfl) (b := 104) (by kernel_rfl) ih)))))))) (fun x : S41 => (x.f0, x.f1, x.f2, x.f3, x.f4, x.f5)) (fun x_ => ⟨x_.1, x_.2.1, x_.2.2.1, x_.2.2.2.1, x_.2.2.2.2.1, x_.2.2.2.2.2⟩) (fun _ => rfl)
  refine ⟨by kernel_rfl, fun enc W fuel cs y ps hN hy => ?_⟩
  obtain ⟨x, hK, hG, hZ, hB⟩ := h.2 enc W fuel cs y ps hN hy
  refine ⟨x, Op.fold_fix (F := F41) (Op.folds_iso _ (Op.folds_pair mono41 (Op.folds_const _) (Op.folds_pair mono41 (Op.folds_const _) (Op.folds_pair mono41 (Op.folds_const _) (Op.folds_pair mono41 (Op.folds_const _) (Op.folds_pair mono41 (Op.folds_const _) (Op.folds_slice mono41 41))))))) hK, ?_, fun hw => ?_, fun B BA hb => ?_⟩
  · obtain ⟨h0_, h1_, h2_, h3_, h4_, h5_, i5_⟩ := hG
    exact gd41.mk x h0_ h1_ h2_ h3_ h4_ h5_ i5_
  · obtain ⟨h0_, h1_, h2_, h3_, h4_, h5_, i5_⟩ := hZ hw
    exact zd41.mk x h0_ h1_ h2_ h3_ h4_ h5_ i5_
  · rw [bd41_eq]
    exact hB B BA hb
set_option maxRecDepth 100000 in
theorem contract (H : Type) (enc : TypeId × Value → H) (W : World) (base : Nat) (args : Array Value) (ds gs : List (DataW H)) (before : List MemPlace)
    (hval : ∀ (j : Nat) t v, Tryd.f4.params[j]? = some t → args[j]? = some v → Value.okWide Tryd.prog W .any base t v)
    (hW : DataW.Whole enc Tryd.prog Tryd.f4.params.toList Rows.planLeadsSpec.vars false W args.toList ds gs before) (hL : laidMetH Tryd.prog Rows.planLeadsRow.laid W) (hsz0 : (DataW.weightsEach Tryd.prog (Tryd.f4.params.toList ++ Rows.planLeadsSpec.plain.varTypes Tryd.prog) (ds ++ gs)).all (· ≤ reachBytes) = true) :
    Calls Tryd.prog 4 args W fun e W' => ∃ v, e = .returned v ∧ Rows.planLeadsSpec.post enc Tryd.prog Tryd.f4 false true false false W args v W' := by
  have hW' := hW
  obtain ⟨p, q, hA0, hV, rfl, hfz, hnd⟩ := hW
  have hA : DataW.TrodAll enc Tryd.prog W 0 (fun _ => true) true Tryd.f4.params.toList args.toList ds p := hA0
  rw [Tryd.params4] at hA hval
  have hsz := hsz0
  rw [Tryd.params4] at hsz
  obtain ⟨v0, vs0, d0, ds0, p0, q0, hargs, rfl, rfl, h0, r0⟩ := trodAll_cons hA
  obtain ⟨rfl, rfl, rfl⟩ := trodAll_nil r0
  obtain rfl : args = #[v0] := by cases args; simp_all
  obtain ⟨rfl, rfl⟩ := trodVars_none hV
  have k0 := h0
  have lt0 := Op.places_lt h0
  obtain ⟨x0, K0, G0, Z0, B0⟩ := Op.opened (fun N => (Op.opens_slice Tryd.underlying30 (by kernel_rfl) (b := 104) (by kernel_rfl) (o41 N))) h0
  obtain ⟨a0, len0, cap0, rfl⟩ := okWide_slice Tryd.underlying30 (hval 0 30 v0 rfl rfl)
  obtain ⟨A0_0, c0_0, e0, l0_0, g0_0⟩ := K0
  have e0' := List.head_eq_of_cons_eq e0
  injection e0' with ea0 en0 ec0
  subst ea0; subst en0; subst ec0
  obtain ⟨k, h⟩ := Pure.PlanLeads x0 G0 (Z0 (Op.wt_of hsz (j := 0) (t := 30) rfl rfl))
  refine (commonholdlaw_PlanLeads.calls k _ _ x0 true W g0_0 l0_0 (LD.of hL) h).mono ?_
  rintro e W' ⟨rfl, bel0⟩
  have bel : Below W.heap.size W W' := bel0
  exact ⟨_, rfl, _, _, _, [], _, [], hW', trodAll_mk1 (shut_bool Tryd.underlying4 _), (trodAll_cons_mk (Below.trod laidOut (by kernel_rfl) (of_decide_eq_true (by kernel_rfl)) k0 bel lt0) trodAll_mk0), rfl, bel.frame _, fun h => by cases h⟩
mutual
def cellsOf : DataW Unit → List Value
  | .lit (.int k n) => [.int k n]
  | .lit (.bool b) => [.bool b]
  | .lit (.string bs) => [.string ⟨bs.toArray⟩]
  | .agg ps => cellsAll ps
  | _ => []
def cellsAll : List (DataW Unit) → List Value
  | [] => []
  | d :: r => cellsOf d ++ cellsAll r
end
def put (h : Array Obj) (g : Nat) (cs : Array Value) : Array Obj := h.modify g fun
  | .cells _ t frozen => .cells cs t frozen
  | o => o
noncomputable def laidWorld (os : Os) : World :=
  let w0 := World.holding Tryd.prog os ⟨#[], #[], []⟩
  { w0 with heap := (put (put (put w0.heap 3 (cellsOf Rows.laid_unicode_utf8_acceptRanges).toArray) 0 (cellsOf Rows.laid_commonhold_plan_turned).toArray) 2 (cellsOf Rows.laid_unicode_utf8_first).toArray) }
theorem laid_met (os : Os) (args : Array Value) : laidMet Tryd.prog Rows.planLeadsRow.laid ((laidWorld os).forCall (fun _ _ => 0) ⟨#[], args, []⟩).memory :=
  (LaidIn.of_run (l := Rows.planLeadsRow.laid) [3, 0, 2] 8 (by kernel_rfl) (by kernel_rfl) (by kernel_rfl) (by kernel_rfl)).met
theorem reads (os : Os) {H : Type} (enc : TypeId × Value → H) : ∃ places, DataW.whole enc Tryd.prog ((laidWorld os).forCall (fun _ _ => 0) ⟨#[], #[.slice none 0 0], []⟩).memory Tryd.f4.params.toList Rows.planLeadsSpec.vars false (#[.slice none 0 0] : Array Value).toList 8 = some ([.nil], [], places) :=
  ⟨[], by kernel_rfl⟩
set_option maxRecDepth 100000 in
theorem lifted (os : Os) (started : os.Started) (H : Type) (enc : TypeId × Value → H) (F : Stop.Interp) :
    ReturnsInHanded {} Tryd.checked os 4 .any ((OpenSpec.ofChange Rows.planLeadsSpec).preRow enc Tryd.prog Tryd.f4 Rows.planLeadsRow.domain false Rows.planLeadsRow.laid) (((OpenSpec.ofChange Rows.planLeadsSpec).at F).post enc Tryd.prog Tryd.f4 false true false false) := by
  obtain ⟨places, hx⟩ := reads os enc
  refine returnsInHanded_of_row (C := Tryd.checked) (s := OpenSpec.ofChange Rows.planLeadsSpec) own started (by kernel_rfl) Tryd.func4
    (witness_row_atRef (enc := enc) (C := Tryd.checked) false (laidWorld os) #[.slice none 0 0] rfl (by kernel_rfl) (by kernel_rfl) (by kernel_rfl)
      (OpenSpec.preRow_of_cond 8 hx (by kernel_rfl) (fun k hk => by cases hk) (by kernel_rfl) (laid_met os _))) ?_
  intro W base args ds gs before hval hW _ _ hsz0 hL _ _
  exact contract H enc W base args ds gs before hval hW hL hsz0
theorem over : Rows.planLeadsRow.holds Tryd.pinned (OpenSpec.ofChange Rows.planLeadsSpec) :=
  OpenClaim.holds_of_cond 4 Tryd.f4 rfl rfl rfl rfl rfl rfl rfl ⟨rfl, rfl, rfl, rfl, rfl⟩ rfl rfl rfl rfl rfl (by kernel_rfl) Tryd.func4 (by kernel_rfl)
    (of_decide_eq_true (by kernel_rfl)) (by unfold Func.isWrapper; first | (rw [if_pos (by decide +kernel)]; kernel_rfl) | (rw [if_neg (by decide +kernel)]; exact ⟨rfl, rfl⟩))
    (fun os started H enc _ F => by rw [OpenClaim.pre_eq_preRow]; exact lifted os started H enc F)
theorem plain (f : FuncId) (fn : Func) (hf : Tryd.pinned.checked.prog.funcNamed "commonhold/commonholdlaw.PlanLeads" = some f) (hfn : Tryd.pinned.checked.prog.funcs[f]? = some fn) :
    false = Tryd.pinned.checked.prog.looks [] ∧ ∀ (j : Nat) t, fn.params[j]? = some t → Tryd.pinned.checked.prog.wantsStandIn t = false := by
  obtain rfl : f = 4 := Option.some.inj ((show Tryd.prog.funcNamed "commonhold/commonholdlaw.PlanLeads" = some 4 by kernel_rfl).symm.trans hf) |>.symm
  obtain rfl : fn = Tryd.f4 := (Option.some.inj (Tryd.func4.symm.trans hfn)).symm
  refine ⟨by kernel_rfl, fun j t ht => ?_⟩
  rw [Tryd.params4] at ht
  have ht := Array.mem_of_getElem? ht
  simp only [List.mem_toArray, List.mem_cons, List.not_mem_nil, or_false] at ht
  obtain rfl := ht
  · exact (show Tryd.prog.wantsStandIn 30 = false by kernel_rfl)
theorem proved : Rows.PlanLeadsCardSaid :=
  Claim7.holds_tied_plain_at .later [] _ _ _ _ over (fun _ h => by cases h) (by kernel_rfl) (fun _ h => by cases h) planLeads_row_tie rfl ⟨rfl, rfl⟩ (by kernel_rfl) rfl plain (by kernel_rfl)
#print axioms proved
end Go.Proofs.YtfkdldaadjhcfaaDoor.planLeads
namespace Go.Proofs.YtfkdldaadjhcfaaDoor
/-- The row, under a short name, for the claim. -/
theorem planLeads_holds : Rows.PlanLeadsCardSaid := planLeads.proved
end Go.Proofs.YtfkdldaadjhcfaaDoor
