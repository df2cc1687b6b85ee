-- Written by wip/pp of this repo (over the kit's print, with additions of this session); Lean checks every line.
import Derived.Test.YtmfpaeajibeikaaDoorCards
import Derived.Test.YtmfpaeajibeikaaDoorTie
import Derived.Test.YtmfpaeajibeikaaDoorPureEvalHolds
import Derived.Test.YtmfpaeajibeikaaDoorOpen
import Derived.ProofKit
import Derived.ShutString
import Derived.JoinedCond
import Derived.Carry
import Derived.Deep.DeepHandedRow
import Derived.Lib.LaidTab
import Derived.Lib.LaidIn
import Derived.Deep.DeepWitnessRowRef
namespace Go.Proofs.YtmfpaeajibeikaaDoor.evalHolds
open Go Go.ChangeShapes Go.WideShapes Go.ChangeAt Go.RowKit Go.Proofs.YtmfpaeajibeikaaDoor Go.Proofs.YtmfpaeajibeikaaDoor.PEvalHolds Go.Proofs.YtmfpaeajibeikaaDoorW.PrintWords Go.Proofs.YtmfpaeajibeikaaDoorW.PrintLast
open Go.ChangeMaps (open_string shut_string)
set_option linter.unusedVariables false
set_option linter.unusedSimpArgs false
theorem own : ownKnob Tryd.prog.godebug = none := by kernel_rfl
theorem laidOut : laidOutB Tryd.prog = true := by kernel_rfl
theorem o30 (N : Nat) : Op.Opens Tryd.prog N 30 k30 gd30 zd30 bd30 := by
 have h := Op.opens_iso (N := N) (Op.opens_struct Tryd.underlying30 (by kernel_rfl) (Op.opensF_cons rfl (Op.opens_int Tryd.underlying3 (by kernel_rfl)) (Op.opensF_cons rfl (Op.opens_int Tryd.underlying3 (by kernel_rfl)) (Op.opensF_one rfl (Op.opens_string Tryd.underlying9 (by kernel_rfl)))))) (fun x : S30 => (x.f0, x.f1, x.f2)) (fun x_ => ⟨x_.1, x_.2.1, x_.2.2⟩) (fun _ => rfl)
 exact h
theorem o33 (N : Nat) : Op.Opens Tryd.prog N 33 k33 gd33 zd33 bd33 := by
 induction N with
 | zero => exact ⟨by kernel_rfl, fun enc W fuel cs y ps hN h => by
   obtain rfl : fuel = 0 := by omega
   simp [DataW.trod] at h⟩
 | succ N ih =>
 have h := Op.opens_iso (N := N + 1) (Op.opens_struct_succ Tryd.underlying33 (by kernel_rfl) (Op.opensF_cons rfl (Op.opens_int Tryd.underlying3 (by kernel_rfl)) (Op.opensF_cons rfl (o30 N) (Op.opensF_cons rfl (Op.opens_string Tryd.underlying9 (by kernel_rfl)) (Op.opensF_cons rfl (Op.opens_string Tryd.underlying9 (by kernel_rfl)) (Op.opensF_cons rfl (Op.opens_int Tryd.underlying3 (by kernel_rfl)) (Op.opensF_one rfl (Op.opens_slice Tryd.underlying31 (by kernel_rfl) (b := 104) (by kernel_rfl) ih)))))))) (fun x : S33 => (x.f0, x.f1, x.f2, x.f3, x.f4, x.f5)) (fun x_ => ⟨x_.1, x_.2.1, x_.2.2.1, x_.2.2.2.1, x_.2.2.2.2.1, x_.2.2.2.2.2⟩) (fun _ => rfl)
 refine ⟨by kernel_rfl, fun enc W fuel cs y ps hN hy => ?_⟩
 obtain ⟨x, hK, hG, hZ, hB⟩ := h.2 enc W fuel cs y ps hN hy
 refine ⟨x, Op.fold_fix (F := F33) (Op.folds_iso _ (Op.folds_pair zxm (Op.folds_const _) (Op.folds_pair zxm (Op.folds_const _) (Op.folds_pair zxm (Op.folds_const _) (Op.folds_pair zxm (Op.folds_const _) (Op.folds_pair zxm (Op.folds_const _) (Op.folds_slice zxm 33))))))) hK, ?_, fun hw => ?_, fun B BA hb => ?_⟩
 ·obtain ⟨h0_, h1_, h2_, h3_, h4_, h5_, i5_⟩ := hG
  exact gd33.mk x h0_ h1_ h2_ h3_ h4_ h5_ i5_
 ·obtain ⟨h0_, h1_, h2_, h3_, h4_, h5_, i5_⟩ := hZ hw
  exact zd33.mk x h0_ h1_ h2_ h3_ h4_ h5_ i5_
 rw [bd33_eq]
 exact hB B BA hb
set_option maxRecDepth 100000 in
theorem contract (H : Type) (enc : TypeId × Value → H) (W : World) (base : Nat) (args : Array Value) (ds gs : List (DataW H)) (before : List MemPlace)
  (hval : ∀ (j : Nat) t v, Tryd.f4.params[j]? = some t → args[j]? = some v → Value.okWide Tryd.prog W .any base t v)
  (hW : DataW.Whole enc Tryd.prog Tryd.f4.params.toList Rows.evalHoldsSpec.vars false W args.toList ds gs before) (hL : laidMetH Tryd.prog Rows.evalHoldsRow.laid W) (hsz0 : (DataW.weightsEach Tryd.prog (Tryd.f4.params.toList ++ Rows.evalHoldsSpec.plain.varTypes Tryd.prog) (ds ++ gs)).all (· ≤ reachBytes) = true) :
  Calls Tryd.prog 4 args W fun e W' => ∃ v, e = .returned v ∧ Rows.evalHoldsSpec.post enc Tryd.prog Tryd.f4 false true false false W args v W' := by
 have hW' := hW
 obtain ⟨p, q, hA0, hV, rfl, hfz, hnd⟩ := hW
 have hA : DataW.TrodAll enc Tryd.prog W 0 (fun _ => true) true Tryd.f4.params.toList args.toList ds p := hA0
 rw [Tryd.params4] at hA hval
 have hsz := hsz0
 rw [Tryd.params4] at hsz
 obtain ⟨v0, vs0, d0, ds0, p0, q0, hargs, rfl, rfl, h0, r0⟩ := trodAll_cons hA
 obtain ⟨v1, vs1, d1, ds1, p1, q1, rfl, rfl, rfl, h1, r1⟩ := trodAll_cons r0
 obtain ⟨rfl, rfl, rfl⟩ := trodAll_nil r1
 obtain rfl : args = #[v0, v1] := by cases args; simp_all
 obtain ⟨rfl, rfl⟩ := trodVars_none hV
 have k0 := h0
 have lt0 := Op.places_lt h0
 obtain ⟨x0, K0, G0, Z0, B0⟩ := Op.opened (fun N => (o33 N)) h0
 obtain ⟨cs0, rfl, _⟩ := okWide_struct Tryd.underlying33 (hval 0 33 v0 rfl rfl)
 obtain ⟨A0_7, c0_7, e0, l0_7, g0_7⟩ := zkc K0
 obtain rfl : cs0 = #[.int .i64 x0.f0, .int .i64 x0.f1.f0, .int .i64 x0.f1.f1, .string x0.f1.f2, .string x0.f2, .string x0.f3, .int .i64 x0.f4, .slice A0_7 x0.f5.length c0_7] := by apply Array.ext'; exact e0
 have k1 := h1
 have lt1 := Op.places_lt h1
 obtain ⟨x1, K1, G1, Z1, B1⟩ := Op.opened (fun N => (Op.opens_slice Tryd.underlying34 (by kernel_rfl) (b := 32) (by kernel_rfl) (o30 N))) h1
 obtain ⟨a1, len1, cap1, rfl⟩ := okWide_slice Tryd.underlying34 (hval 1 34 v1 rfl rfl)
 obtain ⟨A1_0, c1_0, e1, l1_0, g1_0⟩ := K1
 have e1' := List.head_eq_of_cons_eq e1
 injection e1' with ea1 en1 ec1
 subst ea1; subst en1; subst ec1
 obtain ⟨k, h⟩ := Pure.EvalHolds x0 x1 G0 G1 (Z0 (Op.wt_of hsz (j := 0) (t := 33) rfl rfl)) (Z1 (Op.wt_of hsz (j := 1) (t := 34) rfl rfl))
 refine (commonholdlaw_EvalHolds.calls k x0.f0 x0.f1.f0 x0.f1.f1 x0.f1.f2 x0.f2 x0.f3 x0.f4 _ _ x0.f5 _ _ x1 true W g0_7 l0_7 g1_0 l1_0 (LD.of hL) h).mono ?_
 rintro e W' ⟨rfl, bel0⟩
 have bel : Below W.heap.size W W' := bel0
 exact ⟨_, rfl, _, _, _, [], _, [], hW', trodAll_mk1 (shut_bool Tryd.underlying4 _), (trodAll_cons_mk (Below.trod laidOut (by kernel_rfl) (of_decide_eq_true (by kernel_rfl)) k0 bel lt0) (trodAll_cons_mk (Below.trod laidOut (by kernel_rfl) (of_decide_eq_true (by kernel_rfl)) k1 bel lt1) trodAll_mk0)), rfl, bel.frame _, fun h => by cases h⟩
mutual
def cellsOf : DataW Unit → List Value
 | .lit (.int k n) => [.int k n]
 | .lit (.bool b) => [.bool b]
 | .lit (.string bs) => [.string ⟨bs.toArray⟩]
 | .agg ps => cellsAll ps
 | _ => []
def cellsAll : List (DataW Unit) → List Value
 | [] => []
 | d :: r => cellsOf d ++ cellsAll r
end
def put (h : Array Obj) (g : Nat) (cs : Array Value) : Array Obj := h.modify g fun
 | .cells _ t frozen => .cells cs t frozen
 | o => o
noncomputable def laidWorld (os : Os) : World :=
 let w0 := World.holding Tryd.prog os ⟨#[], #[], []⟩
 { w0 with heap := (put (put w0.heap 1 (cellsOf Rows.laid_unicode_utf8_acceptRanges).toArray) 0 (cellsOf Rows.laid_unicode_utf8_first).toArray) }
theorem laid_met (os : Os) (args : Array Value) : laidMet Tryd.prog Rows.evalHoldsRow.laid ((laidWorld os).forCall (fun _ _ => 0) ⟨#[], args, []⟩).memory :=
 (LaidIn.of_run (l := Rows.evalHoldsRow.laid) [1, 0] 8 (by kernel_rfl) (by kernel_rfl) (by kernel_rfl) (by kernel_rfl)).met
theorem reads (os : Os) {H : Type} (enc : TypeId × Value → H) : ∃ places, DataW.whole enc Tryd.prog ((laidWorld os).forCall (fun _ _ => 0) ⟨#[], #[.agg #[.int .i64 0, .int .i64 0, .int .i64 0, .string ByteArray.empty, .string ByteArray.empty, .string ByteArray.empty, .int .i64 0, .slice none 0 0], .slice none 0 0], []⟩).memory Tryd.f4.params.toList Rows.evalHoldsSpec.vars false (#[.agg #[.int .i64 0, .int .i64 0, .int .i64 0, .string ByteArray.empty, .string ByteArray.empty, .string ByteArray.empty, .int .i64 0, .slice none 0 0], .slice none 0 0] : Array Value).toList 8 = some ([.agg [.lit (.int .i64 0), .agg [.lit (.int .i64 0), .lit (.int .i64 0), .lit (.string [])], .lit (.string []), .lit (.string []), .lit (.int .i64 0), .nil], .nil], [], places) :=
 ⟨[], by kernel_rfl⟩
set_option maxRecDepth 100000 in
theorem lifted (os : Os) (started : os.Started) (H : Type) (enc : TypeId × Value → H) (F : Stop.Interp) :
  ReturnsInHanded {} Tryd.checked os 4 .any ((OpenSpec.ofChange Rows.evalHoldsSpec).preRow enc Tryd.prog Tryd.f4 Rows.evalHoldsRow.domain false Rows.evalHoldsRow.laid) (((OpenSpec.ofChange Rows.evalHoldsSpec).at F).post enc Tryd.prog Tryd.f4 false true false false) := by
 obtain ⟨places, hx⟩ := reads os enc
 refine returnsInHanded_of_row (C := Tryd.checked) (s := OpenSpec.ofChange Rows.evalHoldsSpec) own started (by kernel_rfl) Tryd.func4
  (witness_row_atRef (enc := enc) (C := Tryd.checked) false (laidWorld os) #[.agg #[.int .i64 0, .int .i64 0, .int .i64 0, .string ByteArray.empty, .string ByteArray.empty, .string ByteArray.empty, .int .i64 0, .slice none 0 0], .slice none 0 0] rfl (by kernel_rfl) (by kernel_rfl) (by kernel_rfl)
   (OpenSpec.preRow_of_cond 8 hx (by kernel_rfl) (fun k hk => by cases hk) (by kernel_rfl) (laid_met os _))) ?_
 intro W base args ds gs before hval hW _ _ hsz0 hL _ _
 exact contract H enc W base args ds gs before hval hW hL hsz0
theorem over : Rows.evalHoldsRow.holds Tryd.pinned (OpenSpec.ofChange Rows.evalHoldsSpec) :=
 OpenClaim.holds_of_cond 4 Tryd.f4 rfl rfl rfl rfl rfl rfl rfl ⟨rfl, rfl, rfl, rfl, rfl⟩ rfl rfl rfl rfl rfl (by kernel_rfl) Tryd.func4 (by kernel_rfl)
  (of_decide_eq_true (by kernel_rfl)) (by unfold Func.isWrapper; first | (rw [if_pos (by decide +kernel)]; kernel_rfl) | (rw [if_neg (by decide +kernel)]; exact ⟨rfl, rfl⟩))
  (fun os started H enc _ F => by rw [OpenClaim.pre_eq_preRow]; exact lifted os started H enc F)
theorem plain (f : FuncId) (fn : Func) (hf : Tryd.pinned.checked.prog.funcNamed "commonhold/commonholdlaw.EvalHolds" = some f) (hfn : Tryd.pinned.checked.prog.funcs[f]? = some fn) :
  false = Tryd.pinned.checked.prog.looks [] ∧ ∀ (j : Nat) t, fn.params[j]? = some t → Tryd.pinned.checked.prog.wantsStandIn t = false := by
 obtain rfl : f = 4 := Option.some.inj ((show Tryd.prog.funcNamed "commonhold/commonholdlaw.EvalHolds" = some 4 by kernel_rfl).symm.trans hf) |>.symm
 obtain rfl : fn = Tryd.f4 := (Option.some.inj (Tryd.func4.symm.trans hfn)).symm
 refine ⟨by kernel_rfl, fun j t ht => ?_⟩
 rw [Tryd.params4] at ht
 have ht := Array.mem_of_getElem? ht
 simp only [List.mem_toArray, List.mem_cons, List.not_mem_nil, or_false] at ht
 obtain rfl | rfl := ht
 ·exact (show Tryd.prog.wantsStandIn 33 = false by kernel_rfl)
 exact (show Tryd.prog.wantsStandIn 34 = false by kernel_rfl)
theorem proved : Rows.EvalHoldsCardSaid :=
 Claim7.holds_tied_plain_at .later [] _ _ _ _ over (fun _ h => by cases h) (by kernel_rfl) (fun _ h => by cases h) evalHolds_row_tie rfl ⟨rfl, rfl⟩ (by kernel_rfl) rfl plain (by kernel_rfl)
#print axioms proved
end Go.Proofs.YtmfpaeajibeikaaDoor.evalHolds
namespace Go.Proofs.YtmfpaeajibeikaaDoor
theorem evalHolds_holds : Rows.EvalHoldsCardSaid := evalHolds.proved
end Go.Proofs.YtmfpaeajibeikaaDoor
