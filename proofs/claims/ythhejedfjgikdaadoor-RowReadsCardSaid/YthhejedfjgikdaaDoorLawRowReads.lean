-- Written by wip/pp of this repo (over the kit's print, with additions of this session); Lean checks every line.
import Derived.Test.YthhejedfjgikdaaDoorCards
import Derived.Test.YthhejedfjgikdaaDoorTie
import Derived.Test.YthhejedfjgikdaaDoorPureRowReads
import Derived.ProofKit
import Derived.ShutString
import Derived.JoinedCond
import Derived.Carry
import Derived.Deep.DeepHandedRow
import Derived.Lib.LaidIn
import Derived.Deep.DeepWitnessRowRef
namespace Go.Proofs.YthhejedfjgikdaaDoor.rowReads
open Go Go.ChangeShapes Go.WideShapes Go.ChangeAt Go.RowKit Go.Proofs.YthhejedfjgikdaaDoor Go.Proofs.YthhejedfjgikdaaDoor.PRowReads Go.Proofs.YthhejedfjgikdaaDoorW.PrintWords Go.Proofs.YthhejedfjgikdaaDoorW.PrintLast
open Go.ChangeMaps (open_string shut_string)
set_option linter.unusedVariables false
set_option linter.unusedSimpArgs false
theorem own : ownKnob Tryd.prog.godebug = none := by kernel_rfl
theorem laidOut : laidOutB Tryd.prog = true := by kernel_rfl
theorem o90 (N : Nat) : Op.Opens Tryd.prog N 90 k90 gd90 zd90 bd90 := by
 have h := Op.opens_iso (N := N) (Op.opens_struct Tryd.underlying90 (by kernel_rfl) (Op.opensF_cons rfl (Op.opens_string Tryd.underlying9 (by kernel_rfl)) (Op.opensF_cons rfl (Op.opens_int Tryd.underlying3 (by kernel_rfl)) (Op.opensF_one rfl (Op.opens_bool Tryd.underlying4 (by kernel_rfl)))))) (fun x : S90 => (x.f0, x.f1, x.f2)) (fun x_ => ⟨x_.1, x_.2.1, x_.2.2⟩) (fun _ => rfl)
 exact h
theorem o96 (N : Nat) : Op.Opens Tryd.prog N 96 k96 gd96 zd96 bd96 := by
 have h := Op.opens_iso (N := N) (Op.opens_struct Tryd.underlying96 (by kernel_rfl) (Op.opensF_cons rfl (Op.opens_string Tryd.underlying9 (by kernel_rfl)) (Op.opensF_one rfl (Op.opens_slice Tryd.underlying58 (by kernel_rfl) (b := 8) (by kernel_rfl) (Op.opens_int Tryd.underlying3 (by kernel_rfl)))))) (fun x : S96 => (x.f0, x.f1)) (fun x_ => ⟨x_.1, x_.2⟩) (fun _ => rfl)
 exact h
theorem o61 (N : Nat) : Op.Opens Tryd.prog N 61 k61 gd61 zd61 bd61 := by
 have h := Op.opens_iso (N := N) (Op.opens_struct Tryd.underlying61 (by kernel_rfl) (Op.opensF_cons rfl (Op.opens_string Tryd.underlying9 (by kernel_rfl)) (Op.opensF_cons rfl (Op.opens_slice Tryd.underlying57 (by kernel_rfl) (b := 32) (by kernel_rfl) (o90 N)) (Op.opensF_cons rfl (Op.opens_slice Tryd.underlying58 (by kernel_rfl) (b := 8) (by kernel_rfl) (Op.opens_int Tryd.underlying3 (by kernel_rfl))) (Op.opensF_one rfl (Op.opens_slice Tryd.underlying59 (by kernel_rfl) (b := 40) (by kernel_rfl) (o96 N))))))) (fun x : S61 => (x.f0, x.f1, x.f2, x.f3)) (fun x_ => ⟨x_.1, x_.2.1, x_.2.2.1, x_.2.2.2⟩) (fun _ => rfl)
 exact h
theorem o32 (N : Nat) : Op.Opens Tryd.prog N 32 k32 gd32 zd32 bd32 := by
 have h := Op.opens_iso (N := N) (Op.opens_struct Tryd.underlying32 (by kernel_rfl) (Op.opensF_cons rfl (Op.opens_slice Tryd.underlying30 (by kernel_rfl) (b := 1) (by kernel_rfl) (Op.opens_int Tryd.underlying5 (by kernel_rfl))) (Op.opensF_one rfl (Op.opens_slice Tryd.underlying30 (by kernel_rfl) (b := 1) (by kernel_rfl) (Op.opens_int Tryd.underlying5 (by kernel_rfl)))))) (fun x : S32 => (x.f0, x.f1)) (fun x_ => ⟨x_.1, x_.2⟩) (fun _ => rfl)
 exact h
set_option maxRecDepth 100000 in
theorem contract (H : Type) (enc : TypeId × Value → H) (W : World) (base : Nat) (args : Array Value) (ds gs : List (DataW H)) (before : List MemPlace)
  (hval : ∀ (j : Nat) t v, Tryd.f4.params[j]? = some t → args[j]? = some v → Value.okWide Tryd.prog W .any base t v)
  (hW : DataW.Whole enc Tryd.prog Tryd.f4.params.toList Rows.rowReadsSpec.vars false W args.toList ds gs before) (hL : laidMetH Tryd.prog Rows.rowReadsRow.laid W) (hsz0 : (DataW.weightsEach Tryd.prog (Tryd.f4.params.toList ++ Rows.rowReadsSpec.plain.varTypes Tryd.prog) (ds ++ gs)).all (· ≤ reachBytes) = true) :
  Calls Tryd.prog 4 args W fun e W' => ∃ v, e = .returned v ∧ Rows.rowReadsSpec.post enc Tryd.prog Tryd.f4 false true false false W args v W' := by
 have hW' := hW
 obtain ⟨p, q, hA0, hV, rfl, hfz, hnd⟩ := hW
 have hA : DataW.TrodAll enc Tryd.prog W 0 (fun _ => true) true Tryd.f4.params.toList args.toList ds p := hA0
 rw [Tryd.params4] at hA hval
 have hsz := hsz0
 rw [Tryd.params4] at hsz
 obtain ⟨v0, vs0, d0, ds0, p0, q0, hargs, rfl, rfl, h0, r0⟩ := trodAll_cons hA
 obtain ⟨v1, vs1, d1, ds1, p1, q1, rfl, rfl, rfl, h1, r1⟩ := trodAll_cons r0
 obtain ⟨v2, vs2, d2, ds2, p2, q2, rfl, rfl, rfl, h2, r2⟩ := trodAll_cons r1
 obtain ⟨rfl, rfl, rfl⟩ := trodAll_nil r2
 obtain rfl : args = #[v0, v1, v2] := by cases args; simp_all
 obtain ⟨rfl, rfl⟩ := trodVars_none hV
 have k0 := h0
 have lt0 := Op.places_lt h0
 obtain ⟨x0, K0, G0, Z0, B0⟩ := Op.opened (fun N => (Op.opens_slice Tryd.underlying22 (by kernel_rfl) (b := 88) (by kernel_rfl) (o61 N))) h0
 obtain ⟨a0, len0, cap0, rfl⟩ := okWide_slice Tryd.underlying22 (hval 0 22 v0 rfl rfl)
 obtain ⟨A0_0, c0_0, e0, l0_0, g0_0⟩ := K0
 have e0' := List.head_eq_of_cons_eq e0
 injection e0' with ea0 en0 ec0
 subst ea0; subst en0; subst ec0
 have k1 := h1
 have lt1 := Op.places_lt h1
 obtain ⟨x1, K1, G1, Z1, B1⟩ := Op.opened (fun N => (Op.opens_int Tryd.underlying3 (by kernel_rfl))) h1
 obtain ⟨z1, rfl, _⟩ := open_int Tryd.underlying3 (hval 1 3 v1 rfl rfl) h1
 have e1 := List.head_eq_of_cons_eq K1
 injection e1 with e1a e1b
 have e1' := e1b.symm
 subst e1'
 have k2 := h2
 have lt2 := Op.places_lt h2
 obtain ⟨x2, K2, G2, Z2, B2⟩ := Op.opened (fun N => (o32 N)) h2
 obtain ⟨cs2, rfl, _⟩ := okWide_struct Tryd.underlying32 (hval 2 32 v2 rfl rfl)
 obtain ⟨A2_0, c2_0, A2_1, c2_1, e2, l2_0, g2_0, l2_1, g2_1⟩ := zvf K2
 obtain rfl : cs2 = #[.slice A2_0 x2.f0.length c2_0, .slice A2_1 x2.f1.length c2_1] := by apply Array.ext'; exact e2
 obtain ⟨k, h⟩ := Pure.RowReads x0 x1 x2 G0 G1 G2 (Z0 (Op.wt_of hsz (j := 0) (t := 22) rfl rfl)) (Z2 (Op.wt_of hsz (j := 2) (t := 32) rfl rfl))
 refine (commonholdlaw_RowReads.calls k _ _ x0 x1 _ _ x2.f0 _ _ x2.f1 true W g0_0 l0_0 g2_0 l2_0 g2_1 l2_1 (LD.of hL) h).mono ?_
 rintro e W' ⟨rfl, bel0⟩
 have bel : Below W.heap.size W W' := bel0
 exact ⟨_, rfl, _, _, _, [], _, [], hW', trodAll_mk1 (shut_bool Tryd.underlying4 _), (trodAll_cons_mk (Below.trod laidOut (by kernel_rfl) (of_decide_eq_true (by kernel_rfl)) k0 bel lt0) (trodAll_cons_mk (Below.trod laidOut (by kernel_rfl) (of_decide_eq_true (by kernel_rfl)) k1 bel lt1) (trodAll_cons_mk (Below.trod laidOut (by kernel_rfl) (of_decide_eq_true (by kernel_rfl)) k2 bel lt2) trodAll_mk0))), rfl, bel.frame _, fun h => by cases h⟩
mutual
def cellsOf : DataW Unit → List Value
 | .lit (.int k n) => [.int k n]
 | .lit (.bool b) => [.bool b]
 | .lit (.string bs) => [.string ⟨bs.toArray⟩]
 | .agg ps => cellsAll ps
 | _ => []
def cellsAll : List (DataW Unit) → List Value
 | [] => []
 | d :: r => cellsOf d ++ cellsAll r
end
def put (h : Array Obj) (g : Nat) (cs : Array Value) : Array Obj := h.modify g fun
 | .cells _ t frozen => .cells cs t frozen
 | o => o
noncomputable def laidWorld (os : Os) : World :=
 let w0 := World.holding Tryd.prog os ⟨#[], #[], []⟩
 { w0 with heap := (put (put (put (put w0.heap 1 (cellsOf Rows.laid_unicode_utf8_acceptRanges).toArray) 3 (cellsOf Rows.laid_commonhold_lex_marks).toArray) 2 (cellsOf Rows.laid_commonhold_parse_kept).toArray) 0 (cellsOf Rows.laid_unicode_utf8_first).toArray) }
theorem laid_met (os : Os) (args : Array Value) : laidMet Tryd.prog Rows.rowReadsRow.laid ((laidWorld os).forCall (fun _ _ => 0) ⟨#[], args, []⟩).memory :=
 (LaidIn.of_run (l := Rows.rowReadsRow.laid) [1, 3, 2, 0] 8 (by kernel_rfl) (by kernel_rfl) (by kernel_rfl) (by kernel_rfl)).met
theorem reads (os : Os) {H : Type} (enc : TypeId × Value → H) : ∃ places, DataW.whole enc Tryd.prog ((laidWorld os).forCall (fun _ _ => 0) ⟨#[], #[.slice none 0 0, .int .i64 0, .agg #[.slice none 0 0, .slice none 0 0]], []⟩).memory Tryd.f4.params.toList Rows.rowReadsSpec.vars false (#[.slice none 0 0, .int .i64 0, .agg #[.slice none 0 0, .slice none 0 0]] : Array Value).toList 8 = some ([.nil, .lit (.int .i64 0), .agg [.nil, .nil]], [], places) :=
 ⟨[], by kernel_rfl⟩
set_option maxRecDepth 100000 in
theorem lifted (os : Os) (started : os.Started) (H : Type) (enc : TypeId × Value → H) (F : Stop.Interp) :
  ReturnsInHanded {} Tryd.checked os 4 .any ((OpenSpec.ofChange Rows.rowReadsSpec).preRow enc Tryd.prog Tryd.f4 Rows.rowReadsRow.domain false Rows.rowReadsRow.laid) (((OpenSpec.ofChange Rows.rowReadsSpec).at F).post enc Tryd.prog Tryd.f4 false true false false) := by
 obtain ⟨places, hx⟩ := reads os enc
 refine returnsInHanded_of_row (C := Tryd.checked) (s := OpenSpec.ofChange Rows.rowReadsSpec) own started (by kernel_rfl) Tryd.func4
  (witness_row_atRef (enc := enc) (C := Tryd.checked) false (laidWorld os) #[.slice none 0 0, .int .i64 0, .agg #[.slice none 0 0, .slice none 0 0]] rfl (by kernel_rfl) (by kernel_rfl) (by kernel_rfl)
   (OpenSpec.preRow_of_cond 8 hx (by kernel_rfl) (fun k hk => by cases hk) (by kernel_rfl) (laid_met os _))) ?_
 intro W base args ds gs before hval hW _ _ hsz0 hL _ _
 exact contract H enc W base args ds gs before hval hW hL hsz0
theorem over : Rows.rowReadsRow.holds Tryd.pinned (OpenSpec.ofChange Rows.rowReadsSpec) :=
 OpenClaim.holds_of_cond 4 Tryd.f4 rfl rfl rfl rfl rfl rfl rfl ⟨rfl, rfl, rfl, rfl, rfl⟩ rfl rfl rfl rfl rfl (by kernel_rfl) Tryd.func4 (by kernel_rfl)
  (of_decide_eq_true (by kernel_rfl)) (by unfold Func.isWrapper; first | (rw [if_pos (by decide +kernel)]; kernel_rfl) | (rw [if_neg (by decide +kernel)]; exact ⟨rfl, rfl⟩))
  (fun os started H enc _ F => by rw [OpenClaim.pre_eq_preRow]; exact lifted os started H enc F)
theorem plain (f : FuncId) (fn : Func) (hf : Tryd.pinned.checked.prog.funcNamed "commonhold/commonholdlaw.RowReads" = some f) (hfn : Tryd.pinned.checked.prog.funcs[f]? = some fn) :
  false = Tryd.pinned.checked.prog.looks [] ∧ ∀ (j : Nat) t, fn.params[j]? = some t → Tryd.pinned.checked.prog.wantsStandIn t = false := by
 obtain rfl : f = 4 := Option.some.inj ((show Tryd.prog.funcNamed "commonhold/commonholdlaw.RowReads" = some 4 by kernel_rfl).symm.trans hf) |>.symm
 obtain rfl : fn = Tryd.f4 := (Option.some.inj (Tryd.func4.symm.trans hfn)).symm
 refine ⟨by kernel_rfl, fun j t ht => ?_⟩
 rw [Tryd.params4] at ht
 have ht := Array.mem_of_getElem? ht
 simp only [List.mem_toArray, List.mem_cons, List.not_mem_nil, or_false] at ht
 obtain rfl | rfl | rfl := ht
 ·exact (show Tryd.prog.wantsStandIn 22 = false by kernel_rfl)
 ·exact (show Tryd.prog.wantsStandIn 3 = false by kernel_rfl)
 exact (show Tryd.prog.wantsStandIn 32 = false by kernel_rfl)
theorem proved : Rows.RowReadsCardSaid :=
 Claim7.holds_tied_plain_at .later [] _ _ _ _ over (fun _ h => by cases h) (by kernel_rfl) (fun _ h => by cases h) rowReads_row_tie rfl ⟨rfl, rfl⟩ (by kernel_rfl) rfl plain (by kernel_rfl)
#print axioms proved
end Go.Proofs.YthhejedfjgikdaaDoor.rowReads
namespace Go.Proofs.YthhejedfjgikdaaDoor
theorem rowReads_holds : Rows.RowReadsCardSaid := rowReads.proved
end Go.Proofs.YthhejedfjgikdaaDoor
