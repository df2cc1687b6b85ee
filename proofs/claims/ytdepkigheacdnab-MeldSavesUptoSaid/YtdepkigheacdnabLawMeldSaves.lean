-- Written by wip/pp of this repo (over the kit's print, with additions of this session); Lean checks every line.
import Derived.Test.YtdepkigheacdnabRows
import Derived.Test.YtdepkigheacdnabPMeldSavesx8
import Derived.Test.YtdepkigheacdnabPureMeldSaves
import Derived.Test.YtdepkigheacdnabOpen
import Derived.WalkKit
import Derived.ProofKit
import Derived.OpenShut
import Derived.ShutString
import Derived.ChangeOld
import Derived.Below
import Derived.SizedLaws
import Derived.JoinedCond
import Derived.Carry
namespace Go.Proofs.Ytdepkigheacdnab.meldSavesUpto
open Go Go.ChangeShapes Go.WideShapes Go.ChangeAt Go.RowKit Go.Proofs.Ytdepkigheacdnab Go.Proofs.Ytdepkigheacdnab.PMeldSaves Go.Proofs.YtdepkigheacdnabW.PrintWords Go.Proofs.YtdepkigheacdnabW.PrintLast
open Go.ChangeMaps (open_string shut_string)
set_option linter.unusedVariables false
set_option linter.unusedSimpArgs false
theorem own : ownKnob Try.prog.godebug = none := by kernel_rfl
theorem laidOut : laidOutB Try.prog = true := by kernel_rfl
theorem o98 (N : Nat) : Op.Opens Try.prog N 98 k98 gd98 zd98 bd98 := by
  have h := Op.opens_iso (N := N) (Op.opens_struct Try.underlying98 (by kernel_rfl) (Op.opensF_cons rfl (Op.opens_slice Try.underlying26 (by kernel_rfl) (b := 1) (by kernel_rfl) (Op.opens_int Try.underlying5 (by kernel_rfl))) (Op.opensF_cons rfl (Op.opens_slice Try.underlying26 (by kernel_rfl) (b := 1) (by kernel_rfl) (Op.opens_int Try.underlying5 (by kernel_rfl))) (Op.opensF_cons rfl (Op.opens_bool Try.underlying4 (by kernel_rfl)) (Op.opensF_one rfl (Op.opens_int Try.underlying3 (by kernel_rfl))))))) (fun x : S98 => (x.f0, x.f1, x.f2, x.f3)) (fun x_ => ⟨x_.1, x_.2.1, x_.2.2.1, x_.2.2.2⟩) (fun _ => rfl)
  exact h
theorem o102 (N : Nat) : Op.Opens Try.prog N 102 k102 gd102 zd102 bd102 := by
  have h := Op.opens_iso (N := N) (Op.opens_struct Try.underlying102 (by kernel_rfl) (Op.opensF_cons rfl (Op.opens_int Try.underlying3 (by kernel_rfl)) (Op.opensF_cons rfl (Op.opens_int Try.underlying3 (by kernel_rfl)) (Op.opensF_cons rfl (Op.opens_int Try.underlying3 (by kernel_rfl)) (Op.opensF_one rfl (Op.opens_bool Try.underlying4 (by kernel_rfl))))))) (fun x : S102 => (x.f0, x.f1, x.f2, x.f3)) (fun x_ => ⟨x_.1, x_.2.1, x_.2.2.1, x_.2.2.2⟩) (fun _ => rfl)
  exact h
theorem o40 (N : Nat) : Op.Opens Try.prog N 40 k40 gd40 zd40 bd40 := by
  have h := Op.opens_iso (N := N) (Op.opens_struct Try.underlying40 (by kernel_rfl) (Op.opensF_cons rfl (Op.opens_int Try.underlying3 (by kernel_rfl)) (Op.opensF_cons rfl (Op.opens_slice Try.underlying37 (by kernel_rfl) (b := 64) (by kernel_rfl) (o98 N)) (Op.opensF_one rfl (Op.opens_slice Try.underlying38 (by kernel_rfl) (b := 32) (by kernel_rfl) (o102 N)))))) (fun x : S40 => (x.f0, x.f1, x.f2)) (fun x_ => ⟨x_.1, x_.2.1, x_.2.2⟩) (fun _ => rfl)
  exact h
theorem bulks (H : Type) : Op.Bulks H Rows.uptoBulk Rows.uptoBulkAll := ⟨fun _ => by simp [Rows.uptoBulk], fun _ _ => by simp [Rows.uptoBulk], fun _ => by simp [Rows.uptoBulk], by simp [Rows.uptoBulk], fun _ _ => by simp [Rows.uptoBulk], fun _ => by simp [Rows.uptoBulk], by simp [Rows.uptoBulkAll], fun _ _ => by simp [Rows.uptoBulkAll]⟩
set_option maxRecDepth 100000 in
theorem contract (H : Type) (enc : TypeId × Value → H) (W : World) (base : Nat) (args : Array Value) (ds gs : List (DataW H)) (before : List MemPlace)
    (hval : ∀ (j : Nat) t v, Try.f7.params[j]? = some t → args[j]? = some v → Value.okWide Try.prog W .any base t v)
    (hW : DataW.Whole enc Try.prog Try.f7.params.toList Rows.meldSavesSpec.vars false W args.toList ds gs before) (hk : Rows.uptoSmall H ds = true) :
    Calls Try.prog 7 args W fun e W' => ∃ v, e = .returned v ∧ Rows.meldSavesSpec.post enc Try.prog Try.f7 false true false false W args v W' := by
  have hW' := hW
  obtain ⟨p, q, hA0, hV, rfl, hfz, hnd⟩ := hW
  have hA : DataW.TrodAll enc Try.prog W 0 (fun _ => true) true Try.f7.params.toList args.toList ds p := hA0
  rw [Try.params7] at hA hval
  obtain ⟨v0, vs0, d0, ds0, p0, q0, hargs, rfl, rfl, h0, r0⟩ := trodAll_cons hA
  obtain ⟨rfl, rfl, rfl⟩ := trodAll_nil r0
  obtain rfl : args = #[v0] := by cases args; simp_all
  obtain ⟨rfl, rfl⟩ := trodVars_none hV
  have k0 := h0
  have lt0 := Op.places_lt h0
  obtain ⟨x0, K0, G0, Z0, B0⟩ := Op.opened (fun N => (o40 N)) h0
  obtain ⟨cs0, rfl, _⟩ := okWide_struct Try.underlying40 (hval 0 40 v0 rfl rfl)
  obtain ⟨A0_1, c0_1, A0_2, c0_2, e0, l0_1, g0_1, l0_2, g0_2⟩ := k40_open K0
  obtain rfl : cs0 = #[.int .i64 x0.f0, .slice A0_1 x0.f1.length c0_1, .slice A0_2 x0.f2.length c0_2] := by apply Array.ext'; exact e0
  have hbulk : bd40 x0 ≤ 1048576 := by
    have b0 := B0 _ _ (bulks H)
    have hq := of_decide_eq_true hk
    simp only [Rows.uptoBulkAll] at hq
    exact Nat.le_trans (by omega) hq
  obtain ⟨k, h⟩ := Pure.MeldSaves x0 G0 hbulk
  refine (commonholdlaw_MeldSaves.calls k x0.f0 _ _ x0.f1 _ _ x0.f2 true W g0_1 l0_1 g0_2 l0_2 h).mono ?_
  rintro e W' ⟨rfl, bel0⟩
  have bel : Below W.heap.size W W' := bel0
  exact ⟨_, rfl, _, _, _, [], _, [], hW', trodAll_mk1 (shut_bool Try.underlying4 _), (trodAll_cons_mk (Below.trod laidOut (by kernel_rfl) (of_decide_eq_true (by kernel_rfl)) k0 bel lt0) trodAll_mk0), rfl, bel.frame _, fun h => by cases h⟩
set_option maxRecDepth 100000 in
theorem lifted (os : Os) (started : os.Started) (H : Type) (enc : TypeId × Value → H) (F : Stop.Interp) :
    ReturnsInHanded {} Try.checked os 7 .any ((Rows.OpenSpec.upto Rows.meldSavesSpec).pre6 enc Try.prog Try.f7 Rows.meldSavesUptoRow.domain false) (((Rows.OpenSpec.upto Rows.meldSavesSpec).at F).post enc Try.prog Try.f7 false true false false) := by
  refine returnsInHanded_of_cond (C := Try.checked) (s := Rows.OpenSpec.upto Rows.meldSavesSpec) (k := Rows.uptoSmall) rfl own started (by kernel_rfl) Try.func7
    (OpenSpec.witness (enc := enc) (C := Try.checked) (s := Rows.OpenSpec.upto Rows.meldSavesSpec) (k := Rows.uptoSmall) rfl false ⟨#[], #[.agg #[.int .i64 0, .slice none 0 0, .slice none 0 0]], []⟩ 8 (by kernel_rfl) (by kernel_rfl) (by kernel_rfl)
      (x := ([.agg [.lit (.int .i64 0), .nil, .nil]], [], [])) (by kernel_rfl) rfl (by kernel_rfl)) ?_
  intro W base args ds gs before hval hW _ hk _
  have hgs : gs = [] := by obtain ⟨p, q, _, hV, _⟩ := hW; exact (trodVars_none hV).1
  subst hgs
  rw [List.append_nil] at hk
  exact contract H enc W base args ds [] before hval hW hk
theorem over : Rows.meldSavesUptoRow.holds Try.pinned (Rows.OpenSpec.upto Rows.meldSavesSpec) :=
  OpenClaim.holds_of_cond 7 Try.f7 rfl rfl rfl rfl rfl rfl rfl ⟨rfl, rfl, rfl, rfl, rfl⟩ rfl rfl rfl rfl rfl (by kernel_rfl) Try.func7 (by kernel_rfl)
    (of_decide_eq_true (by kernel_rfl)) (by unfold Func.isWrapper; first | (rw [if_pos (by decide +kernel)]; kernel_rfl) | (rw [if_neg (by decide +kernel)]; exact ⟨rfl, rfl⟩))
    (fun os started H enc _ F => lifted os started H enc F)
theorem proved : Rows.MeldSavesUptoSaid := over
#print axioms proved
end Go.Proofs.Ytdepkigheacdnab.meldSavesUpto
namespace Go.Proofs.Ytdepkigheacdnab
/-- The row, under a short name, for the claim. -/
theorem meldSavesUpto_holds : Rows.MeldSavesUptoSaid := meldSavesUpto.proved
end Go.Proofs.Ytdepkigheacdnab
