/-
  NARROWER THAN 'FOR EVERY INPUT', by the rows' own cells (each row's printed sentence says how): EvalSplits: loops.
  DERIVED. THE GIVEN ROWS OF THIS SEAT. 7 by the template 'for every input the law returns true; each argument reads behind the call as it read before'; 0 by the template 'total and deterministic' (their statements: YtfkdldaadjhcfaaTotals.lean).
  GIVEN WITH THE SEED: the statements are not yours to turn. If you find one false, say at which input.
  Laid BY PROGRAM, IN A SANDBOX (cutbox-rows.mjs): the forced cells as the released guide's own fill.sh prints them over the translation beec97b521be8d5b… (all of the seat's roots in one cut). By AI agents, Wed Nov 11 2026. No macro, syntax, notation, axiom, sorry.
-/
import Derived.Test.YtfkdldaadjhcfaaChecked
import GoSem.Claim
import GoSem.ClaimJoined
import GoSem.ClaimMapViews
import Derived.JoinedTies
import Derived.KernelRfl
namespace Go.Proofs.Ytfkdldaadjhcfaa
/- THE CELL 'sum', in the pinned program and in every row, IS THE sha256 OF THE DUMP (.gsa) THAT YtfkdldaadjhcfaaProg.lean LOADS. Nothing in Lean hashes anything: it is a label: what it is worth is what the hold of that sum in a sandbox is worth. -/
noncomputable def Try.pinned : Pinned := { name := "ytfkdldaadjhcfaa", sum := "beec97b521be8d5b0aa306405b6e19b11447a175c63889b473f1d0285e81f276", checked := Try.checked }
namespace Rows
def none {H : Type} : Left H := { results := [], args := [] }

/-- 'commonholdlaw.EvalSplits': WHATEVER THE INPUT: true; the input reads as it did. -/
def evalSplitsSpec : ChangeSpec := { name := "evalSplits", fn := fun _ => fun
  | [d] => { results := [.lit (.bool true)], args := [d] }
  | _ => none }
def evalSplitsRow : OpenClaim := { program := "ytfkdldaadjhcfaa", sum := "beec97b521be8d5b0aa306405b6e19b11447a175c63889b473f1d0285e81f276", func := "commonhold/commonholdlaw.EvalSplits", spec := "evalSplits", unfollowed := true, recurses := true, loops := true, apart := false }
def EvalSplitsSaid : Prop := evalSplitsRow.holds Try.pinned (OpenSpec.ofChange evalSplitsSpec)

/-- ITS FALSE NEIGHBOUR: 'it returns false'. Refute it at one input. -/
def evalSplitsWrong : ChangeSpec := { name := "evalSplits", fn := fun _ => fun
  | [d] => { results := [.lit (.bool false)], args := [d] }
  | _ => none }
def EvalSplitsWrongFalsely : Prop := evalSplitsRow.holds Try.pinned (OpenSpec.ofChange evalSplitsWrong)

/-- 'commonholdlaw.IntentDecodes': WHATEVER THE INPUT: true; the input reads as it did. -/
def intentDecodesSpec : ChangeSpec := { name := "intentDecodes", fn := fun _ => fun
  | [d] => { results := [.lit (.bool true)], args := [d] }
  | _ => none }
def intentDecodesRow : OpenClaim := { program := "ytfkdldaadjhcfaa", sum := "beec97b521be8d5b0aa306405b6e19b11447a175c63889b473f1d0285e81f276", func := "commonhold/commonholdlaw.IntentDecodes", spec := "intentDecodes", inPlace := ["internal/bytealg.Compare"], unfollowed := true, recurses := true, apart := false }
def IntentDecodesSaid : Prop := intentDecodesRow.holds Try.pinned (OpenSpec.ofChange intentDecodesSpec)

/-- ITS FALSE NEIGHBOUR: 'it returns false'. Refute it at one input. -/
def intentDecodesWrong : ChangeSpec := { name := "intentDecodes", fn := fun _ => fun
  | [d] => { results := [.lit (.bool false)], args := [d] }
  | _ => none }
def IntentDecodesWrongFalsely : Prop := intentDecodesRow.holds Try.pinned (OpenSpec.ofChange intentDecodesWrong)

/-- 'commonholdlaw.LayoutSwaps': WHATEVER THE INPUT: true; the input reads as it did. -/
def layoutSwapsSpec : ChangeSpec := { name := "layoutSwaps", fn := fun _ => fun
  | [d1, d2, d3] => { results := [.lit (.bool true)], args := [d1, d2, d3] }
  | _ => none }
def layoutSwapsRow : OpenClaim := { program := "ytfkdldaadjhcfaa", sum := "beec97b521be8d5b0aa306405b6e19b11447a175c63889b473f1d0285e81f276", func := "commonhold/commonholdlaw.LayoutSwaps", spec := "layoutSwaps", unfollowed := true, recurses := true, apart := false }
def LayoutSwapsSaid : Prop := layoutSwapsRow.holds Try.pinned (OpenSpec.ofChange layoutSwapsSpec)

/-- ITS FALSE NEIGHBOUR: 'it returns false'. Refute it at one input. -/
def layoutSwapsWrong : ChangeSpec := { name := "layoutSwaps", fn := fun _ => fun
  | [d1, d2, d3] => { results := [.lit (.bool false)], args := [d1, d2, d3] }
  | _ => none }
def LayoutSwapsWrongFalsely : Prop := layoutSwapsRow.holds Try.pinned (OpenSpec.ofChange layoutSwapsWrong)

/-- 'commonholdlaw.MeldLoads': WHATEVER THE INPUT: true; the input reads as it did. -/
def meldLoadsSpec : ChangeSpec := { name := "meldLoads", fn := fun _ => fun
  | [d] => { results := [.lit (.bool true)], args := [d] }
  | _ => none }
def meldLoadsRow : OpenClaim := { program := "ytfkdldaadjhcfaa", sum := "beec97b521be8d5b0aa306405b6e19b11447a175c63889b473f1d0285e81f276", func := "commonhold/commonholdlaw.MeldLoads", spec := "meldLoads", inPlace := ["internal/bytealg.Compare"], unfollowed := true, recurses := true, apart := false }
def MeldLoadsSaid : Prop := meldLoadsRow.holds Try.pinned (OpenSpec.ofChange meldLoadsSpec)

/-- ITS FALSE NEIGHBOUR: 'it returns false'. Refute it at one input. -/
def meldLoadsWrong : ChangeSpec := { name := "meldLoads", fn := fun _ => fun
  | [d] => { results := [.lit (.bool false)], args := [d] }
  | _ => none }
def MeldLoadsWrongFalsely : Prop := meldLoadsRow.holds Try.pinned (OpenSpec.ofChange meldLoadsWrong)

/-- 'commonholdlaw.ExecApplies': WHATEVER THE INPUT: true; the input reads as it did. -/
def execAppliesSpec : ChangeSpec := { name := "execApplies", fn := fun _ => fun
  | [d1, d2] => { results := [.lit (.bool true)], args := [d1, d2] }
  | _ => none }
def execAppliesRow : OpenClaim := { program := "ytfkdldaadjhcfaa", sum := "beec97b521be8d5b0aa306405b6e19b11447a175c63889b473f1d0285e81f276", func := "commonhold/commonholdlaw.ExecApplies", spec := "execApplies", inPlace := ["internal/bytealg.Compare", "slices.overlaps[commonhold/api.Entry]"], unfollowed := true, recurses := true, apart := false }
def ExecAppliesSaid : Prop := execAppliesRow.holds Try.pinned (OpenSpec.ofChange execAppliesSpec)

/-- ITS FALSE NEIGHBOUR: 'it returns false'. Refute it at one input. -/
def execAppliesWrong : ChangeSpec := { name := "execApplies", fn := fun _ => fun
  | [d1, d2] => { results := [.lit (.bool false)], args := [d1, d2] }
  | _ => none }
def ExecAppliesWrongFalsely : Prop := execAppliesRow.holds Try.pinned (OpenSpec.ofChange execAppliesWrong)

/-- 'commonholdlaw.UnitPlays': WHATEVER THE INPUT: true; the input reads as it did. -/
def unitPlaysSpec : ChangeSpec := { name := "unitPlays", fn := fun _ => fun
  | [d] => { results := [.lit (.bool true)], args := [d] }
  | _ => none }
def unitPlaysRow : OpenClaim := { program := "ytfkdldaadjhcfaa", sum := "beec97b521be8d5b0aa306405b6e19b11447a175c63889b473f1d0285e81f276", func := "commonhold/commonholdlaw.UnitPlays", spec := "unitPlays", unfollowed := true, recurses := true, apart := false }
def UnitPlaysSaid : Prop := unitPlaysRow.holds Try.pinned (OpenSpec.ofChange unitPlaysSpec)

/-- ITS FALSE NEIGHBOUR: 'it returns false'. Refute it at one input. -/
def unitPlaysWrong : ChangeSpec := { name := "unitPlays", fn := fun _ => fun
  | [d] => { results := [.lit (.bool false)], args := [d] }
  | _ => none }
def UnitPlaysWrongFalsely : Prop := unitPlaysRow.holds Try.pinned (OpenSpec.ofChange unitPlaysWrong)

/-- 'commonholdlaw.BallotPlays': WHATEVER THE INPUT: true; the input reads as it did. -/
def ballotPlaysSpec : ChangeSpec := { name := "ballotPlays", fn := fun _ => fun
  | [d1, d2] => { results := [.lit (.bool true)], args := [d1, d2] }
  | _ => none }
def ballotPlaysRow : OpenClaim := { program := "ytfkdldaadjhcfaa", sum := "beec97b521be8d5b0aa306405b6e19b11447a175c63889b473f1d0285e81f276", func := "commonhold/commonholdlaw.BallotPlays", spec := "ballotPlays", apart := false }
def BallotPlaysSaid : Prop := ballotPlaysRow.holds Try.pinned (OpenSpec.ofChange ballotPlaysSpec)

/-- ITS FALSE NEIGHBOUR: 'it returns false'. Refute it at one input. -/
def ballotPlaysWrong : ChangeSpec := { name := "ballotPlays", fn := fun _ => fun
  | [d1, d2] => { results := [.lit (.bool false)], args := [d1, d2] }
  | _ => none }
def BallotPlaysWrongFalsely : Prop := ballotPlaysRow.holds Try.pinned (OpenSpec.ofChange ballotPlaysWrong)

/- THE SECOND FORM. 'bulk': how many values and letters a reading holds, each counted each time it is reached (what is shared counts as often as it is met; a slice's spare places count too). A statement '..UptoSaid' is the law's where the arguments, and the package variables that the reading takes, are together of bulk at most 1048576: NARROWER than '..Said'. Prove '..Said' where nothing that the law and all that it calls make is longer than what came in: it says more and counts as full. Else prove '..UptoSaid'. A law counts once. -/
mutual
def uptoBulk {H : Type} : DataW H → Nat
  | .lit (.string bytes) => bytes.length + 1
  | .lit _ => 1
  | .nil => 1
  | .ptr d => uptoBulk d + 1
  | .slice elems spare => uptoBulkAll elems + uptoBulkAll spare + 1
  | .agg parts => uptoBulkAll parts + 1
  | .iface _ d => uptoBulk d + 1
  | .map entries => uptoBulkEntries entries + 1
  | .held _ => 1
def uptoBulkAll {H : Type} : List (DataW H) → Nat
  | [] => 0
  | d :: r => uptoBulk d + uptoBulkAll r
def uptoBulkEntries {H : Type} : List (Lit × DataW H) → Nat
  | [] => 0
  | x :: r => uptoBulkEntry x + uptoBulkEntries r
def uptoBulkEntry {H : Type} : Lit × DataW H → Nat
  | (.string bytes, d) => bytes.length + uptoBulk d + 1
  | (_, d) => uptoBulk d + 1
 end
def uptoSmall : (H : Type) → List (DataW H) → Bool := fun _ ds => decide (uptoBulkAll ds ≤ 1048576)
def OpenSpec.upto (s : _root_.Go.ChangeSpec) : _root_.Go.OpenSpec := { _root_.Go.OpenSpec.ofChange s with cond := some uptoSmall }

/-- 'commonholdlaw.EvalSplits', WHERE WHAT IT READS IS OF BULK AT MOST 1048576: true; the input reads as it did. -/
def evalSplitsUptoRow : OpenClaim := { program := "ytfkdldaadjhcfaa", sum := "beec97b521be8d5b0aa306405b6e19b11447a175c63889b473f1d0285e81f276", func := "commonhold/commonholdlaw.EvalSplits", spec := "evalSplits", unfollowed := true, recurses := true, loops := true, apart := false, narrowed := true }
def EvalSplitsUptoSaid : Prop := evalSplitsUptoRow.holds Try.pinned (OpenSpec.upto evalSplitsSpec)

/-- 'commonholdlaw.IntentDecodes', WHERE WHAT IT READS IS OF BULK AT MOST 1048576: true; the input reads as it did. -/
def intentDecodesUptoRow : OpenClaim := { program := "ytfkdldaadjhcfaa", sum := "beec97b521be8d5b0aa306405b6e19b11447a175c63889b473f1d0285e81f276", func := "commonhold/commonholdlaw.IntentDecodes", spec := "intentDecodes", inPlace := ["internal/bytealg.Compare"], unfollowed := true, recurses := true, apart := false, narrowed := true }
def IntentDecodesUptoSaid : Prop := intentDecodesUptoRow.holds Try.pinned (OpenSpec.upto intentDecodesSpec)

/-- 'commonholdlaw.LayoutSwaps', WHERE WHAT IT READS IS OF BULK AT MOST 1048576: true; the input reads as it did. -/
def layoutSwapsUptoRow : OpenClaim := { program := "ytfkdldaadjhcfaa", sum := "beec97b521be8d5b0aa306405b6e19b11447a175c63889b473f1d0285e81f276", func := "commonhold/commonholdlaw.LayoutSwaps", spec := "layoutSwaps", unfollowed := true, recurses := true, apart := false, narrowed := true }
def LayoutSwapsUptoSaid : Prop := layoutSwapsUptoRow.holds Try.pinned (OpenSpec.upto layoutSwapsSpec)

/-- 'commonholdlaw.MeldLoads', WHERE WHAT IT READS IS OF BULK AT MOST 1048576: true; the input reads as it did. -/
def meldLoadsUptoRow : OpenClaim := { program := "ytfkdldaadjhcfaa", sum := "beec97b521be8d5b0aa306405b6e19b11447a175c63889b473f1d0285e81f276", func := "commonhold/commonholdlaw.MeldLoads", spec := "meldLoads", inPlace := ["internal/bytealg.Compare"], unfollowed := true, recurses := true, apart := false, narrowed := true }
def MeldLoadsUptoSaid : Prop := meldLoadsUptoRow.holds Try.pinned (OpenSpec.upto meldLoadsSpec)

/-- 'commonholdlaw.ExecApplies', WHERE WHAT IT READS IS OF BULK AT MOST 1048576: true; the input reads as it did. -/
def execAppliesUptoRow : OpenClaim := { program := "ytfkdldaadjhcfaa", sum := "beec97b521be8d5b0aa306405b6e19b11447a175c63889b473f1d0285e81f276", func := "commonhold/commonholdlaw.ExecApplies", spec := "execApplies", inPlace := ["internal/bytealg.Compare", "slices.overlaps[commonhold/api.Entry]"], unfollowed := true, recurses := true, apart := false, narrowed := true }
def ExecAppliesUptoSaid : Prop := execAppliesUptoRow.holds Try.pinned (OpenSpec.upto execAppliesSpec)

/-- 'commonholdlaw.UnitPlays', WHERE WHAT IT READS IS OF BULK AT MOST 1048576: true; the input reads as it did. -/
def unitPlaysUptoRow : OpenClaim := { program := "ytfkdldaadjhcfaa", sum := "beec97b521be8d5b0aa306405b6e19b11447a175c63889b473f1d0285e81f276", func := "commonhold/commonholdlaw.UnitPlays", spec := "unitPlays", unfollowed := true, recurses := true, apart := false, narrowed := true }
def UnitPlaysUptoSaid : Prop := unitPlaysUptoRow.holds Try.pinned (OpenSpec.upto unitPlaysSpec)

/-- 'commonholdlaw.BallotPlays', WHERE WHAT IT READS IS OF BULK AT MOST 1048576: true; the input reads as it did. -/
def ballotPlaysUptoRow : OpenClaim := { program := "ytfkdldaadjhcfaa", sum := "beec97b521be8d5b0aa306405b6e19b11447a175c63889b473f1d0285e81f276", func := "commonhold/commonholdlaw.BallotPlays", spec := "ballotPlays", apart := false, narrowed := true }
def BallotPlaysUptoSaid : Prop := ballotPlaysUptoRow.holds Try.pinned (OpenSpec.upto ballotPlaysSpec)

end Rows
end Go.Proofs.Ytfkdldaadjhcfaa
