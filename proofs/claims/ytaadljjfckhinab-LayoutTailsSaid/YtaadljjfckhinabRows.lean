/-
  NARROWER THAN 'FOR EVERY INPUT', by the rows' own cells (each row's printed sentence says how): EvalSplits: loops.
  DERIVED. THE GIVEN ROWS OF THIS SEAT. 7 by the template 'for every input the law returns true; each argument reads behind the call as it read before'; 0 by the template 'total and deterministic' (their statements: YtaadljjfckhinabTotals.lean).
  GIVEN WITH THE SEED: the statements are not yours to turn. If you find one false, say at which input.
  Laid BY PROGRAM, IN A SANDBOX (cutbox-rows.mjs): the forced cells as the released guide's own fill.sh prints them over the translation 2a534c7769ae62ed… (all of the seat's roots in one cut). By AI agents, Wed Nov 11 2026. No macro, syntax, notation, axiom, sorry.
-/
import Derived.Test.YtaadljjfckhinabChecked
import GoSem.Claim
import GoSem.ClaimJoined
import GoSem.ClaimMapViews
import Derived.JoinedTies
import Derived.KernelRfl
namespace Go.Proofs.Ytaadljjfckhinab
/- THE CELL 'sum', in the pinned program and in every row, IS THE sha256 OF THE DUMP (.gsa) THAT YtaadljjfckhinabProg.lean LOADS. Nothing in Lean hashes anything: it is a label: what it is worth is what the hold of that sum in a sandbox is worth. -/
noncomputable def Try.pinned : Pinned := { name := "ytaadljjfckhinab", sum := "2a534c7769ae62ed206a57bd995379a25c8e4965ec617372adb2838f29acce9b", checked := Try.checked }
namespace Rows
def none {H : Type} : Left H := { results := [], args := [] }

/-- 'commonholdlaw.KeyNexts': WHATEVER THE INPUT: true; the input reads as it did. -/
def keyNextsSpec : ChangeSpec := { name := "keyNexts", fn := fun _ => fun
  | [d] => { results := [.lit (.bool true)], args := [d] }
  | _ => none }
def keyNextsRow : OpenClaim := { program := "ytaadljjfckhinab", sum := "2a534c7769ae62ed206a57bd995379a25c8e4965ec617372adb2838f29acce9b", func := "commonhold/commonholdlaw.KeyNexts", spec := "keyNexts", apart := false }
def KeyNextsSaid : Prop := keyNextsRow.holds Try.pinned (OpenSpec.ofChange keyNextsSpec)

/-- ITS FALSE NEIGHBOUR: 'it returns false'. Refute it at one input. -/
def keyNextsWrong : ChangeSpec := { name := "keyNexts", fn := fun _ => fun
  | [d] => { results := [.lit (.bool false)], args := [d] }
  | _ => none }
def KeyNextsWrongFalsely : Prop := keyNextsRow.holds Try.pinned (OpenSpec.ofChange keyNextsWrong)

/-- 'commonholdlaw.IntentMays': WHATEVER THE INPUT: true; the input reads as it did. -/
def intentMaysSpec : ChangeSpec := { name := "intentMays", fn := fun _ => fun
  | [d] => { results := [.lit (.bool true)], args := [d] }
  | _ => none }
def intentMaysRow : OpenClaim := { program := "ytaadljjfckhinab", sum := "2a534c7769ae62ed206a57bd995379a25c8e4965ec617372adb2838f29acce9b", func := "commonhold/commonholdlaw.IntentMays", spec := "intentMays", inPlace := ["internal/bytealg.Compare"], apart := false }
def IntentMaysSaid : Prop := intentMaysRow.holds Try.pinned (OpenSpec.ofChange intentMaysSpec)

/-- ITS FALSE NEIGHBOUR: 'it returns false'. Refute it at one input. -/
def intentMaysWrong : ChangeSpec := { name := "intentMays", fn := fun _ => fun
  | [d] => { results := [.lit (.bool false)], args := [d] }
  | _ => none }
def IntentMaysWrongFalsely : Prop := intentMaysRow.holds Try.pinned (OpenSpec.ofChange intentMaysWrong)

/-- 'commonholdlaw.EvalSplits': WHATEVER THE INPUT: true; the input reads as it did. -/
def evalSplitsSpec : ChangeSpec := { name := "evalSplits", fn := fun _ => fun
  | [d] => { results := [.lit (.bool true)], args := [d] }
  | _ => none }
def evalSplitsRow : OpenClaim := { program := "ytaadljjfckhinab", sum := "2a534c7769ae62ed206a57bd995379a25c8e4965ec617372adb2838f29acce9b", func := "commonhold/commonholdlaw.EvalSplits", spec := "evalSplits", unfollowed := true, recurses := true, loops := true, apart := false }
def EvalSplitsSaid : Prop := evalSplitsRow.holds Try.pinned (OpenSpec.ofChange evalSplitsSpec)

/-- ITS FALSE NEIGHBOUR: 'it returns false'. Refute it at one input. -/
def evalSplitsWrong : ChangeSpec := { name := "evalSplits", fn := fun _ => fun
  | [d] => { results := [.lit (.bool false)], args := [d] }
  | _ => none }
def EvalSplitsWrongFalsely : Prop := evalSplitsRow.holds Try.pinned (OpenSpec.ofChange evalSplitsWrong)

/-- 'commonholdlaw.LayoutMays': WHATEVER THE INPUT: true; the input reads as it did. -/
def layoutMaysSpec : ChangeSpec := { name := "layoutMays", fn := fun _ => fun
  | [d] => { results := [.lit (.bool true)], args := [d] }
  | _ => none }
def layoutMaysRow : OpenClaim := { program := "ytaadljjfckhinab", sum := "2a534c7769ae62ed206a57bd995379a25c8e4965ec617372adb2838f29acce9b", func := "commonhold/commonholdlaw.LayoutMays", spec := "layoutMays", unfollowed := true, recurses := true, apart := false }
def LayoutMaysSaid : Prop := layoutMaysRow.holds Try.pinned (OpenSpec.ofChange layoutMaysSpec)

/-- ITS FALSE NEIGHBOUR: 'it returns false'. Refute it at one input. -/
def layoutMaysWrong : ChangeSpec := { name := "layoutMays", fn := fun _ => fun
  | [d] => { results := [.lit (.bool false)], args := [d] }
  | _ => none }
def LayoutMaysWrongFalsely : Prop := layoutMaysRow.holds Try.pinned (OpenSpec.ofChange layoutMaysWrong)

/-- 'commonholdlaw.LayoutPlaces': WHATEVER THE INPUT: true; the input reads as it did. -/
def layoutPlacesSpec : ChangeSpec := { name := "layoutPlaces", fn := fun _ => fun
  | [d1, d2] => { results := [.lit (.bool true)], args := [d1, d2] }
  | _ => none }
def layoutPlacesRow : OpenClaim := { program := "ytaadljjfckhinab", sum := "2a534c7769ae62ed206a57bd995379a25c8e4965ec617372adb2838f29acce9b", func := "commonhold/commonholdlaw.LayoutPlaces", spec := "layoutPlaces", unfollowed := true, recurses := true, apart := false }
def LayoutPlacesSaid : Prop := layoutPlacesRow.holds Try.pinned (OpenSpec.ofChange layoutPlacesSpec)

/-- ITS FALSE NEIGHBOUR: 'it returns false'. Refute it at one input. -/
def layoutPlacesWrong : ChangeSpec := { name := "layoutPlaces", fn := fun _ => fun
  | [d1, d2] => { results := [.lit (.bool false)], args := [d1, d2] }
  | _ => none }
def LayoutPlacesWrongFalsely : Prop := layoutPlacesRow.holds Try.pinned (OpenSpec.ofChange layoutPlacesWrong)

/-- 'commonholdlaw.LayoutPoses': WHATEVER THE INPUT: true; the input reads as it did. -/
def layoutPosesSpec : ChangeSpec := { name := "layoutPoses", fn := fun _ => fun
  | [d1, d2, d3] => { results := [.lit (.bool true)], args := [d1, d2, d3] }
  | _ => none }
def layoutPosesRow : OpenClaim := { program := "ytaadljjfckhinab", sum := "2a534c7769ae62ed206a57bd995379a25c8e4965ec617372adb2838f29acce9b", func := "commonhold/commonholdlaw.LayoutPoses", spec := "layoutPoses", unfollowed := true, recurses := true, apart := false }
def LayoutPosesSaid : Prop := layoutPosesRow.holds Try.pinned (OpenSpec.ofChange layoutPosesSpec)

/-- ITS FALSE NEIGHBOUR: 'it returns false'. Refute it at one input. -/
def layoutPosesWrong : ChangeSpec := { name := "layoutPoses", fn := fun _ => fun
  | [d1, d2, d3] => { results := [.lit (.bool false)], args := [d1, d2, d3] }
  | _ => none }
def LayoutPosesWrongFalsely : Prop := layoutPosesRow.holds Try.pinned (OpenSpec.ofChange layoutPosesWrong)

/-- 'commonholdlaw.LayoutTails': WHATEVER THE INPUT: true; the input reads as it did. -/
def layoutTailsSpec : ChangeSpec := { name := "layoutTails", fn := fun _ => fun
  | [d1, d2] => { results := [.lit (.bool true)], args := [d1, d2] }
  | _ => none }
def layoutTailsRow : OpenClaim := { program := "ytaadljjfckhinab", sum := "2a534c7769ae62ed206a57bd995379a25c8e4965ec617372adb2838f29acce9b", func := "commonhold/commonholdlaw.LayoutTails", spec := "layoutTails", unfollowed := true, recurses := true, apart := false }
def LayoutTailsSaid : Prop := layoutTailsRow.holds Try.pinned (OpenSpec.ofChange layoutTailsSpec)

/-- ITS FALSE NEIGHBOUR: 'it returns false'. Refute it at one input. -/
def layoutTailsWrong : ChangeSpec := { name := "layoutTails", fn := fun _ => fun
  | [d1, d2] => { results := [.lit (.bool false)], args := [d1, d2] }
  | _ => none }
def LayoutTailsWrongFalsely : Prop := layoutTailsRow.holds Try.pinned (OpenSpec.ofChange layoutTailsWrong)

/- THE SECOND FORM. 'bulk': how many values and letters a reading holds, each counted each time it is reached (what is shared counts as often as it is met; a slice's spare places count too). A statement '..UptoSaid' is the law's where the arguments, and the package variables that the reading takes, are together of bulk at most 1048576: NARROWER than '..Said'. Prove '..Said' where nothing that the law and all that it calls make is longer than what came in: it says more and counts as full. Else prove '..UptoSaid'. A law counts once. -/
mutual
def uptoBulk {H : Type} : DataW H → Nat
  | .lit (.string bytes) => bytes.length + 1
  | .lit _ => 1
  | .nil => 1
  | .ptr d => uptoBulk d + 1
  | .slice elems spare => uptoBulkAll elems + uptoBulkAll spare + 1
  | .agg parts => uptoBulkAll parts + 1
  | .iface _ d => uptoBulk d + 1
  | .map entries => uptoBulkEntries entries + 1
  | .held _ => 1
def uptoBulkAll {H : Type} : List (DataW H) → Nat
  | [] => 0
  | d :: r => uptoBulk d + uptoBulkAll r
def uptoBulkEntries {H : Type} : List (Lit × DataW H) → Nat
  | [] => 0
  | x :: r => uptoBulkEntry x + uptoBulkEntries r
def uptoBulkEntry {H : Type} : Lit × DataW H → Nat
  | (.string bytes, d) => bytes.length + uptoBulk d + 1
  | (_, d) => uptoBulk d + 1
 end
def uptoSmall : (H : Type) → List (DataW H) → Bool := fun _ ds => decide (uptoBulkAll ds ≤ 1048576)
def OpenSpec.upto (s : _root_.Go.ChangeSpec) : _root_.Go.OpenSpec := { _root_.Go.OpenSpec.ofChange s with cond := some uptoSmall }

/-- 'commonholdlaw.KeyNexts', WHERE WHAT IT READS IS OF BULK AT MOST 1048576: true; the input reads as it did. -/
def keyNextsUptoRow : OpenClaim := { program := "ytaadljjfckhinab", sum := "2a534c7769ae62ed206a57bd995379a25c8e4965ec617372adb2838f29acce9b", func := "commonhold/commonholdlaw.KeyNexts", spec := "keyNexts", apart := false, narrowed := true }
def KeyNextsUptoSaid : Prop := keyNextsUptoRow.holds Try.pinned (OpenSpec.upto keyNextsSpec)

/-- 'commonholdlaw.IntentMays', WHERE WHAT IT READS IS OF BULK AT MOST 1048576: true; the input reads as it did. -/
def intentMaysUptoRow : OpenClaim := { program := "ytaadljjfckhinab", sum := "2a534c7769ae62ed206a57bd995379a25c8e4965ec617372adb2838f29acce9b", func := "commonhold/commonholdlaw.IntentMays", spec := "intentMays", inPlace := ["internal/bytealg.Compare"], apart := false, narrowed := true }
def IntentMaysUptoSaid : Prop := intentMaysUptoRow.holds Try.pinned (OpenSpec.upto intentMaysSpec)

/-- 'commonholdlaw.EvalSplits', WHERE WHAT IT READS IS OF BULK AT MOST 1048576: true; the input reads as it did. -/
def evalSplitsUptoRow : OpenClaim := { program := "ytaadljjfckhinab", sum := "2a534c7769ae62ed206a57bd995379a25c8e4965ec617372adb2838f29acce9b", func := "commonhold/commonholdlaw.EvalSplits", spec := "evalSplits", unfollowed := true, recurses := true, loops := true, apart := false, narrowed := true }
def EvalSplitsUptoSaid : Prop := evalSplitsUptoRow.holds Try.pinned (OpenSpec.upto evalSplitsSpec)

/-- 'commonholdlaw.LayoutMays', WHERE WHAT IT READS IS OF BULK AT MOST 1048576: true; the input reads as it did. -/
def layoutMaysUptoRow : OpenClaim := { program := "ytaadljjfckhinab", sum := "2a534c7769ae62ed206a57bd995379a25c8e4965ec617372adb2838f29acce9b", func := "commonhold/commonholdlaw.LayoutMays", spec := "layoutMays", unfollowed := true, recurses := true, apart := false, narrowed := true }
def LayoutMaysUptoSaid : Prop := layoutMaysUptoRow.holds Try.pinned (OpenSpec.upto layoutMaysSpec)

/-- 'commonholdlaw.LayoutPlaces', WHERE WHAT IT READS IS OF BULK AT MOST 1048576: true; the input reads as it did. -/
def layoutPlacesUptoRow : OpenClaim := { program := "ytaadljjfckhinab", sum := "2a534c7769ae62ed206a57bd995379a25c8e4965ec617372adb2838f29acce9b", func := "commonhold/commonholdlaw.LayoutPlaces", spec := "layoutPlaces", unfollowed := true, recurses := true, apart := false, narrowed := true }
def LayoutPlacesUptoSaid : Prop := layoutPlacesUptoRow.holds Try.pinned (OpenSpec.upto layoutPlacesSpec)

/-- 'commonholdlaw.LayoutPoses', WHERE WHAT IT READS IS OF BULK AT MOST 1048576: true; the input reads as it did. -/
def layoutPosesUptoRow : OpenClaim := { program := "ytaadljjfckhinab", sum := "2a534c7769ae62ed206a57bd995379a25c8e4965ec617372adb2838f29acce9b", func := "commonhold/commonholdlaw.LayoutPoses", spec := "layoutPoses", unfollowed := true, recurses := true, apart := false, narrowed := true }
def LayoutPosesUptoSaid : Prop := layoutPosesUptoRow.holds Try.pinned (OpenSpec.upto layoutPosesSpec)

/-- 'commonholdlaw.LayoutTails', WHERE WHAT IT READS IS OF BULK AT MOST 1048576: true; the input reads as it did. -/
def layoutTailsUptoRow : OpenClaim := { program := "ytaadljjfckhinab", sum := "2a534c7769ae62ed206a57bd995379a25c8e4965ec617372adb2838f29acce9b", func := "commonhold/commonholdlaw.LayoutTails", spec := "layoutTails", unfollowed := true, recurses := true, apart := false, narrowed := true }
def LayoutTailsUptoSaid : Prop := layoutTailsUptoRow.holds Try.pinned (OpenSpec.upto layoutTailsSpec)

end Rows
end Go.Proofs.Ytaadljjfckhinab
