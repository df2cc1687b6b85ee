/-
  No cell of these rows narrows 'for every input' (looked for: loops, veiled, ifaces, maps, wideKeys, modest, calm, conditions, laid).
  DERIVED. THE GIVEN ROWS OF THIS SEAT. 11 by the template 'for every input the law returns true; each argument reads behind the call as it read before'; 0 by the template 'total and deterministic' (their statements: YtaadljjfckhinaaTotals.lean).
  GIVEN WITH THE SEED: the statements are not yours to turn. If you find one false, say at which input.
  Laid BY PROGRAM, IN A SANDBOX (cutbox-rows.mjs): the forced cells as the released guide's own fill.sh prints them over the translation 1b304d54b7efb8ac… (all of the seat's roots in one cut). By AI agents, Wed Nov 11 2026. No macro, syntax, notation, axiom, sorry.
-/
import Derived.Test.YtaadljjfckhinaaChecked
import GoSem.Claim
import GoSem.ClaimJoined
import GoSem.ClaimMapViews
import Derived.JoinedTies
import Derived.KernelRfl
namespace Go.Proofs.Ytaadljjfckhinaa
/- THE CELL 'sum', in the pinned program and in every row, IS THE sha256 OF THE DUMP (.gsa) THAT YtaadljjfckhinaaProg.lean LOADS. Nothing in Lean hashes anything: it is a label: what it is worth is what the hold of that sum in a sandbox is worth. -/
noncomputable def Try.pinned : Pinned := { name := "ytaadljjfckhinaa", sum := "1b304d54b7efb8ac22eda9510b3bced349a59090accb7cb5d251ce2bff527068", checked := Try.checked }
namespace Rows
def none {H : Type} : Left H := { results := [], args := [] }

/-- 'commonholdlaw.Names': WHATEVER THE INPUT: true; the input reads as it did. -/
def namesSpec : ChangeSpec := { name := "names", fn := fun _ => fun
  | [] => { results := [.lit (.bool true)], args := [] }
  | _ => none }
def namesRow : OpenClaim := { program := "ytaadljjfckhinaa", sum := "1b304d54b7efb8ac22eda9510b3bced349a59090accb7cb5d251ce2bff527068", func := "commonhold/commonholdlaw.Names", spec := "names", apart := false }
def NamesSaid : Prop := namesRow.holds Try.pinned (OpenSpec.ofChange namesSpec)

/-- ITS FALSE NEIGHBOUR: 'it returns false'. Refute it at one input. -/
def namesWrong : ChangeSpec := { name := "names", fn := fun _ => fun
  | [] => { results := [.lit (.bool false)], args := [] }
  | _ => none }
def NamesWrongFalsely : Prop := namesRow.holds Try.pinned (OpenSpec.ofChange namesWrong)

/-- 'commonholdlaw.NumMods': WHATEVER THE INPUT: true; the input reads as it did. -/
def numModsSpec : ChangeSpec := { name := "numMods", fn := fun _ => fun
  | [d1, d2] => { results := [.lit (.bool true)], args := [d1, d2] }
  | _ => none }
def numModsRow : OpenClaim := { program := "ytaadljjfckhinaa", sum := "1b304d54b7efb8ac22eda9510b3bced349a59090accb7cb5d251ce2bff527068", func := "commonhold/commonholdlaw.NumMods", spec := "numMods", apart := false }
def NumModsSaid : Prop := numModsRow.holds Try.pinned (OpenSpec.ofChange numModsSpec)

/-- ITS FALSE NEIGHBOUR: 'it returns false'. Refute it at one input. -/
def numModsWrong : ChangeSpec := { name := "numMods", fn := fun _ => fun
  | [d1, d2] => { results := [.lit (.bool false)], args := [d1, d2] }
  | _ => none }
def NumModsWrongFalsely : Prop := numModsRow.holds Try.pinned (OpenSpec.ofChange numModsWrong)

/-- 'commonholdlaw.NumAdds': WHATEVER THE INPUT: true; the input reads as it did. -/
def numAddsSpec : ChangeSpec := { name := "numAdds", fn := fun _ => fun
  | [d1, d2] => { results := [.lit (.bool true)], args := [d1, d2] }
  | _ => none }
def numAddsRow : OpenClaim := { program := "ytaadljjfckhinaa", sum := "1b304d54b7efb8ac22eda9510b3bced349a59090accb7cb5d251ce2bff527068", func := "commonhold/commonholdlaw.NumAdds", spec := "numAdds", apart := false }
def NumAddsSaid : Prop := numAddsRow.holds Try.pinned (OpenSpec.ofChange numAddsSpec)

/-- ITS FALSE NEIGHBOUR: 'it returns false'. Refute it at one input. -/
def numAddsWrong : ChangeSpec := { name := "numAdds", fn := fun _ => fun
  | [d1, d2] => { results := [.lit (.bool false)], args := [d1, d2] }
  | _ => none }
def NumAddsWrongFalsely : Prop := numAddsRow.holds Try.pinned (OpenSpec.ofChange numAddsWrong)

/-- 'commonholdlaw.NumSubs': WHATEVER THE INPUT: true; the input reads as it did. -/
def numSubsSpec : ChangeSpec := { name := "numSubs", fn := fun _ => fun
  | [d1, d2] => { results := [.lit (.bool true)], args := [d1, d2] }
  | _ => none }
def numSubsRow : OpenClaim := { program := "ytaadljjfckhinaa", sum := "1b304d54b7efb8ac22eda9510b3bced349a59090accb7cb5d251ce2bff527068", func := "commonhold/commonholdlaw.NumSubs", spec := "numSubs", apart := false }
def NumSubsSaid : Prop := numSubsRow.holds Try.pinned (OpenSpec.ofChange numSubsSpec)

/-- ITS FALSE NEIGHBOUR: 'it returns false'. Refute it at one input. -/
def numSubsWrong : ChangeSpec := { name := "numSubs", fn := fun _ => fun
  | [d1, d2] => { results := [.lit (.bool false)], args := [d1, d2] }
  | _ => none }
def NumSubsWrongFalsely : Prop := numSubsRow.holds Try.pinned (OpenSpec.ofChange numSubsWrong)

/-- 'commonholdlaw.NumNegs': WHATEVER THE INPUT: true; the input reads as it did. -/
def numNegsSpec : ChangeSpec := { name := "numNegs", fn := fun _ => fun
  | [d] => { results := [.lit (.bool true)], args := [d] }
  | _ => none }
def numNegsRow : OpenClaim := { program := "ytaadljjfckhinaa", sum := "1b304d54b7efb8ac22eda9510b3bced349a59090accb7cb5d251ce2bff527068", func := "commonhold/commonholdlaw.NumNegs", spec := "numNegs", apart := false }
def NumNegsSaid : Prop := numNegsRow.holds Try.pinned (OpenSpec.ofChange numNegsSpec)

/-- ITS FALSE NEIGHBOUR: 'it returns false'. Refute it at one input. -/
def numNegsWrong : ChangeSpec := { name := "numNegs", fn := fun _ => fun
  | [d] => { results := [.lit (.bool false)], args := [d] }
  | _ => none }
def NumNegsWrongFalsely : Prop := numNegsRow.holds Try.pinned (OpenSpec.ofChange numNegsWrong)

/-- 'commonholdlaw.NumDivs': WHATEVER THE INPUT: true; the input reads as it did. -/
def numDivsSpec : ChangeSpec := { name := "numDivs", fn := fun _ => fun
  | [d1, d2] => { results := [.lit (.bool true)], args := [d1, d2] }
  | _ => none }
def numDivsRow : OpenClaim := { program := "ytaadljjfckhinaa", sum := "1b304d54b7efb8ac22eda9510b3bced349a59090accb7cb5d251ce2bff527068", func := "commonhold/commonholdlaw.NumDivs", spec := "numDivs", apart := false }
def NumDivsSaid : Prop := numDivsRow.holds Try.pinned (OpenSpec.ofChange numDivsSpec)

/-- ITS FALSE NEIGHBOUR: 'it returns false'. Refute it at one input. -/
def numDivsWrong : ChangeSpec := { name := "numDivs", fn := fun _ => fun
  | [d1, d2] => { results := [.lit (.bool false)], args := [d1, d2] }
  | _ => none }
def NumDivsWrongFalsely : Prop := numDivsRow.holds Try.pinned (OpenSpec.ofChange numDivsWrong)

/-- 'commonholdlaw.NumMuls': WHATEVER THE INPUT: true; the input reads as it did. -/
def numMulsSpec : ChangeSpec := { name := "numMuls", fn := fun _ => fun
  | [d1, d2] => { results := [.lit (.bool true)], args := [d1, d2] }
  | _ => none }
def numMulsRow : OpenClaim := { program := "ytaadljjfckhinaa", sum := "1b304d54b7efb8ac22eda9510b3bced349a59090accb7cb5d251ce2bff527068", func := "commonhold/commonholdlaw.NumMuls", spec := "numMuls", apart := false }
def NumMulsSaid : Prop := numMulsRow.holds Try.pinned (OpenSpec.ofChange numMulsSpec)

/-- ITS FALSE NEIGHBOUR: 'it returns false'. Refute it at one input. -/
def numMulsWrong : ChangeSpec := { name := "numMuls", fn := fun _ => fun
  | [d1, d2] => { results := [.lit (.bool false)], args := [d1, d2] }
  | _ => none }
def NumMulsWrongFalsely : Prop := numMulsRow.holds Try.pinned (OpenSpec.ofChange numMulsWrong)

/-- 'commonholdlaw.ValueNots': WHATEVER THE INPUT: true; the input reads as it did. -/
def valueNotsSpec : ChangeSpec := { name := "valueNots", fn := fun _ => fun
  | [d] => { results := [.lit (.bool true)], args := [d] }
  | _ => none }
def valueNotsRow : OpenClaim := { program := "ytaadljjfckhinaa", sum := "1b304d54b7efb8ac22eda9510b3bced349a59090accb7cb5d251ce2bff527068", func := "commonhold/commonholdlaw.ValueNots", spec := "valueNots", apart := false }
def ValueNotsSaid : Prop := valueNotsRow.holds Try.pinned (OpenSpec.ofChange valueNotsSpec)

/-- ITS FALSE NEIGHBOUR: 'it returns false'. Refute it at one input. -/
def valueNotsWrong : ChangeSpec := { name := "valueNots", fn := fun _ => fun
  | [d] => { results := [.lit (.bool false)], args := [d] }
  | _ => none }
def ValueNotsWrongFalsely : Prop := valueNotsRow.holds Try.pinned (OpenSpec.ofChange valueNotsWrong)

/-- 'commonholdlaw.ValueOfs': WHATEVER THE INPUT: true; the input reads as it did. -/
def valueOfsSpec : ChangeSpec := { name := "valueOfs", fn := fun _ => fun
  | [d] => { results := [.lit (.bool true)], args := [d] }
  | _ => none }
def valueOfsRow : OpenClaim := { program := "ytaadljjfckhinaa", sum := "1b304d54b7efb8ac22eda9510b3bced349a59090accb7cb5d251ce2bff527068", func := "commonhold/commonholdlaw.ValueOfs", spec := "valueOfs", apart := false }
def ValueOfsSaid : Prop := valueOfsRow.holds Try.pinned (OpenSpec.ofChange valueOfsSpec)

/-- ITS FALSE NEIGHBOUR: 'it returns false'. Refute it at one input. -/
def valueOfsWrong : ChangeSpec := { name := "valueOfs", fn := fun _ => fun
  | [d] => { results := [.lit (.bool false)], args := [d] }
  | _ => none }
def ValueOfsWrongFalsely : Prop := valueOfsRow.holds Try.pinned (OpenSpec.ofChange valueOfsWrong)

/-- 'commonholdlaw.ValueAnds': WHATEVER THE INPUT: true; the input reads as it did. -/
def valueAndsSpec : ChangeSpec := { name := "valueAnds", fn := fun _ => fun
  | [d] => { results := [.lit (.bool true)], args := [d] }
  | _ => none }
def valueAndsRow : OpenClaim := { program := "ytaadljjfckhinaa", sum := "1b304d54b7efb8ac22eda9510b3bced349a59090accb7cb5d251ce2bff527068", func := "commonhold/commonholdlaw.ValueAnds", spec := "valueAnds", unfollowed := true, recurses := true, apart := false }
def ValueAndsSaid : Prop := valueAndsRow.holds Try.pinned (OpenSpec.ofChange valueAndsSpec)

/-- ITS FALSE NEIGHBOUR: 'it returns false'. Refute it at one input. -/
def valueAndsWrong : ChangeSpec := { name := "valueAnds", fn := fun _ => fun
  | [d] => { results := [.lit (.bool false)], args := [d] }
  | _ => none }
def ValueAndsWrongFalsely : Prop := valueAndsRow.holds Try.pinned (OpenSpec.ofChange valueAndsWrong)

/-- 'commonholdlaw.ValueOrs': WHATEVER THE INPUT: true; the input reads as it did. -/
def valueOrsSpec : ChangeSpec := { name := "valueOrs", fn := fun _ => fun
  | [d] => { results := [.lit (.bool true)], args := [d] }
  | _ => none }
def valueOrsRow : OpenClaim := { program := "ytaadljjfckhinaa", sum := "1b304d54b7efb8ac22eda9510b3bced349a59090accb7cb5d251ce2bff527068", func := "commonhold/commonholdlaw.ValueOrs", spec := "valueOrs", unfollowed := true, recurses := true, apart := false }
def ValueOrsSaid : Prop := valueOrsRow.holds Try.pinned (OpenSpec.ofChange valueOrsSpec)

/-- ITS FALSE NEIGHBOUR: 'it returns false'. Refute it at one input. -/
def valueOrsWrong : ChangeSpec := { name := "valueOrs", fn := fun _ => fun
  | [d] => { results := [.lit (.bool false)], args := [d] }
  | _ => none }
def ValueOrsWrongFalsely : Prop := valueOrsRow.holds Try.pinned (OpenSpec.ofChange valueOrsWrong)

/- THE SECOND FORM. 'bulk': how many values and letters a reading holds, each counted each time it is reached (what is shared counts as often as it is met; a slice's spare places count too). A statement '..UptoSaid' is the law's where the arguments, and the package variables that the reading takes, are together of bulk at most 1048576: NARROWER than '..Said'. Prove '..Said' where nothing that the law and all that it calls make is longer than what came in: it says more and counts as full. Else prove '..UptoSaid'. A law counts once. -/
mutual
def uptoBulk {H : Type} : DataW H → Nat
  | .lit (.string bytes) => bytes.length + 1
  | .lit _ => 1
  | .nil => 1
  | .ptr d => uptoBulk d + 1
  | .slice elems spare => uptoBulkAll elems + uptoBulkAll spare + 1
  | .agg parts => uptoBulkAll parts + 1
  | .iface _ d => uptoBulk d + 1
  | .map entries => uptoBulkEntries entries + 1
  | .held _ => 1
def uptoBulkAll {H : Type} : List (DataW H) → Nat
  | [] => 0
  | d :: r => uptoBulk d + uptoBulkAll r
def uptoBulkEntries {H : Type} : List (Lit × DataW H) → Nat
  | [] => 0
  | x :: r => uptoBulkEntry x + uptoBulkEntries r
def uptoBulkEntry {H : Type} : Lit × DataW H → Nat
  | (.string bytes, d) => bytes.length + uptoBulk d + 1
  | (_, d) => uptoBulk d + 1
 end
def uptoSmall : (H : Type) → List (DataW H) → Bool := fun _ ds => decide (uptoBulkAll ds ≤ 1048576)
def OpenSpec.upto (s : _root_.Go.ChangeSpec) : _root_.Go.OpenSpec := { _root_.Go.OpenSpec.ofChange s with cond := some uptoSmall }

/-- 'commonholdlaw.Names', WHERE WHAT IT READS IS OF BULK AT MOST 1048576: true; the input reads as it did. -/
def namesUptoRow : OpenClaim := { program := "ytaadljjfckhinaa", sum := "1b304d54b7efb8ac22eda9510b3bced349a59090accb7cb5d251ce2bff527068", func := "commonhold/commonholdlaw.Names", spec := "names", apart := false, narrowed := true }
def NamesUptoSaid : Prop := namesUptoRow.holds Try.pinned (OpenSpec.upto namesSpec)

/-- 'commonholdlaw.NumMods', WHERE WHAT IT READS IS OF BULK AT MOST 1048576: true; the input reads as it did. -/
def numModsUptoRow : OpenClaim := { program := "ytaadljjfckhinaa", sum := "1b304d54b7efb8ac22eda9510b3bced349a59090accb7cb5d251ce2bff527068", func := "commonhold/commonholdlaw.NumMods", spec := "numMods", apart := false, narrowed := true }
def NumModsUptoSaid : Prop := numModsUptoRow.holds Try.pinned (OpenSpec.upto numModsSpec)

/-- 'commonholdlaw.NumAdds', WHERE WHAT IT READS IS OF BULK AT MOST 1048576: true; the input reads as it did. -/
def numAddsUptoRow : OpenClaim := { program := "ytaadljjfckhinaa", sum := "1b304d54b7efb8ac22eda9510b3bced349a59090accb7cb5d251ce2bff527068", func := "commonhold/commonholdlaw.NumAdds", spec := "numAdds", apart := false, narrowed := true }
def NumAddsUptoSaid : Prop := numAddsUptoRow.holds Try.pinned (OpenSpec.upto numAddsSpec)

/-- 'commonholdlaw.NumSubs', WHERE WHAT IT READS IS OF BULK AT MOST 1048576: true; the input reads as it did. -/
def numSubsUptoRow : OpenClaim := { program := "ytaadljjfckhinaa", sum := "1b304d54b7efb8ac22eda9510b3bced349a59090accb7cb5d251ce2bff527068", func := "commonhold/commonholdlaw.NumSubs", spec := "numSubs", apart := false, narrowed := true }
def NumSubsUptoSaid : Prop := numSubsUptoRow.holds Try.pinned (OpenSpec.upto numSubsSpec)

/-- 'commonholdlaw.NumNegs', WHERE WHAT IT READS IS OF BULK AT MOST 1048576: true; the input reads as it did. -/
def numNegsUptoRow : OpenClaim := { program := "ytaadljjfckhinaa", sum := "1b304d54b7efb8ac22eda9510b3bced349a59090accb7cb5d251ce2bff527068", func := "commonhold/commonholdlaw.NumNegs", spec := "numNegs", apart := false, narrowed := true }
def NumNegsUptoSaid : Prop := numNegsUptoRow.holds Try.pinned (OpenSpec.upto numNegsSpec)

/-- 'commonholdlaw.NumDivs', WHERE WHAT IT READS IS OF BULK AT MOST 1048576: true; the input reads as it did. -/
def numDivsUptoRow : OpenClaim := { program := "ytaadljjfckhinaa", sum := "1b304d54b7efb8ac22eda9510b3bced349a59090accb7cb5d251ce2bff527068", func := "commonhold/commonholdlaw.NumDivs", spec := "numDivs", apart := false, narrowed := true }
def NumDivsUptoSaid : Prop := numDivsUptoRow.holds Try.pinned (OpenSpec.upto numDivsSpec)

/-- 'commonholdlaw.NumMuls', WHERE WHAT IT READS IS OF BULK AT MOST 1048576: true; the input reads as it did. -/
def numMulsUptoRow : OpenClaim := { program := "ytaadljjfckhinaa", sum := "1b304d54b7efb8ac22eda9510b3bced349a59090accb7cb5d251ce2bff527068", func := "commonhold/commonholdlaw.NumMuls", spec := "numMuls", apart := false, narrowed := true }
def NumMulsUptoSaid : Prop := numMulsUptoRow.holds Try.pinned (OpenSpec.upto numMulsSpec)

/-- 'commonholdlaw.ValueNots', WHERE WHAT IT READS IS OF BULK AT MOST 1048576: true; the input reads as it did. -/
def valueNotsUptoRow : OpenClaim := { program := "ytaadljjfckhinaa", sum := "1b304d54b7efb8ac22eda9510b3bced349a59090accb7cb5d251ce2bff527068", func := "commonhold/commonholdlaw.ValueNots", spec := "valueNots", apart := false, narrowed := true }
def ValueNotsUptoSaid : Prop := valueNotsUptoRow.holds Try.pinned (OpenSpec.upto valueNotsSpec)

/-- 'commonholdlaw.ValueOfs', WHERE WHAT IT READS IS OF BULK AT MOST 1048576: true; the input reads as it did. -/
def valueOfsUptoRow : OpenClaim := { program := "ytaadljjfckhinaa", sum := "1b304d54b7efb8ac22eda9510b3bced349a59090accb7cb5d251ce2bff527068", func := "commonhold/commonholdlaw.ValueOfs", spec := "valueOfs", apart := false, narrowed := true }
def ValueOfsUptoSaid : Prop := valueOfsUptoRow.holds Try.pinned (OpenSpec.upto valueOfsSpec)

/-- 'commonholdlaw.ValueAnds', WHERE WHAT IT READS IS OF BULK AT MOST 1048576: true; the input reads as it did. -/
def valueAndsUptoRow : OpenClaim := { program := "ytaadljjfckhinaa", sum := "1b304d54b7efb8ac22eda9510b3bced349a59090accb7cb5d251ce2bff527068", func := "commonhold/commonholdlaw.ValueAnds", spec := "valueAnds", unfollowed := true, recurses := true, apart := false, narrowed := true }
def ValueAndsUptoSaid : Prop := valueAndsUptoRow.holds Try.pinned (OpenSpec.upto valueAndsSpec)

/-- 'commonholdlaw.ValueOrs', WHERE WHAT IT READS IS OF BULK AT MOST 1048576: true; the input reads as it did. -/
def valueOrsUptoRow : OpenClaim := { program := "ytaadljjfckhinaa", sum := "1b304d54b7efb8ac22eda9510b3bced349a59090accb7cb5d251ce2bff527068", func := "commonhold/commonholdlaw.ValueOrs", spec := "valueOrs", unfollowed := true, recurses := true, apart := false, narrowed := true }
def ValueOrsUptoSaid : Prop := valueOrsUptoRow.holds Try.pinned (OpenSpec.upto valueOrsSpec)

end Rows
end Go.Proofs.Ytaadljjfckhinaa
