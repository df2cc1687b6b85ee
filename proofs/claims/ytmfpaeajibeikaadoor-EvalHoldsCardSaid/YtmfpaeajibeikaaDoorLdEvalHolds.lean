/- The listed package-level variables read as the row of EvalHolds lists them, in this world or in an elder one that this world has grown out of. No condition. -/
import Derived.Test.YtmfpaeajibeikaaDoorRows
import Derived.Below
import Derived.RowKit
namespace Go.Proofs.YtmfpaeajibeikaaDoor.PEvalHolds
open Go Go.RowKit
/-- The world has grown out of one in which the listed variables read as listed. -/
def LD (w : World) : Prop := ∃ L0 : World, laidMetH Tryd.prog Rows.evalHoldsRow.laid L0 ∧ Below L0.heap.size L0 w
theorem LD.below {w w' : World} (h : LD w) (hb : Below w.heap.size w w') : LD w' := by
  obtain ⟨L0, h1, h2⟩ := h
  exact ⟨L0, h1, h2.trans (hb.mono h2.size)⟩
theorem LD.in_unicode_utf8_acceptRanges : ("unicode/utf8.acceptRanges", Rows.laid_unicode_utf8_acceptRanges) ∈ Rows.evalHoldsRow.laid := .head _
theorem LD.in_unicode_utf8_first : ("unicode/utf8.first", Rows.laid_unicode_utf8_first) ∈ Rows.evalHoldsRow.laid := .tail _ (.head _)
theorem LD.of {w : World} (h : laidMetH Tryd.prog Rows.evalHoldsRow.laid w) : LD w := ⟨w, h, Below.refl _ _⟩
end Go.Proofs.YtmfpaeajibeikaaDoor.PEvalHolds
