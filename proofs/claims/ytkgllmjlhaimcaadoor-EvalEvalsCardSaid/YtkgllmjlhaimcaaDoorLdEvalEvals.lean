/- The listed package-level variables read as the row of EvalEvals lists them, in this world or in an elder one that this world has grown out of. No condition. -/
import Derived.Test.YtkgllmjlhaimcaaDoorRows
import Derived.Below
import Derived.RowKit
namespace Go.Proofs.YtkgllmjlhaimcaaDoor.PEvalEvals
open Go Go.RowKit
/-- The world has grown out of one in which the listed variables read as listed. -/
def LD (w : World) : Prop := ∃ L0 : World, laidMetH Tryd.prog Rows.evalEvalsRow.laid L0 ∧ Below L0.heap.size L0 w
theorem LD.below {w w' : World} (h : LD w) (hb : Below w.heap.size w w') : LD w' := by
  obtain ⟨L0, h1, h2⟩ := h
  exact ⟨L0, h1, h2.trans (hb.mono h2.size)⟩
theorem LD.in_unicode_utf8_acceptRanges : ("unicode/utf8.acceptRanges", Rows.laid_unicode_utf8_acceptRanges) ∈ Rows.evalEvalsRow.laid := .head _
theorem LD.in_unicode_utf8_first : ("unicode/utf8.first", Rows.laid_unicode_utf8_first) ∈ Rows.evalEvalsRow.laid := .tail _ (.head _)
theorem LD.of {w : World} (h : laidMetH Tryd.prog Rows.evalEvalsRow.laid w) : LD w := ⟨w, h, Below.refl _ _⟩
end Go.Proofs.YtkgllmjlhaimcaaDoor.PEvalEvals
