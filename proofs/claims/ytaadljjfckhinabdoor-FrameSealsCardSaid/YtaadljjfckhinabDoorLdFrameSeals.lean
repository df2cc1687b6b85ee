/- The listed package-level variables read as the row of FrameSeals lists them, in this world or in an elder one that this world has grown out of. No condition. -/
import Derived.Test.YtaadljjfckhinabDoorRows
import Derived.Below
import Derived.RowKit
namespace Go.Proofs.YtaadljjfckhinabDoor.PFrameSeals
open Go Go.RowKit
/-- The world has grown out of one in which the listed variables read as listed. -/
def LD (w : World) : Prop := ∃ L0 : World, laidMetH Tryd.prog Rows.frameSealsRow.laid L0 ∧ Below L0.heap.size L0 w
theorem LD.below {w w' : World} (h : LD w) (hb : Below w.heap.size w w') : LD w' := by
  obtain ⟨L0, h1, h2⟩ := h
  exact ⟨L0, h1, h2.trans (hb.mono h2.size)⟩
theorem LD.in_commonhold_sum_step : ("commonhold/sum.step", Rows.laid_commonhold_sum_step) ∈ Rows.frameSealsRow.laid := .head _
theorem LD.of {w : World} (h : laidMetH Tryd.prog Rows.frameSealsRow.laid w) : LD w := ⟨w, h, Below.refl _ _⟩
end Go.Proofs.YtaadljjfckhinabDoor.PFrameSeals
