/-
  A closed fact on the translation that the row of PipelinePasses asks: that what it comes to may call itself. No condition.
-/
import Derived.Test.YtbfllilninhbfaaGreatDoorRows
import Derived.JoinedCond
namespace Go.Proofs.YtbfllilninhbfaaGreatDoor.Passes
open Go
theorem fact_recurses : (Rows.pipelinePassesRow.recurses == Tryz.pinned.checked.prog.recurses 3) = true := by kernel_rfl
end Go.Proofs.YtbfllilninhbfaaGreatDoor.Passes
