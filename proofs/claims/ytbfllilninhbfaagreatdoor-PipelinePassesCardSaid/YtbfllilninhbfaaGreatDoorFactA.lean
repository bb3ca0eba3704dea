/-
  A closed fact on the translation that the row of PipelinePasses asks: what its call comes to by name, in place. No condition.
-/
import Derived.Test.YtbfllilninhbfaaGreatDoorRows
import Derived.JoinedCond
namespace Go.Proofs.YtbfllilninhbfaaGreatDoor.Passes
open Go
theorem fact_inPlace : (Rows.pipelinePassesRow.inPlace == Tryz.pinned.checked.prog.inPlace 3) = true := by kernel_rfl
end Go.Proofs.YtbfllilninhbfaaGreatDoor.Passes
