/-
  A closed fact on the translation that the row of PipelinePasses asks: that not all of what it comes to is followed. No condition.
-/
import Derived.Test.YtbfllilninhbfaaGreatDoorRows
import Derived.JoinedCond
namespace Go.Proofs.YtbfllilninhbfaaGreatDoor.Passes
open Go
theorem fact_unfollowed : (Rows.pipelinePassesRow.unfollowed == Tryz.pinned.checked.prog.unfollowed 3) = true := by kernel_rfl
end Go.Proofs.YtbfllilninhbfaaGreatDoor.Passes
