/-
  A closed fact on the translation that the row of PipelinePasses asks: which package-level variables it names. No condition.
-/
import Derived.Test.YtbfllilninhbfaaGreatDoorRows
import Derived.JoinedCond
namespace Go.Proofs.YtbfllilninhbfaaGreatDoor.Passes
open Go
theorem fact_named : (Rows.pipelinePassesRow.named == Tryz.pinned.checked.prog.varsNamed 3) = true := by kernel_rfl
end Go.Proofs.YtbfllilninhbfaaGreatDoor.Passes
