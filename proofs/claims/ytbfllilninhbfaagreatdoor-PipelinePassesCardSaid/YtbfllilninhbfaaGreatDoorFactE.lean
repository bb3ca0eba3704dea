/-
  A closed fact on the translation that the row of PipelinePasses asks: that no function starts a goroutine. No condition.
-/
import Derived.Test.YtbfllilninhbfaaGreatDoorRows
import Derived.JoinedCond
import GoSem.ClaimGoes
namespace Go.Proofs.YtbfllilninhbfaaGreatDoor.Passes
open Go
theorem no_go : Tryz.pinned.checked.prog.funcs.any Func.goes = false := by kernel_rfl
theorem goes_no (f : FuncId) : Tryz.pinned.checked.prog.goes f = false := by
  have h : ∀ g : FuncId, (Tryz.pinned.checked.prog.funcs[g]?).any Func.goes = false := by
    intro g
    generalize hg : Tryz.pinned.checked.prog.funcs[g]? = r
    cases r with
    | none => rfl
    | some fn =>
      have h1 := Array.any_eq_false.1 no_go
      obtain ⟨hlt, rfl⟩ := Array.getElem?_eq_some_iff.1 hg
      simpa using h1 g hlt
  unfold Program.goes
  rw [no_go, Bool.and_false, Bool.or_false]
  rw [List.any_eq_false]
  intro g _
  rw [h g]
  simp
theorem goes_from (x : String) : Tryz.pinned.checked.prog.goesFrom x = false := by
  unfold Program.goesFrom
  generalize Tryz.pinned.checked.prog.funcNamed x = r
  cases r with
  | none => rfl
  | some f => rw [Option.any_some]; exact goes_no f
set_option maxRecDepth 100000 in
theorem fact_goes : false = Rows.pipelinePassesRow.goesBy Tryz.pinned.checked.prog := by
  have h : Rows.pipelinePassesRow.goesBy Tryz.pinned.checked.prog = (Tryz.pinned.checked.prog.goesFrom Rows.pipelinePassesRow.func || false) := rfl
  exact ((congrArg (fun b => b || false) (goes_from Rows.pipelinePassesRow.func)).symm).trans h.symm
end Go.Proofs.YtbfllilninhbfaaGreatDoor.Passes
