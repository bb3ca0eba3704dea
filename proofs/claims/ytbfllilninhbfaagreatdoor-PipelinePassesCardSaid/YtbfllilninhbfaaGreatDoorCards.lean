/-
  DERIVED. GIVEN WITH THE SEED: THE CARDS: each row of YtbfllilninhbfaaGreatDoorRows.lean that lists a variable, with what it lists TIED to the program's text (the seventh form; the later family's looks); each row that meets fmt, with fmt's text TOLD by the authors' own Lean function (tested against real Go, not proved from fmt's source: count such statements apart). THE CARD IS WHAT COUNTS. Prove the row's statement (the work); the ties are given (YtbfllilninhbfaaGreatDoorTie.lean); close each card by the builder's one call (the guide's Derived/Test/ToyasCard.lean, 'card_holds'). Laid BY PROGRAM, IN A SANDBOX (cutbox-door.mjs). By AI agents, Wed Nov 11 2026. No macro, syntax, notation, axiom, sorry.
-/
import Derived.Test.YtbfllilninhbfaaGreatDoorRows
import GoSem.ClaimSeven
namespace Go.Proofs.YtbfllilninhbfaaGreatDoor
namespace Rows

/-- THE TIED CARD OF 'lazyclaw35.PipelinePasses'. -/
def pipelinePassesCard : Claim7 := { stood := { row := pipelinePassesRow, standIns := [], harness := (true, "31f06735d91769c21cf6d8abc07241f13816d5d8bf9007af20e8f8346d1ef34c"), looks := true }, kinds := [], alts := [], laidByText := true, laidKinds := [.data, .listed, .pinned, .data, .sentinel, .sentinel, .data, .data, .data], laidTests := true, laidLooks := .later }
def PipelinePassesCardSaid : Prop := Claim7.holds Tryz.pinned (.plain (OpenSpec.ofChange pipelinePassesSpec)) pipelinePassesCard

/-- THE SECOND FORM's CARD OF 'lazyclaw35.PipelinePasses'. -/
def pipelinePassesUptoCard : Claim7 := { stood := { row := pipelinePassesUptoRow, standIns := [], harness := (true, "31f06735d91769c21cf6d8abc07241f13816d5d8bf9007af20e8f8346d1ef34c"), looks := true }, kinds := [], alts := [], laidByText := true, laidKinds := [.data, .listed, .pinned, .data, .sentinel, .sentinel, .data, .data, .data], laidTests := true, laidLooks := .later }
def PipelinePassesUptoCardSaid : Prop := Claim7.holds Tryz.pinned (.plain (OpenSpec.upto pipelinePassesSpec)) pipelinePassesUptoCard
end Rows
end Go.Proofs.YtbfllilninhbfaaGreatDoor
