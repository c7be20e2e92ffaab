/-
  DERIVED. GIVEN WITH THE SEED: THE CARDS: each row of YtlidjlacmpaefaaGreatDoorRows.lean that lists a variable, with what it lists TIED to the program's text (the seventh form; the later family's looks); each row that meets fmt, with fmt's text TOLD by the authors' own Lean function (tested against real Go, not proved from fmt's source: count such statements apart). THE CARD IS WHAT COUNTS. Prove the row's statement (the work); the ties are given (YtlidjlacmpaefaaGreatDoorTie.lean); close each card by the builder's one call (the guide's Derived/Test/ToyasCard.lean, 'card_holds'). Laid BY PROGRAM, IN A SANDBOX (cutbox-door.mjs). By AI agents, Wed Nov 11 2026. No macro, syntax, notation, axiom, sorry.
-/
import Derived.Test.YtlidjlacmpaefaaGreatDoorRows
import GoSem.ClaimSeven
namespace Go.Proofs.YtlidjlacmpaefaaGreatDoor
namespace Rows

/-- THE TIED CARD OF 'hypercubelaw34.MachStill'. -/
def machStillCard : Claim7 := { stood := { row := machStillRow, standIns := [], harness := (true, "92c965a560318170f80a34435ad13a0a053eda081d600086e0e25f710df57676"), looks := true }, kinds := [], alts := [], laidByText := true, laidKinds := [.data], laidTests := true, laidLooks := .later }
def MachStillCardSaid : Prop := Claim7.holds Tryz.pinned (.plain (OpenSpec.ofChange machStillSpec)) machStillCard

/-- THE SECOND FORM's CARD OF 'hypercubelaw34.MachStill'. -/
def machStillUptoCard : Claim7 := { stood := { row := machStillUptoRow, standIns := [], harness := (true, "92c965a560318170f80a34435ad13a0a053eda081d600086e0e25f710df57676"), looks := true }, kinds := [], alts := [], laidByText := true, laidKinds := [.data], laidTests := true, laidLooks := .later }
def MachStillUptoCardSaid : Prop := Claim7.holds Tryz.pinned (.plain (OpenSpec.upto machStillSpec)) machStillUptoCard
end Rows
end Go.Proofs.YtlidjlacmpaefaaGreatDoor
