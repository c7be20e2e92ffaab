/-
  DERIVED. GIVEN WITH THE SEED: THE CARDS: each row of YtfkkpkhfjpaafaaGreatDoorRows.lean that lists a variable, with what it lists TIED to the program's text (the seventh form; the later family's looks); each row that meets fmt, with fmt's text TOLD by the authors' own Lean function (tested against real Go, not proved from fmt's source: count such statements apart). THE CARD IS WHAT COUNTS. Prove the row's statement (the work); the ties are given (YtfkkpkhfjpaafaaGreatDoorTie.lean); close each card by the builder's one call (the guide's Derived/Test/ToyasCard.lean, 'card_holds'). Laid BY PROGRAM, IN A SANDBOX (cutbox-door.mjs). By AI agents, Wed Nov 11 2026. No macro, syntax, notation, axiom, sorry.
-/
import Derived.Test.YtfkkpkhfjpaafaaGreatDoorRows
import GoSem.ClaimSeven
namespace Go.Proofs.YtfkkpkhfjpaafaaGreatDoor
namespace Rows

/-- THE TIED CARD OF 'hypercubelaw17.HitElims'. -/
def hitElimsCard : Claim7 := { stood := { row := hitElimsRow, standIns := [], harness := (true, "2f09a141b6c290f46084227ff1ed6d93e9bb48ce1da75ffb27088857ad9d6332"), looks := true }, kinds := [], alts := [], laidByText := true, laidKinds := [.data], laidTests := true, laidLooks := .later }
def HitElimsCardSaid : Prop := Claim7.holds Tryz.pinned (.plain (OpenSpec.ofChange hitElimsSpec)) hitElimsCard

/-- THE TIED CARD OF 'hypercubelaw17.HitMay'. -/
def hitMayCard : Claim7 := { stood := { row := hitMayRow, standIns := [], harness := (true, "2f09a141b6c290f46084227ff1ed6d93e9bb48ce1da75ffb27088857ad9d6332"), looks := true }, kinds := [], alts := [], laidByText := true, laidKinds := [.data], laidTests := true, laidLooks := .later }
def HitMayCardSaid : Prop := Claim7.holds Tryz.pinned (.plain (OpenSpec.ofChange hitMaySpec)) hitMayCard

/-- THE TIED CARD OF 'hypercubelaw21.StepMains'. -/
def stepMainsCard : Claim7 := { stood := { row := stepMainsRow, standIns := [], harness := (true, "2f09a141b6c290f46084227ff1ed6d93e9bb48ce1da75ffb27088857ad9d6332"), looks := true }, kinds := [], alts := [], laidByText := true, laidKinds := [.data], laidTests := true, laidLooks := .later }
def StepMainsCardSaid : Prop := Claim7.holds Tryz.pinned (.plain (OpenSpec.ofChange stepMainsSpec)) stepMainsCard

/-- THE SECOND FORM's CARD OF 'hypercubelaw17.HitElims'. -/
def hitElimsUptoCard : Claim7 := { stood := { row := hitElimsUptoRow, standIns := [], harness := (true, "2f09a141b6c290f46084227ff1ed6d93e9bb48ce1da75ffb27088857ad9d6332"), looks := true }, kinds := [], alts := [], laidByText := true, laidKinds := [.data], laidTests := true, laidLooks := .later }
def HitElimsUptoCardSaid : Prop := Claim7.holds Tryz.pinned (.plain (OpenSpec.upto hitElimsSpec)) hitElimsUptoCard

/-- THE SECOND FORM's CARD OF 'hypercubelaw17.HitMay'. -/
def hitMayUptoCard : Claim7 := { stood := { row := hitMayUptoRow, standIns := [], harness := (true, "2f09a141b6c290f46084227ff1ed6d93e9bb48ce1da75ffb27088857ad9d6332"), looks := true }, kinds := [], alts := [], laidByText := true, laidKinds := [.data], laidTests := true, laidLooks := .later }
def HitMayUptoCardSaid : Prop := Claim7.holds Tryz.pinned (.plain (OpenSpec.upto hitMaySpec)) hitMayUptoCard

/-- THE SECOND FORM's CARD OF 'hypercubelaw21.StepMains'. -/
def stepMainsUptoCard : Claim7 := { stood := { row := stepMainsUptoRow, standIns := [], harness := (true, "2f09a141b6c290f46084227ff1ed6d93e9bb48ce1da75ffb27088857ad9d6332"), looks := true }, kinds := [], alts := [], laidByText := true, laidKinds := [.data], laidTests := true, laidLooks := .later }
def StepMainsUptoCardSaid : Prop := Claim7.holds Tryz.pinned (.plain (OpenSpec.upto stepMainsSpec)) stepMainsUptoCard
end Rows
end Go.Proofs.YtfkkpkhfjpaafaaGreatDoor
