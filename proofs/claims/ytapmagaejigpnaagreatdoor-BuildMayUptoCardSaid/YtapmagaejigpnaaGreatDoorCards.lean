/-
  DERIVED. GIVEN WITH THE SEED: THE CARDS: each row of YtapmagaejigpnaaGreatDoorRows.lean that lists a variable, with what it lists TIED to the program's text (the seventh form; the later family's looks); each row that meets fmt, with fmt's text TOLD by the authors' own Lean function (tested against real Go, not proved from fmt's source: count such statements apart). THE CARD IS WHAT COUNTS. Prove the row's statement (the work); the ties are given (YtapmagaejigpnaaGreatDoorTie.lean); close each card by the builder's one call (the guide's Derived/Test/ToyasCard.lean, 'card_holds'). Laid BY PROGRAM, IN A SANDBOX (cutbox-door.mjs). By AI agents, Wed Nov 11 2026. No macro, syntax, notation, axiom, sorry.
-/
import Derived.Test.YtapmagaejigpnaaGreatDoorRows
import GoSem.ClaimSeven
namespace Go.Proofs.YtapmagaejigpnaaGreatDoor
namespace Rows

/-- THE TIED CARD OF 'hypercubelaw15.BuildRuns'. -/
def buildRunsCard : Claim7 := { stood := { row := buildRunsRow, standIns := [], harness := (true, "0fa5f990b0222a773c969666118af3e7f0923781c3d356d7a617b22a0c454ac4"), looks := true }, kinds := [], alts := [], laidByText := true, laidKinds := [.data], laidTests := true, laidLooks := .later }
def BuildRunsCardSaid : Prop := Claim7.holds Tryz.pinned (.plain (OpenSpec.ofChange buildRunsSpec)) buildRunsCard

/-- THE TIED CARD OF 'hypercubelaw15.BuildFills'. -/
def buildFillsCard : Claim7 := { stood := { row := buildFillsRow, standIns := [], harness := (true, "0fa5f990b0222a773c969666118af3e7f0923781c3d356d7a617b22a0c454ac4"), looks := true }, kinds := [], alts := [], laidByText := true, laidKinds := [.data], laidTests := true, laidLooks := .later }
def BuildFillsCardSaid : Prop := Claim7.holds Tryz.pinned (.plain (OpenSpec.ofChange buildFillsSpec)) buildFillsCard

/-- THE TIED CARD OF 'hypercubelaw15.BuildEnds'. -/
def buildEndsCard : Claim7 := { stood := { row := buildEndsRow, standIns := [], harness := (true, "0fa5f990b0222a773c969666118af3e7f0923781c3d356d7a617b22a0c454ac4"), looks := true }, kinds := [], alts := [], laidByText := true, laidKinds := [.data], laidTests := true, laidLooks := .later }
def BuildEndsCardSaid : Prop := Claim7.holds Tryz.pinned (.plain (OpenSpec.ofChange buildEndsSpec)) buildEndsCard

/-- THE TIED CARD OF 'hypercubelaw15.BuildTypes'. -/
def buildTypesCard : Claim7 := { stood := { row := buildTypesRow, standIns := [], harness := (true, "0fa5f990b0222a773c969666118af3e7f0923781c3d356d7a617b22a0c454ac4"), looks := true }, kinds := [], alts := [], laidByText := true, laidKinds := [.data], laidTests := true, laidLooks := .later }
def BuildTypesCardSaid : Prop := Claim7.holds Tryz.pinned (.plain (OpenSpec.ofChange buildTypesSpec)) buildTypesCard

/-- THE TIED CARD OF 'hypercubelaw15.BuildComps'. -/
def buildCompsCard : Claim7 := { stood := { row := buildCompsRow, standIns := [], harness := (true, "0fa5f990b0222a773c969666118af3e7f0923781c3d356d7a617b22a0c454ac4"), looks := true }, kinds := [], alts := [], laidByText := true, laidKinds := [.data], laidTests := true, laidLooks := .later }
def BuildCompsCardSaid : Prop := Claim7.holds Tryz.pinned (.plain (OpenSpec.ofChange buildCompsSpec)) buildCompsCard

/-- THE TIED CARD OF 'hypercubelaw15.BuildMay'. -/
def buildMayCard : Claim7 := { stood := { row := buildMayRow, standIns := [], harness := (true, "0fa5f990b0222a773c969666118af3e7f0923781c3d356d7a617b22a0c454ac4"), looks := true }, kinds := [], alts := [], laidByText := true, laidKinds := [.data], laidTests := true, laidLooks := .later }
def BuildMayCardSaid : Prop := Claim7.holds Tryz.pinned (.plain (OpenSpec.ofChange buildMaySpec)) buildMayCard

/-- THE SECOND FORM's CARD OF 'hypercubelaw15.BuildRuns'. -/
def buildRunsUptoCard : Claim7 := { stood := { row := buildRunsUptoRow, standIns := [], harness := (true, "0fa5f990b0222a773c969666118af3e7f0923781c3d356d7a617b22a0c454ac4"), looks := true }, kinds := [], alts := [], laidByText := true, laidKinds := [.data], laidTests := true, laidLooks := .later }
def BuildRunsUptoCardSaid : Prop := Claim7.holds Tryz.pinned (.plain (OpenSpec.upto buildRunsSpec)) buildRunsUptoCard

/-- THE SECOND FORM's CARD OF 'hypercubelaw15.BuildFills'. -/
def buildFillsUptoCard : Claim7 := { stood := { row := buildFillsUptoRow, standIns := [], harness := (true, "0fa5f990b0222a773c969666118af3e7f0923781c3d356d7a617b22a0c454ac4"), looks := true }, kinds := [], alts := [], laidByText := true, laidKinds := [.data], laidTests := true, laidLooks := .later }
def BuildFillsUptoCardSaid : Prop := Claim7.holds Tryz.pinned (.plain (OpenSpec.upto buildFillsSpec)) buildFillsUptoCard

/-- THE SECOND FORM's CARD OF 'hypercubelaw15.BuildEnds'. -/
def buildEndsUptoCard : Claim7 := { stood := { row := buildEndsUptoRow, standIns := [], harness := (true, "0fa5f990b0222a773c969666118af3e7f0923781c3d356d7a617b22a0c454ac4"), looks := true }, kinds := [], alts := [], laidByText := true, laidKinds := [.data], laidTests := true, laidLooks := .later }
def BuildEndsUptoCardSaid : Prop := Claim7.holds Tryz.pinned (.plain (OpenSpec.upto buildEndsSpec)) buildEndsUptoCard

/-- THE SECOND FORM's CARD OF 'hypercubelaw15.BuildTypes'. -/
def buildTypesUptoCard : Claim7 := { stood := { row := buildTypesUptoRow, standIns := [], harness := (true, "0fa5f990b0222a773c969666118af3e7f0923781c3d356d7a617b22a0c454ac4"), looks := true }, kinds := [], alts := [], laidByText := true, laidKinds := [.data], laidTests := true, laidLooks := .later }
def BuildTypesUptoCardSaid : Prop := Claim7.holds Tryz.pinned (.plain (OpenSpec.upto buildTypesSpec)) buildTypesUptoCard

/-- THE SECOND FORM's CARD OF 'hypercubelaw15.BuildComps'. -/
def buildCompsUptoCard : Claim7 := { stood := { row := buildCompsUptoRow, standIns := [], harness := (true, "0fa5f990b0222a773c969666118af3e7f0923781c3d356d7a617b22a0c454ac4"), looks := true }, kinds := [], alts := [], laidByText := true, laidKinds := [.data], laidTests := true, laidLooks := .later }
def BuildCompsUptoCardSaid : Prop := Claim7.holds Tryz.pinned (.plain (OpenSpec.upto buildCompsSpec)) buildCompsUptoCard

/-- THE SECOND FORM's CARD OF 'hypercubelaw15.BuildMay'. -/
def buildMayUptoCard : Claim7 := { stood := { row := buildMayUptoRow, standIns := [], harness := (true, "0fa5f990b0222a773c969666118af3e7f0923781c3d356d7a617b22a0c454ac4"), looks := true }, kinds := [], alts := [], laidByText := true, laidKinds := [.data], laidTests := true, laidLooks := .later }
def BuildMayUptoCardSaid : Prop := Claim7.holds Tryz.pinned (.plain (OpenSpec.upto buildMaySpec)) buildMayUptoCard
end Rows
end Go.Proofs.YtapmagaejigpnaaGreatDoor
