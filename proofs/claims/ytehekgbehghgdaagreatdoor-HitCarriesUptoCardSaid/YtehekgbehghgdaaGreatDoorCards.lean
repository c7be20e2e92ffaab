/-
  DERIVED. GIVEN WITH THE SEED: THE CARDS: each row of YtehekgbehghgdaaGreatDoorRows.lean that lists a variable, with what it lists TIED to the program's text (the seventh form; the later family's looks); each row that meets fmt, with fmt's text TOLD by the authors' own Lean function (tested against real Go, not proved from fmt's source: count such statements apart). THE CARD IS WHAT COUNTS. Prove the row's statement (the work); the ties are given (YtehekgbehghgdaaGreatDoorTie.lean); close each card by the builder's one call (the guide's Derived/Test/ToyasCard.lean, 'card_holds'). Laid BY PROGRAM, IN A SANDBOX (cutbox-door.mjs). By AI agents, Wed Nov 11 2026. No macro, syntax, notation, axiom, sorry.
-/
import Derived.Test.YtehekgbehghgdaaGreatDoorRows
import GoSem.ClaimSeven
namespace Go.Proofs.YtehekgbehghgdaaGreatDoor
namespace Rows

/-- THE TIED CARD OF 'hypercubelaw18.GlueMerges'. -/
def glueMergesCard : Claim7 := { stood := { row := glueMergesRow, standIns := [], harness := (true, "cca5abfc53afb1bc2d08f45e5d74f43be0c47d716b7220ee3f81265981632fc6"), looks := true }, kinds := [], alts := [], laidByText := true, laidKinds := [.data], laidTests := true, laidLooks := .later }
def GlueMergesCardSaid : Prop := Claim7.holds Tryz.pinned (.plain (OpenSpec.ofChange glueMergesSpec)) glueMergesCard

/-- THE TIED CARD OF 'hypercubelaw17.HitElims'. -/
def hitElimsCard : Claim7 := { stood := { row := hitElimsRow, standIns := [], harness := (true, "cca5abfc53afb1bc2d08f45e5d74f43be0c47d716b7220ee3f81265981632fc6"), looks := true }, kinds := [], alts := [], laidByText := true, laidKinds := [.data], laidTests := true, laidLooks := .later }
def HitElimsCardSaid : Prop := Claim7.holds Tryz.pinned (.plain (OpenSpec.ofChange hitElimsSpec)) hitElimsCard

/-- THE TIED CARD OF 'hypercubelaw17.HitCarries'. -/
def hitCarriesCard : Claim7 := { stood := { row := hitCarriesRow, standIns := [], harness := (true, "cca5abfc53afb1bc2d08f45e5d74f43be0c47d716b7220ee3f81265981632fc6"), looks := true }, kinds := [], alts := [], laidByText := true, laidKinds := [.data], laidTests := true, laidLooks := .later }
def HitCarriesCardSaid : Prop := Claim7.holds Tryz.pinned (.plain (OpenSpec.ofChange hitCarriesSpec)) hitCarriesCard

/-- THE TIED CARD OF 'hypercubelaw20.HcompSteps'. -/
def hcompStepsCard : Claim7 := { stood := { row := hcompStepsRow, standIns := [], harness := (true, "cca5abfc53afb1bc2d08f45e5d74f43be0c47d716b7220ee3f81265981632fc6"), looks := true }, kinds := [], alts := [], laidByText := true, laidKinds := [.data], laidTests := true, laidLooks := .later }
def HcompStepsCardSaid : Prop := Claim7.holds Tryz.pinned (.plain (OpenSpec.ofChange hcompStepsSpec)) hcompStepsCard

/-- THE TIED CARD OF 'hypercubelaw19.TranspSwaps'. -/
def transpSwapsCard : Claim7 := { stood := { row := transpSwapsRow, standIns := [], harness := (true, "cca5abfc53afb1bc2d08f45e5d74f43be0c47d716b7220ee3f81265981632fc6"), looks := true }, kinds := [], alts := [], laidByText := true, laidKinds := [.data], laidTests := true, laidLooks := .later }
def TranspSwapsCardSaid : Prop := Claim7.holds Tryz.pinned (.plain (OpenSpec.ofChange transpSwapsSpec)) transpSwapsCard

/-- THE TIED CARD OF 'hypercubelaw21.StepMains'. -/
def stepMainsCard : Claim7 := { stood := { row := stepMainsRow, standIns := [], harness := (true, "cca5abfc53afb1bc2d08f45e5d74f43be0c47d716b7220ee3f81265981632fc6"), looks := true }, kinds := [], alts := [], laidByText := true, laidKinds := [.data], laidTests := true, laidLooks := .later }
def StepMainsCardSaid : Prop := Claim7.holds Tryz.pinned (.plain (OpenSpec.ofChange stepMainsSpec)) stepMainsCard

/-- THE TIED CARD OF 'hypercubelaw22.HeadMore'. -/
def headMoreCard : Claim7 := { stood := { row := headMoreRow, standIns := [], harness := (true, "cca5abfc53afb1bc2d08f45e5d74f43be0c47d716b7220ee3f81265981632fc6"), looks := true }, kinds := [], alts := [], laidByText := true, laidKinds := [.data], laidTests := true, laidLooks := .later }
def HeadMoreCardSaid : Prop := Claim7.holds Tryz.pinned (.plain (OpenSpec.ofChange headMoreSpec)) headMoreCard

/-- THE TIED CARD OF 'hypercubelaw22.HeadStops'. -/
def headStopsCard : Claim7 := { stood := { row := headStopsRow, standIns := [], harness := (true, "cca5abfc53afb1bc2d08f45e5d74f43be0c47d716b7220ee3f81265981632fc6"), looks := true }, kinds := [], alts := [], laidByText := true, laidKinds := [.data], laidTests := true, laidLooks := .later }
def HeadStopsCardSaid : Prop := Claim7.holds Tryz.pinned (.plain (OpenSpec.ofChange headStopsSpec)) headStopsCard

/-- THE TIED CARD OF 'hypercubelaw23.NormMore'. -/
def normMoreCard : Claim7 := { stood := { row := normMoreRow, standIns := [], harness := (true, "cca5abfc53afb1bc2d08f45e5d74f43be0c47d716b7220ee3f81265981632fc6"), looks := true }, kinds := [], alts := [], laidByText := true, laidKinds := [.data], laidTests := true, laidLooks := .later }
def NormMoreCardSaid : Prop := Claim7.holds Tryz.pinned (.plain (OpenSpec.ofChange normMoreSpec)) normMoreCard

/-- THE TIED CARD OF 'hypercubelaw23.NormStill'. -/
def normStillCard : Claim7 := { stood := { row := normStillRow, standIns := [], harness := (true, "cca5abfc53afb1bc2d08f45e5d74f43be0c47d716b7220ee3f81265981632fc6"), looks := true }, kinds := [], alts := [], laidByText := true, laidKinds := [.data], laidTests := true, laidLooks := .later }
def NormStillCardSaid : Prop := Claim7.holds Tryz.pinned (.plain (OpenSpec.ofChange normStillSpec)) normStillCard

/-- THE TIED CARD OF 'hypercubelaw23.NormSteps'. -/
def normStepsCard : Claim7 := { stood := { row := normStepsRow, standIns := [], harness := (true, "cca5abfc53afb1bc2d08f45e5d74f43be0c47d716b7220ee3f81265981632fc6"), looks := true }, kinds := [], alts := [], laidByText := true, laidKinds := [.data], laidTests := true, laidLooks := .later }
def NormStepsCardSaid : Prop := Claim7.holds Tryz.pinned (.plain (OpenSpec.ofChange normStepsSpec)) normStepsCard

/-- THE TIED CARD OF 'hypercubelaw31.TraceJoins'. -/
def traceJoinsCard : Claim7 := { stood := { row := traceJoinsRow, standIns := [], harness := (true, "cca5abfc53afb1bc2d08f45e5d74f43be0c47d716b7220ee3f81265981632fc6"), looks := true }, kinds := [], alts := [], laidByText := true, laidKinds := [.data], laidTests := true, laidLooks := .later }
def TraceJoinsCardSaid : Prop := Claim7.holds Tryz.pinned (.plain (OpenSpec.ofChange traceJoinsSpec)) traceJoinsCard

/-- THE SECOND FORM's CARD OF 'hypercubelaw18.GlueMerges'. -/
def glueMergesUptoCard : Claim7 := { stood := { row := glueMergesUptoRow, standIns := [], harness := (true, "cca5abfc53afb1bc2d08f45e5d74f43be0c47d716b7220ee3f81265981632fc6"), looks := true }, kinds := [], alts := [], laidByText := true, laidKinds := [.data], laidTests := true, laidLooks := .later }
def GlueMergesUptoCardSaid : Prop := Claim7.holds Tryz.pinned (.plain (OpenSpec.upto glueMergesSpec)) glueMergesUptoCard

/-- THE SECOND FORM's CARD OF 'hypercubelaw17.HitElims'. -/
def hitElimsUptoCard : Claim7 := { stood := { row := hitElimsUptoRow, standIns := [], harness := (true, "cca5abfc53afb1bc2d08f45e5d74f43be0c47d716b7220ee3f81265981632fc6"), looks := true }, kinds := [], alts := [], laidByText := true, laidKinds := [.data], laidTests := true, laidLooks := .later }
def HitElimsUptoCardSaid : Prop := Claim7.holds Tryz.pinned (.plain (OpenSpec.upto hitElimsSpec)) hitElimsUptoCard

/-- THE SECOND FORM's CARD OF 'hypercubelaw17.HitCarries'. -/
def hitCarriesUptoCard : Claim7 := { stood := { row := hitCarriesUptoRow, standIns := [], harness := (true, "cca5abfc53afb1bc2d08f45e5d74f43be0c47d716b7220ee3f81265981632fc6"), looks := true }, kinds := [], alts := [], laidByText := true, laidKinds := [.data], laidTests := true, laidLooks := .later }
def HitCarriesUptoCardSaid : Prop := Claim7.holds Tryz.pinned (.plain (OpenSpec.upto hitCarriesSpec)) hitCarriesUptoCard

/-- THE SECOND FORM's CARD OF 'hypercubelaw20.HcompSteps'. -/
def hcompStepsUptoCard : Claim7 := { stood := { row := hcompStepsUptoRow, standIns := [], harness := (true, "cca5abfc53afb1bc2d08f45e5d74f43be0c47d716b7220ee3f81265981632fc6"), looks := true }, kinds := [], alts := [], laidByText := true, laidKinds := [.data], laidTests := true, laidLooks := .later }
def HcompStepsUptoCardSaid : Prop := Claim7.holds Tryz.pinned (.plain (OpenSpec.upto hcompStepsSpec)) hcompStepsUptoCard

/-- THE SECOND FORM's CARD OF 'hypercubelaw19.TranspSwaps'. -/
def transpSwapsUptoCard : Claim7 := { stood := { row := transpSwapsUptoRow, standIns := [], harness := (true, "cca5abfc53afb1bc2d08f45e5d74f43be0c47d716b7220ee3f81265981632fc6"), looks := true }, kinds := [], alts := [], laidByText := true, laidKinds := [.data], laidTests := true, laidLooks := .later }
def TranspSwapsUptoCardSaid : Prop := Claim7.holds Tryz.pinned (.plain (OpenSpec.upto transpSwapsSpec)) transpSwapsUptoCard

/-- THE SECOND FORM's CARD OF 'hypercubelaw21.StepMains'. -/
def stepMainsUptoCard : Claim7 := { stood := { row := stepMainsUptoRow, standIns := [], harness := (true, "cca5abfc53afb1bc2d08f45e5d74f43be0c47d716b7220ee3f81265981632fc6"), looks := true }, kinds := [], alts := [], laidByText := true, laidKinds := [.data], laidTests := true, laidLooks := .later }
def StepMainsUptoCardSaid : Prop := Claim7.holds Tryz.pinned (.plain (OpenSpec.upto stepMainsSpec)) stepMainsUptoCard

/-- THE SECOND FORM's CARD OF 'hypercubelaw22.HeadMore'. -/
def headMoreUptoCard : Claim7 := { stood := { row := headMoreUptoRow, standIns := [], harness := (true, "cca5abfc53afb1bc2d08f45e5d74f43be0c47d716b7220ee3f81265981632fc6"), looks := true }, kinds := [], alts := [], laidByText := true, laidKinds := [.data], laidTests := true, laidLooks := .later }
def HeadMoreUptoCardSaid : Prop := Claim7.holds Tryz.pinned (.plain (OpenSpec.upto headMoreSpec)) headMoreUptoCard

/-- THE SECOND FORM's CARD OF 'hypercubelaw22.HeadStops'. -/
def headStopsUptoCard : Claim7 := { stood := { row := headStopsUptoRow, standIns := [], harness := (true, "cca5abfc53afb1bc2d08f45e5d74f43be0c47d716b7220ee3f81265981632fc6"), looks := true }, kinds := [], alts := [], laidByText := true, laidKinds := [.data], laidTests := true, laidLooks := .later }
def HeadStopsUptoCardSaid : Prop := Claim7.holds Tryz.pinned (.plain (OpenSpec.upto headStopsSpec)) headStopsUptoCard

/-- THE SECOND FORM's CARD OF 'hypercubelaw23.NormMore'. -/
def normMoreUptoCard : Claim7 := { stood := { row := normMoreUptoRow, standIns := [], harness := (true, "cca5abfc53afb1bc2d08f45e5d74f43be0c47d716b7220ee3f81265981632fc6"), looks := true }, kinds := [], alts := [], laidByText := true, laidKinds := [.data], laidTests := true, laidLooks := .later }
def NormMoreUptoCardSaid : Prop := Claim7.holds Tryz.pinned (.plain (OpenSpec.upto normMoreSpec)) normMoreUptoCard

/-- THE SECOND FORM's CARD OF 'hypercubelaw23.NormStill'. -/
def normStillUptoCard : Claim7 := { stood := { row := normStillUptoRow, standIns := [], harness := (true, "cca5abfc53afb1bc2d08f45e5d74f43be0c47d716b7220ee3f81265981632fc6"), looks := true }, kinds := [], alts := [], laidByText := true, laidKinds := [.data], laidTests := true, laidLooks := .later }
def NormStillUptoCardSaid : Prop := Claim7.holds Tryz.pinned (.plain (OpenSpec.upto normStillSpec)) normStillUptoCard

/-- THE SECOND FORM's CARD OF 'hypercubelaw23.NormSteps'. -/
def normStepsUptoCard : Claim7 := { stood := { row := normStepsUptoRow, standIns := [], harness := (true, "cca5abfc53afb1bc2d08f45e5d74f43be0c47d716b7220ee3f81265981632fc6"), looks := true }, kinds := [], alts := [], laidByText := true, laidKinds := [.data], laidTests := true, laidLooks := .later }
def NormStepsUptoCardSaid : Prop := Claim7.holds Tryz.pinned (.plain (OpenSpec.upto normStepsSpec)) normStepsUptoCard

/-- THE SECOND FORM's CARD OF 'hypercubelaw31.TraceJoins'. -/
def traceJoinsUptoCard : Claim7 := { stood := { row := traceJoinsUptoRow, standIns := [], harness := (true, "cca5abfc53afb1bc2d08f45e5d74f43be0c47d716b7220ee3f81265981632fc6"), looks := true }, kinds := [], alts := [], laidByText := true, laidKinds := [.data], laidTests := true, laidLooks := .later }
def TraceJoinsUptoCardSaid : Prop := Claim7.holds Tryz.pinned (.plain (OpenSpec.upto traceJoinsSpec)) traceJoinsUptoCard
end Rows
end Go.Proofs.YtehekgbehghgdaaGreatDoor
