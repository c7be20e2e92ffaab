/-
  DERIVED. GIVEN WITH THE SEED: THE CARDS: each row of YtgmmefmmnakbpaaGreatDoorRows.lean that lists a variable, with what it lists TIED to the program's text (the seventh form; the later family's looks); each row that meets fmt, with fmt's text TOLD by the authors' own Lean function (tested against real Go, not proved from fmt's source: count such statements apart). THE CARD IS WHAT COUNTS. Prove the row's statement (the work); the ties are given (YtgmmefmmnakbpaaGreatDoorTie.lean); close each card by the builder's one call (the guide's Derived/Test/ToyasCard.lean, 'card_holds'). Laid BY PROGRAM, IN A SANDBOX (cutbox-door.mjs). By AI agents, Wed Nov 11 2026. No macro, syntax, notation, axiom, sorry.
-/
import Derived.Test.YtgmmefmmnakbpaaGreatDoorRows
import GoSem.ClaimSeven
namespace Go.Proofs.YtgmmefmmnakbpaaGreatDoor
namespace Rows

/-- THE TIED CARD OF 'hypercubelaw22.HeadMore'. -/
def headMoreCard : Claim7 := { stood := { row := headMoreRow, standIns := [], harness := (true, "7f266a793490e796c871f2ab70d1495624acc36ca51b040acb5068af1cee69cd"), looks := true }, kinds := [], alts := [], laidByText := true, laidKinds := [.data], laidTests := true, laidLooks := .later }
def HeadMoreCardSaid : Prop := Claim7.holds Tryz.pinned (.plain (OpenSpec.ofChange headMoreSpec)) headMoreCard

/-- THE TIED CARD OF 'hypercubelaw22.HeadStops'. -/
def headStopsCard : Claim7 := { stood := { row := headStopsRow, standIns := [], harness := (true, "7f266a793490e796c871f2ab70d1495624acc36ca51b040acb5068af1cee69cd"), looks := true }, kinds := [], alts := [], laidByText := true, laidKinds := [.data], laidTests := true, laidLooks := .later }
def HeadStopsCardSaid : Prop := Claim7.holds Tryz.pinned (.plain (OpenSpec.ofChange headStopsSpec)) headStopsCard

/-- THE TIED CARD OF 'hypercubelaw22.HeadMay'. -/
def headMayCard : Claim7 := { stood := { row := headMayRow, standIns := [], harness := (true, "7f266a793490e796c871f2ab70d1495624acc36ca51b040acb5068af1cee69cd"), looks := true }, kinds := [], alts := [], laidByText := true, laidKinds := [.data], laidTests := true, laidLooks := .later }
def HeadMayCardSaid : Prop := Claim7.holds Tryz.pinned (.plain (OpenSpec.ofChange headMaySpec)) headMayCard

/-- THE TIED CARD OF 'hypercubelaw23.NormStill'. -/
def normStillCard : Claim7 := { stood := { row := normStillRow, standIns := [], harness := (true, "7f266a793490e796c871f2ab70d1495624acc36ca51b040acb5068af1cee69cd"), looks := true }, kinds := [], alts := [], laidByText := true, laidKinds := [.data], laidTests := true, laidLooks := .later }
def NormStillCardSaid : Prop := Claim7.holds Tryz.pinned (.plain (OpenSpec.ofChange normStillSpec)) normStillCard

/-- THE TIED CARD OF 'hypercubelaw23.NormMore'. -/
def normMoreCard : Claim7 := { stood := { row := normMoreRow, standIns := [], harness := (true, "7f266a793490e796c871f2ab70d1495624acc36ca51b040acb5068af1cee69cd"), looks := true }, kinds := [], alts := [], laidByText := true, laidKinds := [.data], laidTests := true, laidLooks := .later }
def NormMoreCardSaid : Prop := Claim7.holds Tryz.pinned (.plain (OpenSpec.ofChange normMoreSpec)) normMoreCard

/-- THE TIED CARD OF 'hypercubelaw23.NormSteps'. -/
def normStepsCard : Claim7 := { stood := { row := normStepsRow, standIns := [], harness := (true, "7f266a793490e796c871f2ab70d1495624acc36ca51b040acb5068af1cee69cd"), looks := true }, kinds := [], alts := [], laidByText := true, laidKinds := [.data], laidTests := true, laidLooks := .later }
def NormStepsCardSaid : Prop := Claim7.holds Tryz.pinned (.plain (OpenSpec.ofChange normStepsSpec)) normStepsCard

/-- THE SECOND FORM's CARD OF 'hypercubelaw22.HeadMore'. -/
def headMoreUptoCard : Claim7 := { stood := { row := headMoreUptoRow, standIns := [], harness := (true, "7f266a793490e796c871f2ab70d1495624acc36ca51b040acb5068af1cee69cd"), looks := true }, kinds := [], alts := [], laidByText := true, laidKinds := [.data], laidTests := true, laidLooks := .later }
def HeadMoreUptoCardSaid : Prop := Claim7.holds Tryz.pinned (.plain (OpenSpec.upto headMoreSpec)) headMoreUptoCard

/-- THE SECOND FORM's CARD OF 'hypercubelaw22.HeadStops'. -/
def headStopsUptoCard : Claim7 := { stood := { row := headStopsUptoRow, standIns := [], harness := (true, "7f266a793490e796c871f2ab70d1495624acc36ca51b040acb5068af1cee69cd"), looks := true }, kinds := [], alts := [], laidByText := true, laidKinds := [.data], laidTests := true, laidLooks := .later }
def HeadStopsUptoCardSaid : Prop := Claim7.holds Tryz.pinned (.plain (OpenSpec.upto headStopsSpec)) headStopsUptoCard

/-- THE SECOND FORM's CARD OF 'hypercubelaw22.HeadMay'. -/
def headMayUptoCard : Claim7 := { stood := { row := headMayUptoRow, standIns := [], harness := (true, "7f266a793490e796c871f2ab70d1495624acc36ca51b040acb5068af1cee69cd"), looks := true }, kinds := [], alts := [], laidByText := true, laidKinds := [.data], laidTests := true, laidLooks := .later }
def HeadMayUptoCardSaid : Prop := Claim7.holds Tryz.pinned (.plain (OpenSpec.upto headMaySpec)) headMayUptoCard

/-- THE SECOND FORM's CARD OF 'hypercubelaw23.NormStill'. -/
def normStillUptoCard : Claim7 := { stood := { row := normStillUptoRow, standIns := [], harness := (true, "7f266a793490e796c871f2ab70d1495624acc36ca51b040acb5068af1cee69cd"), looks := true }, kinds := [], alts := [], laidByText := true, laidKinds := [.data], laidTests := true, laidLooks := .later }
def NormStillUptoCardSaid : Prop := Claim7.holds Tryz.pinned (.plain (OpenSpec.upto normStillSpec)) normStillUptoCard

/-- THE SECOND FORM's CARD OF 'hypercubelaw23.NormMore'. -/
def normMoreUptoCard : Claim7 := { stood := { row := normMoreUptoRow, standIns := [], harness := (true, "7f266a793490e796c871f2ab70d1495624acc36ca51b040acb5068af1cee69cd"), looks := true }, kinds := [], alts := [], laidByText := true, laidKinds := [.data], laidTests := true, laidLooks := .later }
def NormMoreUptoCardSaid : Prop := Claim7.holds Tryz.pinned (.plain (OpenSpec.upto normMoreSpec)) normMoreUptoCard

/-- THE SECOND FORM's CARD OF 'hypercubelaw23.NormSteps'. -/
def normStepsUptoCard : Claim7 := { stood := { row := normStepsUptoRow, standIns := [], harness := (true, "7f266a793490e796c871f2ab70d1495624acc36ca51b040acb5068af1cee69cd"), looks := true }, kinds := [], alts := [], laidByText := true, laidKinds := [.data], laidTests := true, laidLooks := .later }
def NormStepsUptoCardSaid : Prop := Claim7.holds Tryz.pinned (.plain (OpenSpec.upto normStepsSpec)) normStepsUptoCard
end Rows
end Go.Proofs.YtgmmefmmnakbpaaGreatDoor
