/-
  DERIVED. GIVEN WITH THE SEED: THE CARDS: each row of YtgajalidbabccaaGreatDoorRows.lean that lists a variable, with what it lists TIED to the program's text (the seventh form; the later family's looks); each row that meets fmt, with fmt's text TOLD by the authors' own Lean function (tested against real Go, not proved from fmt's source: count such statements apart). THE CARD IS WHAT COUNTS. Prove the row's statement (the work); the ties are given (YtgajalidbabccaaGreatDoorTie.lean); close each card by the builder's one call (the guide's Derived/Test/ToyasCard.lean, 'card_holds'). Laid BY PROGRAM, IN A SANDBOX (cutbox-door.mjs). By AI agents, Wed Nov 11 2026. No macro, syntax, notation, axiom, sorry.
-/
import Derived.Test.YtgajalidbabccaaGreatDoorRows
import GoSem.ClaimSeven
namespace Go.Proofs.YtgajalidbabccaaGreatDoor
namespace Rows

/-- THE TIED CARD OF 'hypercubelaw19.TranspSwaps'. -/
def transpSwapsCard : Claim7 := { stood := { row := transpSwapsRow, standIns := [], harness := (true, "a1cba8c107df017326c5751316e7990e35cf91d96d53a607c625152b5afccefb"), looks := true }, kinds := [], alts := [], laidByText := true, laidKinds := [.data], laidTests := true, laidLooks := .later }
def TranspSwapsCardSaid : Prop := Claim7.holds Tryz.pinned (.plain (OpenSpec.ofChange transpSwapsSpec)) transpSwapsCard

/-- THE TIED CARD OF 'hypercubelaw20.HcompSteps'. -/
def hcompStepsCard : Claim7 := { stood := { row := hcompStepsRow, standIns := [], harness := (true, "a1cba8c107df017326c5751316e7990e35cf91d96d53a607c625152b5afccefb"), looks := true }, kinds := [], alts := [], laidByText := true, laidKinds := [.data], laidTests := true, laidLooks := .later }
def HcompStepsCardSaid : Prop := Claim7.holds Tryz.pinned (.plain (OpenSpec.ofChange hcompStepsSpec)) hcompStepsCard

/-- THE TIED CARD OF 'hypercubelaw20.HcompMay'. -/
def hcompMayCard : Claim7 := { stood := { row := hcompMayRow, standIns := [], harness := (true, "a1cba8c107df017326c5751316e7990e35cf91d96d53a607c625152b5afccefb"), looks := true }, kinds := [], alts := [], laidByText := true, laidKinds := [.data], laidTests := true, laidLooks := .later }
def HcompMayCardSaid : Prop := Claim7.holds Tryz.pinned (.plain (OpenSpec.ofChange hcompMaySpec)) hcompMayCard

/-- THE TIED CARD OF 'hypercubelaw18.GlueMerges'. -/
def glueMergesCard : Claim7 := { stood := { row := glueMergesRow, standIns := [], harness := (true, "a1cba8c107df017326c5751316e7990e35cf91d96d53a607c625152b5afccefb"), looks := true }, kinds := [], alts := [], laidByText := true, laidKinds := [.data], laidTests := true, laidLooks := .later }
def GlueMergesCardSaid : Prop := Claim7.holds Tryz.pinned (.plain (OpenSpec.ofChange glueMergesSpec)) glueMergesCard

/-- THE TIED CARD OF 'hypercubelaw18.GlueMay'. -/
def glueMayCard : Claim7 := { stood := { row := glueMayRow, standIns := [], harness := (true, "a1cba8c107df017326c5751316e7990e35cf91d96d53a607c625152b5afccefb"), looks := true }, kinds := [], alts := [], laidByText := true, laidKinds := [.data], laidTests := true, laidLooks := .later }
def GlueMayCardSaid : Prop := Claim7.holds Tryz.pinned (.plain (OpenSpec.ofChange glueMaySpec)) glueMayCard

/-- THE TIED CARD OF 'hypercubelaw19.TranspMay'. -/
def transpMayCard : Claim7 := { stood := { row := transpMayRow, standIns := [], harness := (true, "a1cba8c107df017326c5751316e7990e35cf91d96d53a607c625152b5afccefb"), looks := true }, kinds := [], alts := [], laidByText := true, laidKinds := [.data], laidTests := true, laidLooks := .later }
def TranspMayCardSaid : Prop := Claim7.holds Tryz.pinned (.plain (OpenSpec.ofChange transpMaySpec)) transpMayCard

/-- THE SECOND FORM's CARD OF 'hypercubelaw19.TranspSwaps'. -/
def transpSwapsUptoCard : Claim7 := { stood := { row := transpSwapsUptoRow, standIns := [], harness := (true, "a1cba8c107df017326c5751316e7990e35cf91d96d53a607c625152b5afccefb"), looks := true }, kinds := [], alts := [], laidByText := true, laidKinds := [.data], laidTests := true, laidLooks := .later }
def TranspSwapsUptoCardSaid : Prop := Claim7.holds Tryz.pinned (.plain (OpenSpec.upto transpSwapsSpec)) transpSwapsUptoCard

/-- THE SECOND FORM's CARD OF 'hypercubelaw20.HcompSteps'. -/
def hcompStepsUptoCard : Claim7 := { stood := { row := hcompStepsUptoRow, standIns := [], harness := (true, "a1cba8c107df017326c5751316e7990e35cf91d96d53a607c625152b5afccefb"), looks := true }, kinds := [], alts := [], laidByText := true, laidKinds := [.data], laidTests := true, laidLooks := .later }
def HcompStepsUptoCardSaid : Prop := Claim7.holds Tryz.pinned (.plain (OpenSpec.upto hcompStepsSpec)) hcompStepsUptoCard

/-- THE SECOND FORM's CARD OF 'hypercubelaw20.HcompMay'. -/
def hcompMayUptoCard : Claim7 := { stood := { row := hcompMayUptoRow, standIns := [], harness := (true, "a1cba8c107df017326c5751316e7990e35cf91d96d53a607c625152b5afccefb"), looks := true }, kinds := [], alts := [], laidByText := true, laidKinds := [.data], laidTests := true, laidLooks := .later }
def HcompMayUptoCardSaid : Prop := Claim7.holds Tryz.pinned (.plain (OpenSpec.upto hcompMaySpec)) hcompMayUptoCard

/-- THE SECOND FORM's CARD OF 'hypercubelaw18.GlueMerges'. -/
def glueMergesUptoCard : Claim7 := { stood := { row := glueMergesUptoRow, standIns := [], harness := (true, "a1cba8c107df017326c5751316e7990e35cf91d96d53a607c625152b5afccefb"), looks := true }, kinds := [], alts := [], laidByText := true, laidKinds := [.data], laidTests := true, laidLooks := .later }
def GlueMergesUptoCardSaid : Prop := Claim7.holds Tryz.pinned (.plain (OpenSpec.upto glueMergesSpec)) glueMergesUptoCard

/-- THE SECOND FORM's CARD OF 'hypercubelaw18.GlueMay'. -/
def glueMayUptoCard : Claim7 := { stood := { row := glueMayUptoRow, standIns := [], harness := (true, "a1cba8c107df017326c5751316e7990e35cf91d96d53a607c625152b5afccefb"), looks := true }, kinds := [], alts := [], laidByText := true, laidKinds := [.data], laidTests := true, laidLooks := .later }
def GlueMayUptoCardSaid : Prop := Claim7.holds Tryz.pinned (.plain (OpenSpec.upto glueMaySpec)) glueMayUptoCard

/-- THE SECOND FORM's CARD OF 'hypercubelaw19.TranspMay'. -/
def transpMayUptoCard : Claim7 := { stood := { row := transpMayUptoRow, standIns := [], harness := (true, "a1cba8c107df017326c5751316e7990e35cf91d96d53a607c625152b5afccefb"), looks := true }, kinds := [], alts := [], laidByText := true, laidKinds := [.data], laidTests := true, laidLooks := .later }
def TranspMayUptoCardSaid : Prop := Claim7.holds Tryz.pinned (.plain (OpenSpec.upto transpMaySpec)) transpMayUptoCard
end Rows
end Go.Proofs.YtgajalidbabccaaGreatDoor
