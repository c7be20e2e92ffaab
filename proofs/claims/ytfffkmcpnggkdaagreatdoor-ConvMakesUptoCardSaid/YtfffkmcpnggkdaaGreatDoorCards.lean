/-
  DERIVED. GIVEN WITH THE SEED: THE CARDS: each row of YtfffkmcpnggkdaaGreatDoorRows.lean that lists a variable, with what it lists TIED to the program's text (the seventh form; the later family's looks); each row that meets fmt, with fmt's text TOLD by the authors' own Lean function (tested against real Go, not proved from fmt's source: count such statements apart). THE CARD IS WHAT COUNTS. Prove the row's statement (the work); the ties are given (YtfffkmcpnggkdaaGreatDoorTie.lean); close each card by the builder's one call (the guide's Derived/Test/ToyasCard.lean, 'card_holds'). Laid BY PROGRAM, IN A SANDBOX (cutbox-door.mjs). By AI agents, Wed Nov 11 2026. No macro, syntax, notation, axiom, sorry.
-/
import Derived.Test.YtfffkmcpnggkdaaGreatDoorRows
import GoSem.ClaimSeven
namespace Go.Proofs.YtfffkmcpnggkdaaGreatDoor
namespace Rows

/-- THE TIED CARD OF 'hypercubelaw24.ConvMore'. -/
def convMoreCard : Claim7 := { stood := { row := convMoreRow, standIns := [], harness := (true, "a203bd48e35949160f3f13b1cb7b458b8db2d6ab8ea68b67e0fabfdcc1970079"), looks := true }, kinds := [], alts := [], laidByText := true, laidKinds := [.data], laidTests := true, laidLooks := .later }
def ConvMoreCardSaid : Prop := Claim7.holds Tryz.pinned (.plain (OpenSpec.ofChange convMoreSpec)) convMoreCard

/-- THE TIED CARD OF 'hypercubelaw24.ConvSelf'. -/
def convSelfCard : Claim7 := { stood := { row := convSelfRow, standIns := [], harness := (true, "a203bd48e35949160f3f13b1cb7b458b8db2d6ab8ea68b67e0fabfdcc1970079"), looks := true }, kinds := [], alts := [], laidByText := true, laidKinds := [.data], laidTests := true, laidLooks := .later }
def ConvSelfCardSaid : Prop := Claim7.holds Tryz.pinned (.plain (OpenSpec.ofChange convSelfSpec)) convSelfCard

/-- THE TIED CARD OF 'hypercubelaw24.ConvTurns'. -/
def convTurnsCard : Claim7 := { stood := { row := convTurnsRow, standIns := [], harness := (true, "a203bd48e35949160f3f13b1cb7b458b8db2d6ab8ea68b67e0fabfdcc1970079"), looks := true }, kinds := [], alts := [], laidByText := true, laidKinds := [.data], laidTests := true, laidLooks := .later }
def ConvTurnsCardSaid : Prop := Claim7.holds Tryz.pinned (.plain (OpenSpec.ofChange convTurnsSpec)) convTurnsCard

/-- THE TIED CARD OF 'hypercubelaw24.ConvMakes'. -/
def convMakesCard : Claim7 := { stood := { row := convMakesRow, standIns := [], harness := (true, "a203bd48e35949160f3f13b1cb7b458b8db2d6ab8ea68b67e0fabfdcc1970079"), looks := true }, kinds := [], alts := [], laidByText := true, laidKinds := [.data], laidTests := true, laidLooks := .later }
def ConvMakesCardSaid : Prop := Claim7.holds Tryz.pinned (.plain (OpenSpec.ofChange convMakesSpec)) convMakesCard

/-- THE SECOND FORM's CARD OF 'hypercubelaw24.ConvMore'. -/
def convMoreUptoCard : Claim7 := { stood := { row := convMoreUptoRow, standIns := [], harness := (true, "a203bd48e35949160f3f13b1cb7b458b8db2d6ab8ea68b67e0fabfdcc1970079"), looks := true }, kinds := [], alts := [], laidByText := true, laidKinds := [.data], laidTests := true, laidLooks := .later }
def ConvMoreUptoCardSaid : Prop := Claim7.holds Tryz.pinned (.plain (OpenSpec.upto convMoreSpec)) convMoreUptoCard

/-- THE SECOND FORM's CARD OF 'hypercubelaw24.ConvSelf'. -/
def convSelfUptoCard : Claim7 := { stood := { row := convSelfUptoRow, standIns := [], harness := (true, "a203bd48e35949160f3f13b1cb7b458b8db2d6ab8ea68b67e0fabfdcc1970079"), looks := true }, kinds := [], alts := [], laidByText := true, laidKinds := [.data], laidTests := true, laidLooks := .later }
def ConvSelfUptoCardSaid : Prop := Claim7.holds Tryz.pinned (.plain (OpenSpec.upto convSelfSpec)) convSelfUptoCard

/-- THE SECOND FORM's CARD OF 'hypercubelaw24.ConvTurns'. -/
def convTurnsUptoCard : Claim7 := { stood := { row := convTurnsUptoRow, standIns := [], harness := (true, "a203bd48e35949160f3f13b1cb7b458b8db2d6ab8ea68b67e0fabfdcc1970079"), looks := true }, kinds := [], alts := [], laidByText := true, laidKinds := [.data], laidTests := true, laidLooks := .later }
def ConvTurnsUptoCardSaid : Prop := Claim7.holds Tryz.pinned (.plain (OpenSpec.upto convTurnsSpec)) convTurnsUptoCard

/-- THE SECOND FORM's CARD OF 'hypercubelaw24.ConvMakes'. -/
def convMakesUptoCard : Claim7 := { stood := { row := convMakesUptoRow, standIns := [], harness := (true, "a203bd48e35949160f3f13b1cb7b458b8db2d6ab8ea68b67e0fabfdcc1970079"), looks := true }, kinds := [], alts := [], laidByText := true, laidKinds := [.data], laidTests := true, laidLooks := .later }
def ConvMakesUptoCardSaid : Prop := Claim7.holds Tryz.pinned (.plain (OpenSpec.upto convMakesSpec)) convMakesUptoCard
end Rows
end Go.Proofs.YtfffkmcpnggkdaaGreatDoor
