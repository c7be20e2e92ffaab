/-
  NARROWER THAN 'FOR EVERY INPUT', by the rows' own cells (each row's printed sentence says how): BuildRuns: loops, laid · BuildFills: loops, laid · BuildEnds: loops, laid · BuildTypes: loops, laid · BuildComps: loops, laid · BuildMay: loops, laid.
  DERIVED. THE GIVEN ROWS OF THIS SEAT. 6 by the template 'for every input the law returns true; each argument reads behind the call as it read before'; 0 by the template 'total and deterministic' (their statements: YtapmagaejigpnaaGreatDoorTotals.lean).
  GIVEN WITH THE SEED: the statements are not yours to turn. If you find one false, say at which input.
  Laid BY PROGRAM, IN A SANDBOX (cutbox-rows.mjs): the forced cells as the released guide's own fill.sh prints them over the translation 9cf7c6db6f07d657… (all of the seat's roots in one cut). By AI agents, Wed Nov 11 2026. No macro, syntax, notation, axiom, sorry.
-/
import Derived.Test.YtapmagaejigpnaaGreatDoorChecked
import GoSem.Claim
import GoSem.ClaimJoined
import GoSem.ClaimMapViews
import Derived.JoinedTies
import Derived.KernelRfl
namespace Go.Proofs.YtapmagaejigpnaaGreatDoor
/- THE CELL 'sum', in the pinned program and in every row, IS THE sha256 OF THE DUMP (.gsa) THAT YtapmagaejigpnaaGreatDoorProg.lean LOADS. Nothing in Lean hashes anything: it is a label: what it is worth is what the hold of that sum in a sandbox is worth. -/
noncomputable def Tryz.pinned : Pinned := { name := "ytapmagaejigpnaagreatdoor", sum := "9cf7c6db6f07d6573af895a112ada820486c715e23cfd5843876060113faf806", checked := Tryz.checked }
namespace Rows
def none {H : Type} : Left H := { results := [], args := [] }

/- WHAT THE LISTED PACKAGE-LEVEL VARIABLES READ AS WHEN THE CALL BEGINS. Each datum BY PROGRAM (the guide's laid-datum.mjs) off the statement by which the dump's own 'gosem.cut.vars' lays the variable. In a bare row this is a premise. The card (YtapmagaejigpnaaGreatDoorCards.lean) ties it to the program's text. -/
def laid_math_bits_deBruijn32tab {H : Type} : DataW H := .agg [.lit (.int .u8 0), .lit (.int .u8 1), .lit (.int .u8 28), .lit (.int .u8 2), .lit (.int .u8 29), .lit (.int .u8 14), .lit (.int .u8 24), .lit (.int .u8 3), .lit (.int .u8 30), .lit (.int .u8 22), .lit (.int .u8 20), .lit (.int .u8 15), .lit (.int .u8 25), .lit (.int .u8 17), .lit (.int .u8 4), .lit (.int .u8 8), .lit (.int .u8 31), .lit (.int .u8 27), .lit (.int .u8 13), .lit (.int .u8 23), .lit (.int .u8 21), .lit (.int .u8 19), .lit (.int .u8 16), .lit (.int .u8 7), .lit (.int .u8 26), .lit (.int .u8 12), .lit (.int .u8 18), .lit (.int .u8 6), .lit (.int .u8 11), .lit (.int .u8 5), .lit (.int .u8 10), .lit (.int .u8 9)]

/-- 'hypercubelaw15.BuildRuns': WHATEVER THE INPUT: true; the input reads as it did. -/
def buildRunsSpec : ChangeSpec := { name := "buildRuns", fn := fun _ => fun
  | [d1, d2, d3] => { results := [.lit (.bool true)], args := [d1, d2, d3] }
  | _ => none }
def buildRunsRow : OpenClaim := { program := "ytapmagaejigpnaagreatdoor", sum := "9cf7c6db6f07d6573af895a112ada820486c715e23cfd5843876060113faf806", func := "hypercube/hypercubelaw15.BuildRuns", spec := "buildRuns", unfollowed := true, recurses := true, named := ["math/bits.deBruijn32tab"], loops := true, plainKeys := false, apart := false, laid := [("math/bits.deBruijn32tab", laid_math_bits_deBruijn32tab)] }
def BuildRunsSaid : Prop := buildRunsRow.holds Tryz.pinned (OpenSpec.ofChange buildRunsSpec)

/-- ITS FALSE NEIGHBOUR: 'it returns false'. Refute it at one input. -/
def buildRunsWrong : ChangeSpec := { name := "buildRuns", fn := fun _ => fun
  | [d1, d2, d3] => { results := [.lit (.bool false)], args := [d1, d2, d3] }
  | _ => none }
def BuildRunsWrongFalsely : Prop := buildRunsRow.holds Tryz.pinned (OpenSpec.ofChange buildRunsWrong)

/-- 'hypercubelaw15.BuildFills': WHATEVER THE INPUT: true; the input reads as it did. -/
def buildFillsSpec : ChangeSpec := { name := "buildFills", fn := fun _ => fun
  | [d1, d2, d3] => { results := [.lit (.bool true)], args := [d1, d2, d3] }
  | _ => none }
def buildFillsRow : OpenClaim := { program := "ytapmagaejigpnaagreatdoor", sum := "9cf7c6db6f07d6573af895a112ada820486c715e23cfd5843876060113faf806", func := "hypercube/hypercubelaw15.BuildFills", spec := "buildFills", unfollowed := true, recurses := true, named := ["math/bits.deBruijn32tab"], loops := true, plainKeys := false, apart := false, laid := [("math/bits.deBruijn32tab", laid_math_bits_deBruijn32tab)] }
def BuildFillsSaid : Prop := buildFillsRow.holds Tryz.pinned (OpenSpec.ofChange buildFillsSpec)

/-- ITS FALSE NEIGHBOUR: 'it returns false'. Refute it at one input. -/
def buildFillsWrong : ChangeSpec := { name := "buildFills", fn := fun _ => fun
  | [d1, d2, d3] => { results := [.lit (.bool false)], args := [d1, d2, d3] }
  | _ => none }
def BuildFillsWrongFalsely : Prop := buildFillsRow.holds Tryz.pinned (OpenSpec.ofChange buildFillsWrong)

/-- 'hypercubelaw15.BuildEnds': WHATEVER THE INPUT: true; the input reads as it did. -/
def buildEndsSpec : ChangeSpec := { name := "buildEnds", fn := fun _ => fun
  | [d1, d2, d3] => { results := [.lit (.bool true)], args := [d1, d2, d3] }
  | _ => none }
def buildEndsRow : OpenClaim := { program := "ytapmagaejigpnaagreatdoor", sum := "9cf7c6db6f07d6573af895a112ada820486c715e23cfd5843876060113faf806", func := "hypercube/hypercubelaw15.BuildEnds", spec := "buildEnds", unfollowed := true, recurses := true, named := ["math/bits.deBruijn32tab"], loops := true, plainKeys := false, apart := false, laid := [("math/bits.deBruijn32tab", laid_math_bits_deBruijn32tab)] }
def BuildEndsSaid : Prop := buildEndsRow.holds Tryz.pinned (OpenSpec.ofChange buildEndsSpec)

/-- ITS FALSE NEIGHBOUR: 'it returns false'. Refute it at one input. -/
def buildEndsWrong : ChangeSpec := { name := "buildEnds", fn := fun _ => fun
  | [d1, d2, d3] => { results := [.lit (.bool false)], args := [d1, d2, d3] }
  | _ => none }
def BuildEndsWrongFalsely : Prop := buildEndsRow.holds Tryz.pinned (OpenSpec.ofChange buildEndsWrong)

/-- 'hypercubelaw15.BuildTypes': WHATEVER THE INPUT: true; the input reads as it did. -/
def buildTypesSpec : ChangeSpec := { name := "buildTypes", fn := fun _ => fun
  | [d1, d2, d3, d4] => { results := [.lit (.bool true)], args := [d1, d2, d3, d4] }
  | _ => none }
def buildTypesRow : OpenClaim := { program := "ytapmagaejigpnaagreatdoor", sum := "9cf7c6db6f07d6573af895a112ada820486c715e23cfd5843876060113faf806", func := "hypercube/hypercubelaw15.BuildTypes", spec := "buildTypes", unfollowed := true, recurses := true, named := ["math/bits.deBruijn32tab"], loops := true, plainKeys := false, apart := false, laid := [("math/bits.deBruijn32tab", laid_math_bits_deBruijn32tab)] }
def BuildTypesSaid : Prop := buildTypesRow.holds Tryz.pinned (OpenSpec.ofChange buildTypesSpec)

/-- ITS FALSE NEIGHBOUR: 'it returns false'. Refute it at one input. -/
def buildTypesWrong : ChangeSpec := { name := "buildTypes", fn := fun _ => fun
  | [d1, d2, d3, d4] => { results := [.lit (.bool false)], args := [d1, d2, d3, d4] }
  | _ => none }
def BuildTypesWrongFalsely : Prop := buildTypesRow.holds Tryz.pinned (OpenSpec.ofChange buildTypesWrong)

/-- 'hypercubelaw15.BuildComps': WHATEVER THE INPUT: true; the input reads as it did. -/
def buildCompsSpec : ChangeSpec := { name := "buildComps", fn := fun _ => fun
  | [d1, d2, d3] => { results := [.lit (.bool true)], args := [d1, d2, d3] }
  | _ => none }
def buildCompsRow : OpenClaim := { program := "ytapmagaejigpnaagreatdoor", sum := "9cf7c6db6f07d6573af895a112ada820486c715e23cfd5843876060113faf806", func := "hypercube/hypercubelaw15.BuildComps", spec := "buildComps", unfollowed := true, recurses := true, named := ["math/bits.deBruijn32tab"], loops := true, plainKeys := false, apart := false, laid := [("math/bits.deBruijn32tab", laid_math_bits_deBruijn32tab)] }
def BuildCompsSaid : Prop := buildCompsRow.holds Tryz.pinned (OpenSpec.ofChange buildCompsSpec)

/-- ITS FALSE NEIGHBOUR: 'it returns false'. Refute it at one input. -/
def buildCompsWrong : ChangeSpec := { name := "buildComps", fn := fun _ => fun
  | [d1, d2, d3] => { results := [.lit (.bool false)], args := [d1, d2, d3] }
  | _ => none }
def BuildCompsWrongFalsely : Prop := buildCompsRow.holds Tryz.pinned (OpenSpec.ofChange buildCompsWrong)

/-- 'hypercubelaw15.BuildMay': WHATEVER THE INPUT: true; the input reads as it did. -/
def buildMaySpec : ChangeSpec := { name := "buildMay", fn := fun _ => fun
  | [d1, d2, d3, d4, d5, d6] => { results := [.lit (.bool true)], args := [d1, d2, d3, d4, d5, d6] }
  | _ => none }
def buildMayRow : OpenClaim := { program := "ytapmagaejigpnaagreatdoor", sum := "9cf7c6db6f07d6573af895a112ada820486c715e23cfd5843876060113faf806", func := "hypercube/hypercubelaw15.BuildMay", spec := "buildMay", unfollowed := true, recurses := true, named := ["math/bits.deBruijn32tab"], loops := true, plainKeys := false, apart := false, laid := [("math/bits.deBruijn32tab", laid_math_bits_deBruijn32tab)] }
def BuildMaySaid : Prop := buildMayRow.holds Tryz.pinned (OpenSpec.ofChange buildMaySpec)

/-- ITS FALSE NEIGHBOUR: 'it returns false'. Refute it at one input. -/
def buildMayWrong : ChangeSpec := { name := "buildMay", fn := fun _ => fun
  | [d1, d2, d3, d4, d5, d6] => { results := [.lit (.bool false)], args := [d1, d2, d3, d4, d5, d6] }
  | _ => none }
def BuildMayWrongFalsely : Prop := buildMayRow.holds Tryz.pinned (OpenSpec.ofChange buildMayWrong)

/- THE SECOND FORM. 'bulk': how many values and letters a reading holds, each counted each time it is reached (what is shared counts as often as it is met; a slice's spare places count too). A statement '..UptoSaid' is the law's where the arguments, and the package variables that the reading takes, are together of bulk at most 1048576: NARROWER than '..Said'. Prove '..Said' where nothing that the law and all that it calls make is longer than what came in: it says more and counts as full. Else prove '..UptoSaid'. A law counts once. -/
mutual
def uptoBulk {H : Type} : DataW H → Nat
  | .lit (.string bytes) => bytes.length + 1
  | .lit _ => 1
  | .nil => 1
  | .ptr d => uptoBulk d + 1
  | .slice elems spare => uptoBulkAll elems + uptoBulkAll spare + 1
  | .agg parts => uptoBulkAll parts + 1
  | .iface _ d => uptoBulk d + 1
  | .map entries => uptoBulkEntries entries + 1
  | .held _ => 1
def uptoBulkAll {H : Type} : List (DataW H) → Nat
  | [] => 0
  | d :: r => uptoBulk d + uptoBulkAll r
def uptoBulkEntries {H : Type} : List (Lit × DataW H) → Nat
  | [] => 0
  | x :: r => uptoBulkEntry x + uptoBulkEntries r
def uptoBulkEntry {H : Type} : Lit × DataW H → Nat
  | (.string bytes, d) => bytes.length + uptoBulk d + 1
  | (_, d) => uptoBulk d + 1
 end
def uptoSmall : (H : Type) → List (DataW H) → Bool := fun _ ds => decide (uptoBulkAll ds ≤ 1048576)
def OpenSpec.upto (s : _root_.Go.ChangeSpec) : _root_.Go.OpenSpec := { _root_.Go.OpenSpec.ofChange s with cond := some uptoSmall }

/-- 'hypercubelaw15.BuildRuns', WHERE WHAT IT READS IS OF BULK AT MOST 1048576: true; the input reads as it did. -/
def buildRunsUptoRow : OpenClaim := { program := "ytapmagaejigpnaagreatdoor", sum := "9cf7c6db6f07d6573af895a112ada820486c715e23cfd5843876060113faf806", func := "hypercube/hypercubelaw15.BuildRuns", spec := "buildRuns", unfollowed := true, recurses := true, named := ["math/bits.deBruijn32tab"], loops := true, plainKeys := false, apart := false, laid := [("math/bits.deBruijn32tab", laid_math_bits_deBruijn32tab)], narrowed := true }
def BuildRunsUptoSaid : Prop := buildRunsUptoRow.holds Tryz.pinned (OpenSpec.upto buildRunsSpec)

/-- 'hypercubelaw15.BuildFills', WHERE WHAT IT READS IS OF BULK AT MOST 1048576: true; the input reads as it did. -/
def buildFillsUptoRow : OpenClaim := { program := "ytapmagaejigpnaagreatdoor", sum := "9cf7c6db6f07d6573af895a112ada820486c715e23cfd5843876060113faf806", func := "hypercube/hypercubelaw15.BuildFills", spec := "buildFills", unfollowed := true, recurses := true, named := ["math/bits.deBruijn32tab"], loops := true, plainKeys := false, apart := false, laid := [("math/bits.deBruijn32tab", laid_math_bits_deBruijn32tab)], narrowed := true }
def BuildFillsUptoSaid : Prop := buildFillsUptoRow.holds Tryz.pinned (OpenSpec.upto buildFillsSpec)

/-- 'hypercubelaw15.BuildEnds', WHERE WHAT IT READS IS OF BULK AT MOST 1048576: true; the input reads as it did. -/
def buildEndsUptoRow : OpenClaim := { program := "ytapmagaejigpnaagreatdoor", sum := "9cf7c6db6f07d6573af895a112ada820486c715e23cfd5843876060113faf806", func := "hypercube/hypercubelaw15.BuildEnds", spec := "buildEnds", unfollowed := true, recurses := true, named := ["math/bits.deBruijn32tab"], loops := true, plainKeys := false, apart := false, laid := [("math/bits.deBruijn32tab", laid_math_bits_deBruijn32tab)], narrowed := true }
def BuildEndsUptoSaid : Prop := buildEndsUptoRow.holds Tryz.pinned (OpenSpec.upto buildEndsSpec)

/-- 'hypercubelaw15.BuildTypes', WHERE WHAT IT READS IS OF BULK AT MOST 1048576: true; the input reads as it did. -/
def buildTypesUptoRow : OpenClaim := { program := "ytapmagaejigpnaagreatdoor", sum := "9cf7c6db6f07d6573af895a112ada820486c715e23cfd5843876060113faf806", func := "hypercube/hypercubelaw15.BuildTypes", spec := "buildTypes", unfollowed := true, recurses := true, named := ["math/bits.deBruijn32tab"], loops := true, plainKeys := false, apart := false, laid := [("math/bits.deBruijn32tab", laid_math_bits_deBruijn32tab)], narrowed := true }
def BuildTypesUptoSaid : Prop := buildTypesUptoRow.holds Tryz.pinned (OpenSpec.upto buildTypesSpec)

/-- 'hypercubelaw15.BuildComps', WHERE WHAT IT READS IS OF BULK AT MOST 1048576: true; the input reads as it did. -/
def buildCompsUptoRow : OpenClaim := { program := "ytapmagaejigpnaagreatdoor", sum := "9cf7c6db6f07d6573af895a112ada820486c715e23cfd5843876060113faf806", func := "hypercube/hypercubelaw15.BuildComps", spec := "buildComps", unfollowed := true, recurses := true, named := ["math/bits.deBruijn32tab"], loops := true, plainKeys := false, apart := false, laid := [("math/bits.deBruijn32tab", laid_math_bits_deBruijn32tab)], narrowed := true }
def BuildCompsUptoSaid : Prop := buildCompsUptoRow.holds Tryz.pinned (OpenSpec.upto buildCompsSpec)

/-- 'hypercubelaw15.BuildMay', WHERE WHAT IT READS IS OF BULK AT MOST 1048576: true; the input reads as it did. -/
def buildMayUptoRow : OpenClaim := { program := "ytapmagaejigpnaagreatdoor", sum := "9cf7c6db6f07d6573af895a112ada820486c715e23cfd5843876060113faf806", func := "hypercube/hypercubelaw15.BuildMay", spec := "buildMay", unfollowed := true, recurses := true, named := ["math/bits.deBruijn32tab"], loops := true, plainKeys := false, apart := false, laid := [("math/bits.deBruijn32tab", laid_math_bits_deBruijn32tab)], narrowed := true }
def BuildMayUptoSaid : Prop := buildMayUptoRow.holds Tryz.pinned (OpenSpec.upto buildMaySpec)

end Rows
end Go.Proofs.YtapmagaejigpnaaGreatDoor
