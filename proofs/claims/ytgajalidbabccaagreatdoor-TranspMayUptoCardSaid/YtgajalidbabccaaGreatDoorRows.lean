/-
  NARROWER THAN 'FOR EVERY INPUT', by the rows' own cells (each row's printed sentence says how): TranspSwaps: loops, laid · HcompSteps: loops, laid · HcompMay: loops, laid · GlueMerges: loops, laid · GlueMay: loops, laid · TranspMay: loops, laid.
  DERIVED. THE GIVEN ROWS OF THIS SEAT. 6 by the template 'for every input the law returns true; each argument reads behind the call as it read before'; 0 by the template 'total and deterministic' (their statements: YtgajalidbabccaaGreatDoorTotals.lean).
  GIVEN WITH THE SEED: the statements are not yours to turn. If you find one false, say at which input.
  Laid BY PROGRAM, IN A SANDBOX (cutbox-rows.mjs): the forced cells as the released guide's own fill.sh prints them over the translation 6edc4a7ef84ecf7b… (all of the seat's roots in one cut). By AI agents, Wed Nov 11 2026. No macro, syntax, notation, axiom, sorry.
-/
import Derived.Test.YtgajalidbabccaaGreatDoorChecked
import GoSem.Claim
import GoSem.ClaimJoined
import GoSem.ClaimMapViews
import Derived.JoinedTies
import Derived.KernelRfl
namespace Go.Proofs.YtgajalidbabccaaGreatDoor
/- THE CELL 'sum', in the pinned program and in every row, IS THE sha256 OF THE DUMP (.gsa) THAT YtgajalidbabccaaGreatDoorProg.lean LOADS. Nothing in Lean hashes anything: it is a label: what it is worth is what the hold of that sum in a sandbox is worth. -/
noncomputable def Tryz.pinned : Pinned := { name := "ytgajalidbabccaagreatdoor", sum := "6edc4a7ef84ecf7b83975d57126c2bbee458313cfaebe0bafdc87a204d8bf2ce", checked := Tryz.checked }
namespace Rows
def none {H : Type} : Left H := { results := [], args := [] }

/- WHAT THE LISTED PACKAGE-LEVEL VARIABLES READ AS WHEN THE CALL BEGINS. Each datum BY PROGRAM (the guide's laid-datum.mjs) off the statement by which the dump's own 'gosem.cut.vars' lays the variable. In a bare row this is a premise. The card (YtgajalidbabccaaGreatDoorCards.lean) ties it to the program's text. -/
def laid_math_bits_deBruijn32tab {H : Type} : DataW H := .agg [.lit (.int .u8 0), .lit (.int .u8 1), .lit (.int .u8 28), .lit (.int .u8 2), .lit (.int .u8 29), .lit (.int .u8 14), .lit (.int .u8 24), .lit (.int .u8 3), .lit (.int .u8 30), .lit (.int .u8 22), .lit (.int .u8 20), .lit (.int .u8 15), .lit (.int .u8 25), .lit (.int .u8 17), .lit (.int .u8 4), .lit (.int .u8 8), .lit (.int .u8 31), .lit (.int .u8 27), .lit (.int .u8 13), .lit (.int .u8 23), .lit (.int .u8 21), .lit (.int .u8 19), .lit (.int .u8 16), .lit (.int .u8 7), .lit (.int .u8 26), .lit (.int .u8 12), .lit (.int .u8 18), .lit (.int .u8 6), .lit (.int .u8 11), .lit (.int .u8 5), .lit (.int .u8 10), .lit (.int .u8 9)]

/-- 'hypercubelaw19.TranspSwaps': WHATEVER THE INPUT: true; the input reads as it did. -/
def transpSwapsSpec : ChangeSpec := { name := "transpSwaps", fn := fun _ => fun
  | [d] => { results := [.lit (.bool true)], args := [d] }
  | _ => none }
def transpSwapsRow : OpenClaim := { program := "ytgajalidbabccaagreatdoor", sum := "6edc4a7ef84ecf7b83975d57126c2bbee458313cfaebe0bafdc87a204d8bf2ce", func := "hypercube/hypercubelaw19.TranspSwaps", spec := "transpSwaps", unfollowed := true, recurses := true, named := ["math/bits.deBruijn32tab"], loops := true, plainKeys := false, apart := false, laid := [("math/bits.deBruijn32tab", laid_math_bits_deBruijn32tab)] }
def TranspSwapsSaid : Prop := transpSwapsRow.holds Tryz.pinned (OpenSpec.ofChange transpSwapsSpec)

/-- ITS FALSE NEIGHBOUR: 'it returns false'. Refute it at one input. -/
def transpSwapsWrong : ChangeSpec := { name := "transpSwaps", fn := fun _ => fun
  | [d] => { results := [.lit (.bool false)], args := [d] }
  | _ => none }
def TranspSwapsWrongFalsely : Prop := transpSwapsRow.holds Tryz.pinned (OpenSpec.ofChange transpSwapsWrong)

/-- 'hypercubelaw20.HcompSteps': WHATEVER THE INPUT: true; the input reads as it did. -/
def hcompStepsSpec : ChangeSpec := { name := "hcompSteps", fn := fun _ => fun
  | [d] => { results := [.lit (.bool true)], args := [d] }
  | _ => none }
def hcompStepsRow : OpenClaim := { program := "ytgajalidbabccaagreatdoor", sum := "6edc4a7ef84ecf7b83975d57126c2bbee458313cfaebe0bafdc87a204d8bf2ce", func := "hypercube/hypercubelaw20.HcompSteps", spec := "hcompSteps", unfollowed := true, recurses := true, named := ["math/bits.deBruijn32tab"], loops := true, plainKeys := false, apart := false, laid := [("math/bits.deBruijn32tab", laid_math_bits_deBruijn32tab)] }
def HcompStepsSaid : Prop := hcompStepsRow.holds Tryz.pinned (OpenSpec.ofChange hcompStepsSpec)

/-- ITS FALSE NEIGHBOUR: 'it returns false'. Refute it at one input. -/
def hcompStepsWrong : ChangeSpec := { name := "hcompSteps", fn := fun _ => fun
  | [d] => { results := [.lit (.bool false)], args := [d] }
  | _ => none }
def HcompStepsWrongFalsely : Prop := hcompStepsRow.holds Tryz.pinned (OpenSpec.ofChange hcompStepsWrong)

/-- 'hypercubelaw20.HcompMay': WHATEVER THE INPUT: true; the input reads as it did. -/
def hcompMaySpec : ChangeSpec := { name := "hcompMay", fn := fun _ => fun
  | [d1, d2, d3] => { results := [.lit (.bool true)], args := [d1, d2, d3] }
  | _ => none }
def hcompMayRow : OpenClaim := { program := "ytgajalidbabccaagreatdoor", sum := "6edc4a7ef84ecf7b83975d57126c2bbee458313cfaebe0bafdc87a204d8bf2ce", func := "hypercube/hypercubelaw20.HcompMay", spec := "hcompMay", unfollowed := true, recurses := true, named := ["math/bits.deBruijn32tab"], loops := true, plainKeys := false, apart := false, laid := [("math/bits.deBruijn32tab", laid_math_bits_deBruijn32tab)] }
def HcompMaySaid : Prop := hcompMayRow.holds Tryz.pinned (OpenSpec.ofChange hcompMaySpec)

/-- ITS FALSE NEIGHBOUR: 'it returns false'. Refute it at one input. -/
def hcompMayWrong : ChangeSpec := { name := "hcompMay", fn := fun _ => fun
  | [d1, d2, d3] => { results := [.lit (.bool false)], args := [d1, d2, d3] }
  | _ => none }
def HcompMayWrongFalsely : Prop := hcompMayRow.holds Tryz.pinned (OpenSpec.ofChange hcompMayWrong)

/-- 'hypercubelaw18.GlueMerges': WHATEVER THE INPUT: true; the input reads as it did. -/
def glueMergesSpec : ChangeSpec := { name := "glueMerges", fn := fun _ => fun
  | [d] => { results := [.lit (.bool true)], args := [d] }
  | _ => none }
def glueMergesRow : OpenClaim := { program := "ytgajalidbabccaagreatdoor", sum := "6edc4a7ef84ecf7b83975d57126c2bbee458313cfaebe0bafdc87a204d8bf2ce", func := "hypercube/hypercubelaw18.GlueMerges", spec := "glueMerges", unfollowed := true, recurses := true, named := ["math/bits.deBruijn32tab"], loops := true, plainKeys := false, apart := false, laid := [("math/bits.deBruijn32tab", laid_math_bits_deBruijn32tab)] }
def GlueMergesSaid : Prop := glueMergesRow.holds Tryz.pinned (OpenSpec.ofChange glueMergesSpec)

/-- ITS FALSE NEIGHBOUR: 'it returns false'. Refute it at one input. -/
def glueMergesWrong : ChangeSpec := { name := "glueMerges", fn := fun _ => fun
  | [d] => { results := [.lit (.bool false)], args := [d] }
  | _ => none }
def GlueMergesWrongFalsely : Prop := glueMergesRow.holds Tryz.pinned (OpenSpec.ofChange glueMergesWrong)

/-- 'hypercubelaw18.GlueMay': WHATEVER THE INPUT: true; the input reads as it did. -/
def glueMaySpec : ChangeSpec := { name := "glueMay", fn := fun _ => fun
  | [d1, d2, d3] => { results := [.lit (.bool true)], args := [d1, d2, d3] }
  | _ => none }
def glueMayRow : OpenClaim := { program := "ytgajalidbabccaagreatdoor", sum := "6edc4a7ef84ecf7b83975d57126c2bbee458313cfaebe0bafdc87a204d8bf2ce", func := "hypercube/hypercubelaw18.GlueMay", spec := "glueMay", unfollowed := true, recurses := true, named := ["math/bits.deBruijn32tab"], loops := true, plainKeys := false, apart := false, laid := [("math/bits.deBruijn32tab", laid_math_bits_deBruijn32tab)] }
def GlueMaySaid : Prop := glueMayRow.holds Tryz.pinned (OpenSpec.ofChange glueMaySpec)

/-- ITS FALSE NEIGHBOUR: 'it returns false'. Refute it at one input. -/
def glueMayWrong : ChangeSpec := { name := "glueMay", fn := fun _ => fun
  | [d1, d2, d3] => { results := [.lit (.bool false)], args := [d1, d2, d3] }
  | _ => none }
def GlueMayWrongFalsely : Prop := glueMayRow.holds Tryz.pinned (OpenSpec.ofChange glueMayWrong)

/-- 'hypercubelaw19.TranspMay': WHATEVER THE INPUT: true; the input reads as it did. -/
def transpMaySpec : ChangeSpec := { name := "transpMay", fn := fun _ => fun
  | [d1, d2, d3] => { results := [.lit (.bool true)], args := [d1, d2, d3] }
  | _ => none }
def transpMayRow : OpenClaim := { program := "ytgajalidbabccaagreatdoor", sum := "6edc4a7ef84ecf7b83975d57126c2bbee458313cfaebe0bafdc87a204d8bf2ce", func := "hypercube/hypercubelaw19.TranspMay", spec := "transpMay", unfollowed := true, recurses := true, named := ["math/bits.deBruijn32tab"], loops := true, plainKeys := false, apart := false, laid := [("math/bits.deBruijn32tab", laid_math_bits_deBruijn32tab)] }
def TranspMaySaid : Prop := transpMayRow.holds Tryz.pinned (OpenSpec.ofChange transpMaySpec)

/-- ITS FALSE NEIGHBOUR: 'it returns false'. Refute it at one input. -/
def transpMayWrong : ChangeSpec := { name := "transpMay", fn := fun _ => fun
  | [d1, d2, d3] => { results := [.lit (.bool false)], args := [d1, d2, d3] }
  | _ => none }
def TranspMayWrongFalsely : Prop := transpMayRow.holds Tryz.pinned (OpenSpec.ofChange transpMayWrong)

/- THE SECOND FORM. 'bulk': how many values and letters a reading holds, each counted each time it is reached (what is shared counts as often as it is met; a slice's spare places count too). A statement '..UptoSaid' is the law's where the arguments, and the package variables that the reading takes, are together of bulk at most 1048576: NARROWER than '..Said'. Prove '..Said' where nothing that the law and all that it calls make is longer than what came in: it says more and counts as full. Else prove '..UptoSaid'. A law counts once. -/
mutual
def uptoBulk {H : Type} : DataW H → Nat
  | .lit (.string bytes) => bytes.length + 1
  | .lit _ => 1
  | .nil => 1
  | .ptr d => uptoBulk d + 1
  | .slice elems spare => uptoBulkAll elems + uptoBulkAll spare + 1
  | .agg parts => uptoBulkAll parts + 1
  | .iface _ d => uptoBulk d + 1
  | .map entries => uptoBulkEntries entries + 1
  | .held _ => 1
def uptoBulkAll {H : Type} : List (DataW H) → Nat
  | [] => 0
  | d :: r => uptoBulk d + uptoBulkAll r
def uptoBulkEntries {H : Type} : List (Lit × DataW H) → Nat
  | [] => 0
  | x :: r => uptoBulkEntry x + uptoBulkEntries r
def uptoBulkEntry {H : Type} : Lit × DataW H → Nat
  | (.string bytes, d) => bytes.length + uptoBulk d + 1
  | (_, d) => uptoBulk d + 1
 end
def uptoSmall : (H : Type) → List (DataW H) → Bool := fun _ ds => decide (uptoBulkAll ds ≤ 1048576)
def OpenSpec.upto (s : _root_.Go.ChangeSpec) : _root_.Go.OpenSpec := { _root_.Go.OpenSpec.ofChange s with cond := some uptoSmall }

/-- 'hypercubelaw19.TranspSwaps', WHERE WHAT IT READS IS OF BULK AT MOST 1048576: true; the input reads as it did. -/
def transpSwapsUptoRow : OpenClaim := { program := "ytgajalidbabccaagreatdoor", sum := "6edc4a7ef84ecf7b83975d57126c2bbee458313cfaebe0bafdc87a204d8bf2ce", func := "hypercube/hypercubelaw19.TranspSwaps", spec := "transpSwaps", unfollowed := true, recurses := true, named := ["math/bits.deBruijn32tab"], loops := true, plainKeys := false, apart := false, laid := [("math/bits.deBruijn32tab", laid_math_bits_deBruijn32tab)], narrowed := true }
def TranspSwapsUptoSaid : Prop := transpSwapsUptoRow.holds Tryz.pinned (OpenSpec.upto transpSwapsSpec)

/-- 'hypercubelaw20.HcompSteps', WHERE WHAT IT READS IS OF BULK AT MOST 1048576: true; the input reads as it did. -/
def hcompStepsUptoRow : OpenClaim := { program := "ytgajalidbabccaagreatdoor", sum := "6edc4a7ef84ecf7b83975d57126c2bbee458313cfaebe0bafdc87a204d8bf2ce", func := "hypercube/hypercubelaw20.HcompSteps", spec := "hcompSteps", unfollowed := true, recurses := true, named := ["math/bits.deBruijn32tab"], loops := true, plainKeys := false, apart := false, laid := [("math/bits.deBruijn32tab", laid_math_bits_deBruijn32tab)], narrowed := true }
def HcompStepsUptoSaid : Prop := hcompStepsUptoRow.holds Tryz.pinned (OpenSpec.upto hcompStepsSpec)

/-- 'hypercubelaw20.HcompMay', WHERE WHAT IT READS IS OF BULK AT MOST 1048576: true; the input reads as it did. -/
def hcompMayUptoRow : OpenClaim := { program := "ytgajalidbabccaagreatdoor", sum := "6edc4a7ef84ecf7b83975d57126c2bbee458313cfaebe0bafdc87a204d8bf2ce", func := "hypercube/hypercubelaw20.HcompMay", spec := "hcompMay", unfollowed := true, recurses := true, named := ["math/bits.deBruijn32tab"], loops := true, plainKeys := false, apart := false, laid := [("math/bits.deBruijn32tab", laid_math_bits_deBruijn32tab)], narrowed := true }
def HcompMayUptoSaid : Prop := hcompMayUptoRow.holds Tryz.pinned (OpenSpec.upto hcompMaySpec)

/-- 'hypercubelaw18.GlueMerges', WHERE WHAT IT READS IS OF BULK AT MOST 1048576: true; the input reads as it did. -/
def glueMergesUptoRow : OpenClaim := { program := "ytgajalidbabccaagreatdoor", sum := "6edc4a7ef84ecf7b83975d57126c2bbee458313cfaebe0bafdc87a204d8bf2ce", func := "hypercube/hypercubelaw18.GlueMerges", spec := "glueMerges", unfollowed := true, recurses := true, named := ["math/bits.deBruijn32tab"], loops := true, plainKeys := false, apart := false, laid := [("math/bits.deBruijn32tab", laid_math_bits_deBruijn32tab)], narrowed := true }
def GlueMergesUptoSaid : Prop := glueMergesUptoRow.holds Tryz.pinned (OpenSpec.upto glueMergesSpec)

/-- 'hypercubelaw18.GlueMay', WHERE WHAT IT READS IS OF BULK AT MOST 1048576: true; the input reads as it did. -/
def glueMayUptoRow : OpenClaim := { program := "ytgajalidbabccaagreatdoor", sum := "6edc4a7ef84ecf7b83975d57126c2bbee458313cfaebe0bafdc87a204d8bf2ce", func := "hypercube/hypercubelaw18.GlueMay", spec := "glueMay", unfollowed := true, recurses := true, named := ["math/bits.deBruijn32tab"], loops := true, plainKeys := false, apart := false, laid := [("math/bits.deBruijn32tab", laid_math_bits_deBruijn32tab)], narrowed := true }
def GlueMayUptoSaid : Prop := glueMayUptoRow.holds Tryz.pinned (OpenSpec.upto glueMaySpec)

/-- 'hypercubelaw19.TranspMay', WHERE WHAT IT READS IS OF BULK AT MOST 1048576: true; the input reads as it did. -/
def transpMayUptoRow : OpenClaim := { program := "ytgajalidbabccaagreatdoor", sum := "6edc4a7ef84ecf7b83975d57126c2bbee458313cfaebe0bafdc87a204d8bf2ce", func := "hypercube/hypercubelaw19.TranspMay", spec := "transpMay", unfollowed := true, recurses := true, named := ["math/bits.deBruijn32tab"], loops := true, plainKeys := false, apart := false, laid := [("math/bits.deBruijn32tab", laid_math_bits_deBruijn32tab)], narrowed := true }
def TranspMayUptoSaid : Prop := transpMayUptoRow.holds Tryz.pinned (OpenSpec.upto transpMaySpec)

end Rows
end Go.Proofs.YtgajalidbabccaaGreatDoor
