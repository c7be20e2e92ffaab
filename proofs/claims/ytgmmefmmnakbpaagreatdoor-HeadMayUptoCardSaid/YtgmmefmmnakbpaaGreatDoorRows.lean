/-
  NARROWER THAN 'FOR EVERY INPUT', by the rows' own cells (each row's printed sentence says how): HeadMore: loops, laid · HeadStops: loops, laid · HeadMay: loops, laid · NormStill: loops, laid · NormMore: loops, laid · NormSteps: loops, laid.
  DERIVED. THE GIVEN ROWS OF THIS SEAT. 6 by the template 'for every input the law returns true; each argument reads behind the call as it read before'; 0 by the template 'total and deterministic' (their statements: YtgmmefmmnakbpaaGreatDoorTotals.lean).
  GIVEN WITH THE SEED: the statements are not yours to turn. If you find one false, say at which input.
  Laid BY PROGRAM, IN A SANDBOX (cutbox-rows.mjs): the forced cells as the released guide's own fill.sh prints them over the translation caedc8d61353597e… (all of the seat's roots in one cut). By AI agents, Wed Nov 11 2026. No macro, syntax, notation, axiom, sorry.
-/
import Derived.Test.YtgmmefmmnakbpaaGreatDoorChecked
import GoSem.Claim
import GoSem.ClaimJoined
import GoSem.ClaimMapViews
import Derived.JoinedTies
import Derived.KernelRfl
namespace Go.Proofs.YtgmmefmmnakbpaaGreatDoor
/- THE CELL 'sum', in the pinned program and in every row, IS THE sha256 OF THE DUMP (.gsa) THAT YtgmmefmmnakbpaaGreatDoorProg.lean LOADS. Nothing in Lean hashes anything: it is a label: what it is worth is what the hold of that sum in a sandbox is worth. -/
noncomputable def Tryz.pinned : Pinned := { name := "ytgmmefmmnakbpaagreatdoor", sum := "caedc8d61353597eb7fb827d40d7fba1e6e88c8a2755b59e819232371e5ae264", checked := Tryz.checked }
namespace Rows
def none {H : Type} : Left H := { results := [], args := [] }

/- WHAT THE LISTED PACKAGE-LEVEL VARIABLES READ AS WHEN THE CALL BEGINS. Each datum BY PROGRAM (the guide's laid-datum.mjs) off the statement by which the dump's own 'gosem.cut.vars' lays the variable. In a bare row this is a premise. The card (YtgmmefmmnakbpaaGreatDoorCards.lean) ties it to the program's text. -/
def laid_math_bits_deBruijn32tab {H : Type} : DataW H := .agg [.lit (.int .u8 0), .lit (.int .u8 1), .lit (.int .u8 28), .lit (.int .u8 2), .lit (.int .u8 29), .lit (.int .u8 14), .lit (.int .u8 24), .lit (.int .u8 3), .lit (.int .u8 30), .lit (.int .u8 22), .lit (.int .u8 20), .lit (.int .u8 15), .lit (.int .u8 25), .lit (.int .u8 17), .lit (.int .u8 4), .lit (.int .u8 8), .lit (.int .u8 31), .lit (.int .u8 27), .lit (.int .u8 13), .lit (.int .u8 23), .lit (.int .u8 21), .lit (.int .u8 19), .lit (.int .u8 16), .lit (.int .u8 7), .lit (.int .u8 26), .lit (.int .u8 12), .lit (.int .u8 18), .lit (.int .u8 6), .lit (.int .u8 11), .lit (.int .u8 5), .lit (.int .u8 10), .lit (.int .u8 9)]

/-- 'hypercubelaw22.HeadMore': WHATEVER THE INPUT: true; the input reads as it did. -/
def headMoreSpec : ChangeSpec := { name := "headMore", fn := fun _ => fun
  | [d1, d2, d3, d4] => { results := [.lit (.bool true)], args := [d1, d2, d3, d4] }
  | _ => none }
def headMoreRow : OpenClaim := { program := "ytgmmefmmnakbpaagreatdoor", sum := "caedc8d61353597eb7fb827d40d7fba1e6e88c8a2755b59e819232371e5ae264", func := "hypercube/hypercubelaw22.HeadMore", spec := "headMore", unfollowed := true, recurses := true, named := ["math/bits.deBruijn32tab"], loops := true, plainKeys := false, apart := false, laid := [("math/bits.deBruijn32tab", laid_math_bits_deBruijn32tab)] }
def HeadMoreSaid : Prop := headMoreRow.holds Tryz.pinned (OpenSpec.ofChange headMoreSpec)

/-- ITS FALSE NEIGHBOUR: 'it returns false'. Refute it at one input. -/
def headMoreWrong : ChangeSpec := { name := "headMore", fn := fun _ => fun
  | [d1, d2, d3, d4] => { results := [.lit (.bool false)], args := [d1, d2, d3, d4] }
  | _ => none }
def HeadMoreWrongFalsely : Prop := headMoreRow.holds Tryz.pinned (OpenSpec.ofChange headMoreWrong)

/-- 'hypercubelaw22.HeadStops': WHATEVER THE INPUT: true; the input reads as it did. -/
def headStopsSpec : ChangeSpec := { name := "headStops", fn := fun _ => fun
  | [d1, d2, d3] => { results := [.lit (.bool true)], args := [d1, d2, d3] }
  | _ => none }
def headStopsRow : OpenClaim := { program := "ytgmmefmmnakbpaagreatdoor", sum := "caedc8d61353597eb7fb827d40d7fba1e6e88c8a2755b59e819232371e5ae264", func := "hypercube/hypercubelaw22.HeadStops", spec := "headStops", unfollowed := true, recurses := true, named := ["math/bits.deBruijn32tab"], loops := true, plainKeys := false, apart := false, laid := [("math/bits.deBruijn32tab", laid_math_bits_deBruijn32tab)] }
def HeadStopsSaid : Prop := headStopsRow.holds Tryz.pinned (OpenSpec.ofChange headStopsSpec)

/-- ITS FALSE NEIGHBOUR: 'it returns false'. Refute it at one input. -/
def headStopsWrong : ChangeSpec := { name := "headStops", fn := fun _ => fun
  | [d1, d2, d3] => { results := [.lit (.bool false)], args := [d1, d2, d3] }
  | _ => none }
def HeadStopsWrongFalsely : Prop := headStopsRow.holds Tryz.pinned (OpenSpec.ofChange headStopsWrong)

/-- 'hypercubelaw22.HeadMay': WHATEVER THE INPUT: true; the input reads as it did. -/
def headMaySpec : ChangeSpec := { name := "headMay", fn := fun _ => fun
  | [d1, d2, d3, d4, d5] => { results := [.lit (.bool true)], args := [d1, d2, d3, d4, d5] }
  | _ => none }
def headMayRow : OpenClaim := { program := "ytgmmefmmnakbpaagreatdoor", sum := "caedc8d61353597eb7fb827d40d7fba1e6e88c8a2755b59e819232371e5ae264", func := "hypercube/hypercubelaw22.HeadMay", spec := "headMay", unfollowed := true, recurses := true, named := ["math/bits.deBruijn32tab"], loops := true, plainKeys := false, apart := false, laid := [("math/bits.deBruijn32tab", laid_math_bits_deBruijn32tab)] }
def HeadMaySaid : Prop := headMayRow.holds Tryz.pinned (OpenSpec.ofChange headMaySpec)

/-- ITS FALSE NEIGHBOUR: 'it returns false'. Refute it at one input. -/
def headMayWrong : ChangeSpec := { name := "headMay", fn := fun _ => fun
  | [d1, d2, d3, d4, d5] => { results := [.lit (.bool false)], args := [d1, d2, d3, d4, d5] }
  | _ => none }
def HeadMayWrongFalsely : Prop := headMayRow.holds Tryz.pinned (OpenSpec.ofChange headMayWrong)

/-- 'hypercubelaw23.NormStill': WHATEVER THE INPUT: true; the input reads as it did. -/
def normStillSpec : ChangeSpec := { name := "normStill", fn := fun _ => fun
  | [d1, d2, d3] => { results := [.lit (.bool true)], args := [d1, d2, d3] }
  | _ => none }
def normStillRow : OpenClaim := { program := "ytgmmefmmnakbpaagreatdoor", sum := "caedc8d61353597eb7fb827d40d7fba1e6e88c8a2755b59e819232371e5ae264", func := "hypercube/hypercubelaw23.NormStill", spec := "normStill", unfollowed := true, recurses := true, named := ["math/bits.deBruijn32tab"], loops := true, plainKeys := false, apart := false, laid := [("math/bits.deBruijn32tab", laid_math_bits_deBruijn32tab)] }
def NormStillSaid : Prop := normStillRow.holds Tryz.pinned (OpenSpec.ofChange normStillSpec)

/-- ITS FALSE NEIGHBOUR: 'it returns false'. Refute it at one input. -/
def normStillWrong : ChangeSpec := { name := "normStill", fn := fun _ => fun
  | [d1, d2, d3] => { results := [.lit (.bool false)], args := [d1, d2, d3] }
  | _ => none }
def NormStillWrongFalsely : Prop := normStillRow.holds Tryz.pinned (OpenSpec.ofChange normStillWrong)

/-- 'hypercubelaw23.NormMore': WHATEVER THE INPUT: true; the input reads as it did. -/
def normMoreSpec : ChangeSpec := { name := "normMore", fn := fun _ => fun
  | [d1, d2, d3, d4] => { results := [.lit (.bool true)], args := [d1, d2, d3, d4] }
  | _ => none }
def normMoreRow : OpenClaim := { program := "ytgmmefmmnakbpaagreatdoor", sum := "caedc8d61353597eb7fb827d40d7fba1e6e88c8a2755b59e819232371e5ae264", func := "hypercube/hypercubelaw23.NormMore", spec := "normMore", unfollowed := true, recurses := true, named := ["math/bits.deBruijn32tab"], loops := true, plainKeys := false, apart := false, laid := [("math/bits.deBruijn32tab", laid_math_bits_deBruijn32tab)] }
def NormMoreSaid : Prop := normMoreRow.holds Tryz.pinned (OpenSpec.ofChange normMoreSpec)

/-- ITS FALSE NEIGHBOUR: 'it returns false'. Refute it at one input. -/
def normMoreWrong : ChangeSpec := { name := "normMore", fn := fun _ => fun
  | [d1, d2, d3, d4] => { results := [.lit (.bool false)], args := [d1, d2, d3, d4] }
  | _ => none }
def NormMoreWrongFalsely : Prop := normMoreRow.holds Tryz.pinned (OpenSpec.ofChange normMoreWrong)

/-- 'hypercubelaw23.NormSteps': WHATEVER THE INPUT: true; the input reads as it did. -/
def normStepsSpec : ChangeSpec := { name := "normSteps", fn := fun _ => fun
  | [d1, d2, d3] => { results := [.lit (.bool true)], args := [d1, d2, d3] }
  | _ => none }
def normStepsRow : OpenClaim := { program := "ytgmmefmmnakbpaagreatdoor", sum := "caedc8d61353597eb7fb827d40d7fba1e6e88c8a2755b59e819232371e5ae264", func := "hypercube/hypercubelaw23.NormSteps", spec := "normSteps", unfollowed := true, recurses := true, named := ["math/bits.deBruijn32tab"], loops := true, plainKeys := false, apart := false, laid := [("math/bits.deBruijn32tab", laid_math_bits_deBruijn32tab)] }
def NormStepsSaid : Prop := normStepsRow.holds Tryz.pinned (OpenSpec.ofChange normStepsSpec)

/-- ITS FALSE NEIGHBOUR: 'it returns false'. Refute it at one input. -/
def normStepsWrong : ChangeSpec := { name := "normSteps", fn := fun _ => fun
  | [d1, d2, d3] => { results := [.lit (.bool false)], args := [d1, d2, d3] }
  | _ => none }
def NormStepsWrongFalsely : Prop := normStepsRow.holds Tryz.pinned (OpenSpec.ofChange normStepsWrong)

/- THE SECOND FORM. 'bulk': how many values and letters a reading holds, each counted each time it is reached (what is shared counts as often as it is met; a slice's spare places count too). A statement '..UptoSaid' is the law's where the arguments, and the package variables that the reading takes, are together of bulk at most 1048576: NARROWER than '..Said'. Prove '..Said' where nothing that the law and all that it calls make is longer than what came in: it says more and counts as full. Else prove '..UptoSaid'. A law counts once. -/
mutual
def uptoBulk {H : Type} : DataW H → Nat
  | .lit (.string bytes) => bytes.length + 1
  | .lit _ => 1
  | .nil => 1
  | .ptr d => uptoBulk d + 1
  | .slice elems spare => uptoBulkAll elems + uptoBulkAll spare + 1
  | .agg parts => uptoBulkAll parts + 1
  | .iface _ d => uptoBulk d + 1
  | .map entries => uptoBulkEntries entries + 1
  | .held _ => 1
def uptoBulkAll {H : Type} : List (DataW H) → Nat
  | [] => 0
  | d :: r => uptoBulk d + uptoBulkAll r
def uptoBulkEntries {H : Type} : List (Lit × DataW H) → Nat
  | [] => 0
  | x :: r => uptoBulkEntry x + uptoBulkEntries r
def uptoBulkEntry {H : Type} : Lit × DataW H → Nat
  | (.string bytes, d) => bytes.length + uptoBulk d + 1
  | (_, d) => uptoBulk d + 1
 end
def uptoSmall : (H : Type) → List (DataW H) → Bool := fun _ ds => decide (uptoBulkAll ds ≤ 1048576)
def OpenSpec.upto (s : _root_.Go.ChangeSpec) : _root_.Go.OpenSpec := { _root_.Go.OpenSpec.ofChange s with cond := some uptoSmall }

/-- 'hypercubelaw22.HeadMore', WHERE WHAT IT READS IS OF BULK AT MOST 1048576: true; the input reads as it did. -/
def headMoreUptoRow : OpenClaim := { program := "ytgmmefmmnakbpaagreatdoor", sum := "caedc8d61353597eb7fb827d40d7fba1e6e88c8a2755b59e819232371e5ae264", func := "hypercube/hypercubelaw22.HeadMore", spec := "headMore", unfollowed := true, recurses := true, named := ["math/bits.deBruijn32tab"], loops := true, plainKeys := false, apart := false, laid := [("math/bits.deBruijn32tab", laid_math_bits_deBruijn32tab)], narrowed := true }
def HeadMoreUptoSaid : Prop := headMoreUptoRow.holds Tryz.pinned (OpenSpec.upto headMoreSpec)

/-- 'hypercubelaw22.HeadStops', WHERE WHAT IT READS IS OF BULK AT MOST 1048576: true; the input reads as it did. -/
def headStopsUptoRow : OpenClaim := { program := "ytgmmefmmnakbpaagreatdoor", sum := "caedc8d61353597eb7fb827d40d7fba1e6e88c8a2755b59e819232371e5ae264", func := "hypercube/hypercubelaw22.HeadStops", spec := "headStops", unfollowed := true, recurses := true, named := ["math/bits.deBruijn32tab"], loops := true, plainKeys := false, apart := false, laid := [("math/bits.deBruijn32tab", laid_math_bits_deBruijn32tab)], narrowed := true }
def HeadStopsUptoSaid : Prop := headStopsUptoRow.holds Tryz.pinned (OpenSpec.upto headStopsSpec)

/-- 'hypercubelaw22.HeadMay', WHERE WHAT IT READS IS OF BULK AT MOST 1048576: true; the input reads as it did. -/
def headMayUptoRow : OpenClaim := { program := "ytgmmefmmnakbpaagreatdoor", sum := "caedc8d61353597eb7fb827d40d7fba1e6e88c8a2755b59e819232371e5ae264", func := "hypercube/hypercubelaw22.HeadMay", spec := "headMay", unfollowed := true, recurses := true, named := ["math/bits.deBruijn32tab"], loops := true, plainKeys := false, apart := false, laid := [("math/bits.deBruijn32tab", laid_math_bits_deBruijn32tab)], narrowed := true }
def HeadMayUptoSaid : Prop := headMayUptoRow.holds Tryz.pinned (OpenSpec.upto headMaySpec)

/-- 'hypercubelaw23.NormStill', WHERE WHAT IT READS IS OF BULK AT MOST 1048576: true; the input reads as it did. -/
def normStillUptoRow : OpenClaim := { program := "ytgmmefmmnakbpaagreatdoor", sum := "caedc8d61353597eb7fb827d40d7fba1e6e88c8a2755b59e819232371e5ae264", func := "hypercube/hypercubelaw23.NormStill", spec := "normStill", unfollowed := true, recurses := true, named := ["math/bits.deBruijn32tab"], loops := true, plainKeys := false, apart := false, laid := [("math/bits.deBruijn32tab", laid_math_bits_deBruijn32tab)], narrowed := true }
def NormStillUptoSaid : Prop := normStillUptoRow.holds Tryz.pinned (OpenSpec.upto normStillSpec)

/-- 'hypercubelaw23.NormMore', WHERE WHAT IT READS IS OF BULK AT MOST 1048576: true; the input reads as it did. -/
def normMoreUptoRow : OpenClaim := { program := "ytgmmefmmnakbpaagreatdoor", sum := "caedc8d61353597eb7fb827d40d7fba1e6e88c8a2755b59e819232371e5ae264", func := "hypercube/hypercubelaw23.NormMore", spec := "normMore", unfollowed := true, recurses := true, named := ["math/bits.deBruijn32tab"], loops := true, plainKeys := false, apart := false, laid := [("math/bits.deBruijn32tab", laid_math_bits_deBruijn32tab)], narrowed := true }
def NormMoreUptoSaid : Prop := normMoreUptoRow.holds Tryz.pinned (OpenSpec.upto normMoreSpec)

/-- 'hypercubelaw23.NormSteps', WHERE WHAT IT READS IS OF BULK AT MOST 1048576: true; the input reads as it did. -/
def normStepsUptoRow : OpenClaim := { program := "ytgmmefmmnakbpaagreatdoor", sum := "caedc8d61353597eb7fb827d40d7fba1e6e88c8a2755b59e819232371e5ae264", func := "hypercube/hypercubelaw23.NormSteps", spec := "normSteps", unfollowed := true, recurses := true, named := ["math/bits.deBruijn32tab"], loops := true, plainKeys := false, apart := false, laid := [("math/bits.deBruijn32tab", laid_math_bits_deBruijn32tab)], narrowed := true }
def NormStepsUptoSaid : Prop := normStepsUptoRow.holds Tryz.pinned (OpenSpec.upto normStepsSpec)

end Rows
end Go.Proofs.YtgmmefmmnakbpaaGreatDoor
