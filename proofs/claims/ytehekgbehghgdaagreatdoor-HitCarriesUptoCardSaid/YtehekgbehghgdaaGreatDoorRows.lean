/-
  NARROWER THAN 'FOR EVERY INPUT', by the rows' own cells (each row's printed sentence says how): GlueMerges: loops, laid · HitElims: loops, laid · HitCarries: loops, laid · HcompSteps: loops, laid · TranspSwaps: loops, laid · StepMains: loops, laid · HeadMore: loops, laid · HeadStops: loops, laid · NormMore: loops, laid · NormStill: loops, laid · NormSteps: loops, laid · TraceJoins: loops, laid.
  DERIVED. THE GIVEN ROWS OF THIS SEAT. 12 by the template 'for every input the law returns true; each argument reads behind the call as it read before'; 0 by the template 'total and deterministic' (their statements: YtehekgbehghgdaaGreatDoorTotals.lean).
  GIVEN WITH THE SEED: the statements are not yours to turn. If you find one false, say at which input.
  Laid BY PROGRAM, IN A SANDBOX (cutbox-rows.mjs): the forced cells as the released guide's own fill.sh prints them over the translation 601847b4d446c538… (all of the seat's roots in one cut). By AI agents, Wed Nov 11 2026. No macro, syntax, notation, axiom, sorry.
-/
import Derived.Test.YtehekgbehghgdaaGreatDoorChecked
import GoSem.Claim
import GoSem.ClaimJoined
import GoSem.ClaimMapViews
import Derived.JoinedTies
import Derived.KernelRfl
namespace Go.Proofs.YtehekgbehghgdaaGreatDoor
/- THE CELL 'sum', in the pinned program and in every row, IS THE sha256 OF THE DUMP (.gsa) THAT YtehekgbehghgdaaGreatDoorProg.lean LOADS. Nothing in Lean hashes anything: it is a label: what it is worth is what the hold of that sum in a sandbox is worth. -/
noncomputable def Tryz.pinned : Pinned := { name := "ytehekgbehghgdaagreatdoor", sum := "601847b4d446c538118b1f8b7a4e295fd576aa90f329fecb25eb273c68d75a4c", checked := Tryz.checked }
namespace Rows
def none {H : Type} : Left H := { results := [], args := [] }

/- WHAT THE LISTED PACKAGE-LEVEL VARIABLES READ AS WHEN THE CALL BEGINS. Each datum BY PROGRAM (the guide's laid-datum.mjs) off the statement by which the dump's own 'gosem.cut.vars' lays the variable. In a bare row this is a premise. The card (YtehekgbehghgdaaGreatDoorCards.lean) ties it to the program's text. -/
def laid_math_bits_deBruijn32tab {H : Type} : DataW H := .agg [.lit (.int .u8 0), .lit (.int .u8 1), .lit (.int .u8 28), .lit (.int .u8 2), .lit (.int .u8 29), .lit (.int .u8 14), .lit (.int .u8 24), .lit (.int .u8 3), .lit (.int .u8 30), .lit (.int .u8 22), .lit (.int .u8 20), .lit (.int .u8 15), .lit (.int .u8 25), .lit (.int .u8 17), .lit (.int .u8 4), .lit (.int .u8 8), .lit (.int .u8 31), .lit (.int .u8 27), .lit (.int .u8 13), .lit (.int .u8 23), .lit (.int .u8 21), .lit (.int .u8 19), .lit (.int .u8 16), .lit (.int .u8 7), .lit (.int .u8 26), .lit (.int .u8 12), .lit (.int .u8 18), .lit (.int .u8 6), .lit (.int .u8 11), .lit (.int .u8 5), .lit (.int .u8 10), .lit (.int .u8 9)]

/-- 'hypercubelaw18.GlueMerges': WHATEVER THE INPUT: true; the input reads as it did. -/
def glueMergesSpec : ChangeSpec := { name := "glueMerges", fn := fun _ => fun
  | [d] => { results := [.lit (.bool true)], args := [d] }
  | _ => none }
def glueMergesRow : OpenClaim := { program := "ytehekgbehghgdaagreatdoor", sum := "601847b4d446c538118b1f8b7a4e295fd576aa90f329fecb25eb273c68d75a4c", func := "hypercube/hypercubelaw18.GlueMerges", spec := "glueMerges", unfollowed := true, recurses := true, named := ["math/bits.deBruijn32tab"], loops := true, plainKeys := false, apart := false, laid := [("math/bits.deBruijn32tab", laid_math_bits_deBruijn32tab)] }
def GlueMergesSaid : Prop := glueMergesRow.holds Tryz.pinned (OpenSpec.ofChange glueMergesSpec)

/-- ITS FALSE NEIGHBOUR: 'it returns false'. Refute it at one input. -/
def glueMergesWrong : ChangeSpec := { name := "glueMerges", fn := fun _ => fun
  | [d] => { results := [.lit (.bool false)], args := [d] }
  | _ => none }
def GlueMergesWrongFalsely : Prop := glueMergesRow.holds Tryz.pinned (OpenSpec.ofChange glueMergesWrong)

/-- 'hypercubelaw17.HitElims': WHATEVER THE INPUT: true; the input reads as it did. -/
def hitElimsSpec : ChangeSpec := { name := "hitElims", fn := fun _ => fun
  | [d] => { results := [.lit (.bool true)], args := [d] }
  | _ => none }
def hitElimsRow : OpenClaim := { program := "ytehekgbehghgdaagreatdoor", sum := "601847b4d446c538118b1f8b7a4e295fd576aa90f329fecb25eb273c68d75a4c", func := "hypercube/hypercubelaw17.HitElims", spec := "hitElims", unfollowed := true, recurses := true, named := ["math/bits.deBruijn32tab"], loops := true, plainKeys := false, apart := false, laid := [("math/bits.deBruijn32tab", laid_math_bits_deBruijn32tab)] }
def HitElimsSaid : Prop := hitElimsRow.holds Tryz.pinned (OpenSpec.ofChange hitElimsSpec)

/-- ITS FALSE NEIGHBOUR: 'it returns false'. Refute it at one input. -/
def hitElimsWrong : ChangeSpec := { name := "hitElims", fn := fun _ => fun
  | [d] => { results := [.lit (.bool false)], args := [d] }
  | _ => none }
def HitElimsWrongFalsely : Prop := hitElimsRow.holds Tryz.pinned (OpenSpec.ofChange hitElimsWrong)

/-- 'hypercubelaw17.HitCarries': WHATEVER THE INPUT: true; the input reads as it did. -/
def hitCarriesSpec : ChangeSpec := { name := "hitCarries", fn := fun _ => fun
  | [d] => { results := [.lit (.bool true)], args := [d] }
  | _ => none }
def hitCarriesRow : OpenClaim := { program := "ytehekgbehghgdaagreatdoor", sum := "601847b4d446c538118b1f8b7a4e295fd576aa90f329fecb25eb273c68d75a4c", func := "hypercube/hypercubelaw17.HitCarries", spec := "hitCarries", unfollowed := true, recurses := true, named := ["math/bits.deBruijn32tab"], loops := true, plainKeys := false, apart := false, laid := [("math/bits.deBruijn32tab", laid_math_bits_deBruijn32tab)] }
def HitCarriesSaid : Prop := hitCarriesRow.holds Tryz.pinned (OpenSpec.ofChange hitCarriesSpec)

/-- ITS FALSE NEIGHBOUR: 'it returns false'. Refute it at one input. -/
def hitCarriesWrong : ChangeSpec := { name := "hitCarries", fn := fun _ => fun
  | [d] => { results := [.lit (.bool false)], args := [d] }
  | _ => none }
def HitCarriesWrongFalsely : Prop := hitCarriesRow.holds Tryz.pinned (OpenSpec.ofChange hitCarriesWrong)

/-- 'hypercubelaw20.HcompSteps': WHATEVER THE INPUT: true; the input reads as it did. -/
def hcompStepsSpec : ChangeSpec := { name := "hcompSteps", fn := fun _ => fun
  | [d] => { results := [.lit (.bool true)], args := [d] }
  | _ => none }
def hcompStepsRow : OpenClaim := { program := "ytehekgbehghgdaagreatdoor", sum := "601847b4d446c538118b1f8b7a4e295fd576aa90f329fecb25eb273c68d75a4c", func := "hypercube/hypercubelaw20.HcompSteps", spec := "hcompSteps", unfollowed := true, recurses := true, named := ["math/bits.deBruijn32tab"], loops := true, plainKeys := false, apart := false, laid := [("math/bits.deBruijn32tab", laid_math_bits_deBruijn32tab)] }
def HcompStepsSaid : Prop := hcompStepsRow.holds Tryz.pinned (OpenSpec.ofChange hcompStepsSpec)

/-- ITS FALSE NEIGHBOUR: 'it returns false'. Refute it at one input. -/
def hcompStepsWrong : ChangeSpec := { name := "hcompSteps", fn := fun _ => fun
  | [d] => { results := [.lit (.bool false)], args := [d] }
  | _ => none }
def HcompStepsWrongFalsely : Prop := hcompStepsRow.holds Tryz.pinned (OpenSpec.ofChange hcompStepsWrong)

/-- 'hypercubelaw19.TranspSwaps': WHATEVER THE INPUT: true; the input reads as it did. -/
def transpSwapsSpec : ChangeSpec := { name := "transpSwaps", fn := fun _ => fun
  | [d] => { results := [.lit (.bool true)], args := [d] }
  | _ => none }
def transpSwapsRow : OpenClaim := { program := "ytehekgbehghgdaagreatdoor", sum := "601847b4d446c538118b1f8b7a4e295fd576aa90f329fecb25eb273c68d75a4c", func := "hypercube/hypercubelaw19.TranspSwaps", spec := "transpSwaps", unfollowed := true, recurses := true, named := ["math/bits.deBruijn32tab"], loops := true, plainKeys := false, apart := false, laid := [("math/bits.deBruijn32tab", laid_math_bits_deBruijn32tab)] }
def TranspSwapsSaid : Prop := transpSwapsRow.holds Tryz.pinned (OpenSpec.ofChange transpSwapsSpec)

/-- ITS FALSE NEIGHBOUR: 'it returns false'. Refute it at one input. -/
def transpSwapsWrong : ChangeSpec := { name := "transpSwaps", fn := fun _ => fun
  | [d] => { results := [.lit (.bool false)], args := [d] }
  | _ => none }
def TranspSwapsWrongFalsely : Prop := transpSwapsRow.holds Tryz.pinned (OpenSpec.ofChange transpSwapsWrong)

/-- 'hypercubelaw21.StepMains': WHATEVER THE INPUT: true; the input reads as it did. -/
def stepMainsSpec : ChangeSpec := { name := "stepMains", fn := fun _ => fun
  | [d] => { results := [.lit (.bool true)], args := [d] }
  | _ => none }
def stepMainsRow : OpenClaim := { program := "ytehekgbehghgdaagreatdoor", sum := "601847b4d446c538118b1f8b7a4e295fd576aa90f329fecb25eb273c68d75a4c", func := "hypercube/hypercubelaw21.StepMains", spec := "stepMains", unfollowed := true, recurses := true, named := ["math/bits.deBruijn32tab"], loops := true, plainKeys := false, apart := false, laid := [("math/bits.deBruijn32tab", laid_math_bits_deBruijn32tab)] }
def StepMainsSaid : Prop := stepMainsRow.holds Tryz.pinned (OpenSpec.ofChange stepMainsSpec)

/-- ITS FALSE NEIGHBOUR: 'it returns false'. Refute it at one input. -/
def stepMainsWrong : ChangeSpec := { name := "stepMains", fn := fun _ => fun
  | [d] => { results := [.lit (.bool false)], args := [d] }
  | _ => none }
def StepMainsWrongFalsely : Prop := stepMainsRow.holds Tryz.pinned (OpenSpec.ofChange stepMainsWrong)

/-- 'hypercubelaw22.HeadMore': WHATEVER THE INPUT: true; the input reads as it did. -/
def headMoreSpec : ChangeSpec := { name := "headMore", fn := fun _ => fun
  | [d1, d2, d3, d4] => { results := [.lit (.bool true)], args := [d1, d2, d3, d4] }
  | _ => none }
def headMoreRow : OpenClaim := { program := "ytehekgbehghgdaagreatdoor", sum := "601847b4d446c538118b1f8b7a4e295fd576aa90f329fecb25eb273c68d75a4c", func := "hypercube/hypercubelaw22.HeadMore", spec := "headMore", unfollowed := true, recurses := true, named := ["math/bits.deBruijn32tab"], loops := true, plainKeys := false, apart := false, laid := [("math/bits.deBruijn32tab", laid_math_bits_deBruijn32tab)] }
def HeadMoreSaid : Prop := headMoreRow.holds Tryz.pinned (OpenSpec.ofChange headMoreSpec)

/-- ITS FALSE NEIGHBOUR: 'it returns false'. Refute it at one input. -/
def headMoreWrong : ChangeSpec := { name := "headMore", fn := fun _ => fun
  | [d1, d2, d3, d4] => { results := [.lit (.bool false)], args := [d1, d2, d3, d4] }
  | _ => none }
def HeadMoreWrongFalsely : Prop := headMoreRow.holds Tryz.pinned (OpenSpec.ofChange headMoreWrong)

/-- 'hypercubelaw22.HeadStops': WHATEVER THE INPUT: true; the input reads as it did. -/
def headStopsSpec : ChangeSpec := { name := "headStops", fn := fun _ => fun
  | [d1, d2, d3] => { results := [.lit (.bool true)], args := [d1, d2, d3] }
  | _ => none }
def headStopsRow : OpenClaim := { program := "ytehekgbehghgdaagreatdoor", sum := "601847b4d446c538118b1f8b7a4e295fd576aa90f329fecb25eb273c68d75a4c", func := "hypercube/hypercubelaw22.HeadStops", spec := "headStops", unfollowed := true, recurses := true, named := ["math/bits.deBruijn32tab"], loops := true, plainKeys := false, apart := false, laid := [("math/bits.deBruijn32tab", laid_math_bits_deBruijn32tab)] }
def HeadStopsSaid : Prop := headStopsRow.holds Tryz.pinned (OpenSpec.ofChange headStopsSpec)

/-- ITS FALSE NEIGHBOUR: 'it returns false'. Refute it at one input. -/
def headStopsWrong : ChangeSpec := { name := "headStops", fn := fun _ => fun
  | [d1, d2, d3] => { results := [.lit (.bool false)], args := [d1, d2, d3] }
  | _ => none }
def HeadStopsWrongFalsely : Prop := headStopsRow.holds Tryz.pinned (OpenSpec.ofChange headStopsWrong)

/-- 'hypercubelaw23.NormMore': WHATEVER THE INPUT: true; the input reads as it did. -/
def normMoreSpec : ChangeSpec := { name := "normMore", fn := fun _ => fun
  | [d1, d2, d3, d4] => { results := [.lit (.bool true)], args := [d1, d2, d3, d4] }
  | _ => none }
def normMoreRow : OpenClaim := { program := "ytehekgbehghgdaagreatdoor", sum := "601847b4d446c538118b1f8b7a4e295fd576aa90f329fecb25eb273c68d75a4c", func := "hypercube/hypercubelaw23.NormMore", spec := "normMore", unfollowed := true, recurses := true, named := ["math/bits.deBruijn32tab"], loops := true, plainKeys := false, apart := false, laid := [("math/bits.deBruijn32tab", laid_math_bits_deBruijn32tab)] }
def NormMoreSaid : Prop := normMoreRow.holds Tryz.pinned (OpenSpec.ofChange normMoreSpec)

/-- ITS FALSE NEIGHBOUR: 'it returns false'. Refute it at one input. -/
def normMoreWrong : ChangeSpec := { name := "normMore", fn := fun _ => fun
  | [d1, d2, d3, d4] => { results := [.lit (.bool false)], args := [d1, d2, d3, d4] }
  | _ => none }
def NormMoreWrongFalsely : Prop := normMoreRow.holds Tryz.pinned (OpenSpec.ofChange normMoreWrong)

/-- 'hypercubelaw23.NormStill': WHATEVER THE INPUT: true; the input reads as it did. -/
def normStillSpec : ChangeSpec := { name := "normStill", fn := fun _ => fun
  | [d1, d2, d3] => { results := [.lit (.bool true)], args := [d1, d2, d3] }
  | _ => none }
def normStillRow : OpenClaim := { program := "ytehekgbehghgdaagreatdoor", sum := "601847b4d446c538118b1f8b7a4e295fd576aa90f329fecb25eb273c68d75a4c", func := "hypercube/hypercubelaw23.NormStill", spec := "normStill", unfollowed := true, recurses := true, named := ["math/bits.deBruijn32tab"], loops := true, plainKeys := false, apart := false, laid := [("math/bits.deBruijn32tab", laid_math_bits_deBruijn32tab)] }
def NormStillSaid : Prop := normStillRow.holds Tryz.pinned (OpenSpec.ofChange normStillSpec)

/-- ITS FALSE NEIGHBOUR: 'it returns false'. Refute it at one input. -/
def normStillWrong : ChangeSpec := { name := "normStill", fn := fun _ => fun
  | [d1, d2, d3] => { results := [.lit (.bool false)], args := [d1, d2, d3] }
  | _ => none }
def NormStillWrongFalsely : Prop := normStillRow.holds Tryz.pinned (OpenSpec.ofChange normStillWrong)

/-- 'hypercubelaw23.NormSteps': WHATEVER THE INPUT: true; the input reads as it did. -/
def normStepsSpec : ChangeSpec := { name := "normSteps", fn := fun _ => fun
  | [d1, d2, d3] => { results := [.lit (.bool true)], args := [d1, d2, d3] }
  | _ => none }
def normStepsRow : OpenClaim := { program := "ytehekgbehghgdaagreatdoor", sum := "601847b4d446c538118b1f8b7a4e295fd576aa90f329fecb25eb273c68d75a4c", func := "hypercube/hypercubelaw23.NormSteps", spec := "normSteps", unfollowed := true, recurses := true, named := ["math/bits.deBruijn32tab"], loops := true, plainKeys := false, apart := false, laid := [("math/bits.deBruijn32tab", laid_math_bits_deBruijn32tab)] }
def NormStepsSaid : Prop := normStepsRow.holds Tryz.pinned (OpenSpec.ofChange normStepsSpec)

/-- ITS FALSE NEIGHBOUR: 'it returns false'. Refute it at one input. -/
def normStepsWrong : ChangeSpec := { name := "normSteps", fn := fun _ => fun
  | [d1, d2, d3] => { results := [.lit (.bool false)], args := [d1, d2, d3] }
  | _ => none }
def NormStepsWrongFalsely : Prop := normStepsRow.holds Tryz.pinned (OpenSpec.ofChange normStepsWrong)

/-- 'hypercubelaw31.TraceJoins': WHATEVER THE INPUT: true; the input reads as it did. -/
def traceJoinsSpec : ChangeSpec := { name := "traceJoins", fn := fun _ => fun
  | [d1, d2, d3, d4] => { results := [.lit (.bool true)], args := [d1, d2, d3, d4] }
  | _ => none }
def traceJoinsRow : OpenClaim := { program := "ytehekgbehghgdaagreatdoor", sum := "601847b4d446c538118b1f8b7a4e295fd576aa90f329fecb25eb273c68d75a4c", func := "hypercube/hypercubelaw31.TraceJoins", spec := "traceJoins", unfollowed := true, recurses := true, named := ["math/bits.deBruijn32tab"], loops := true, plainKeys := false, apart := false, laid := [("math/bits.deBruijn32tab", laid_math_bits_deBruijn32tab)] }
def TraceJoinsSaid : Prop := traceJoinsRow.holds Tryz.pinned (OpenSpec.ofChange traceJoinsSpec)

/-- ITS FALSE NEIGHBOUR: 'it returns false'. Refute it at one input. -/
def traceJoinsWrong : ChangeSpec := { name := "traceJoins", fn := fun _ => fun
  | [d1, d2, d3, d4] => { results := [.lit (.bool false)], args := [d1, d2, d3, d4] }
  | _ => none }
def TraceJoinsWrongFalsely : Prop := traceJoinsRow.holds Tryz.pinned (OpenSpec.ofChange traceJoinsWrong)

/- THE SECOND FORM. 'bulk': how many values and letters a reading holds, each counted each time it is reached (what is shared counts as often as it is met; a slice's spare places count too). A statement '..UptoSaid' is the law's where the arguments, and the package variables that the reading takes, are together of bulk at most 1048576: NARROWER than '..Said'. Prove '..Said' where nothing that the law and all that it calls make is longer than what came in: it says more and counts as full. Else prove '..UptoSaid'. A law counts once. -/
mutual
def uptoBulk {H : Type} : DataW H → Nat
  | .lit (.string bytes) => bytes.length + 1
  | .lit _ => 1
  | .nil => 1
  | .ptr d => uptoBulk d + 1
  | .slice elems spare => uptoBulkAll elems + uptoBulkAll spare + 1
  | .agg parts => uptoBulkAll parts + 1
  | .iface _ d => uptoBulk d + 1
  | .map entries => uptoBulkEntries entries + 1
  | .held _ => 1
def uptoBulkAll {H : Type} : List (DataW H) → Nat
  | [] => 0
  | d :: r => uptoBulk d + uptoBulkAll r
def uptoBulkEntries {H : Type} : List (Lit × DataW H) → Nat
  | [] => 0
  | x :: r => uptoBulkEntry x + uptoBulkEntries r
def uptoBulkEntry {H : Type} : Lit × DataW H → Nat
  | (.string bytes, d) => bytes.length + uptoBulk d + 1
  | (_, d) => uptoBulk d + 1
 end
def uptoSmall : (H : Type) → List (DataW H) → Bool := fun _ ds => decide (uptoBulkAll ds ≤ 1048576)
def OpenSpec.upto (s : _root_.Go.ChangeSpec) : _root_.Go.OpenSpec := { _root_.Go.OpenSpec.ofChange s with cond := some uptoSmall }

/-- 'hypercubelaw18.GlueMerges', WHERE WHAT IT READS IS OF BULK AT MOST 1048576: true; the input reads as it did. -/
def glueMergesUptoRow : OpenClaim := { program := "ytehekgbehghgdaagreatdoor", sum := "601847b4d446c538118b1f8b7a4e295fd576aa90f329fecb25eb273c68d75a4c", func := "hypercube/hypercubelaw18.GlueMerges", spec := "glueMerges", unfollowed := true, recurses := true, named := ["math/bits.deBruijn32tab"], loops := true, plainKeys := false, apart := false, laid := [("math/bits.deBruijn32tab", laid_math_bits_deBruijn32tab)], narrowed := true }
def GlueMergesUptoSaid : Prop := glueMergesUptoRow.holds Tryz.pinned (OpenSpec.upto glueMergesSpec)

/-- 'hypercubelaw17.HitElims', WHERE WHAT IT READS IS OF BULK AT MOST 1048576: true; the input reads as it did. -/
def hitElimsUptoRow : OpenClaim := { program := "ytehekgbehghgdaagreatdoor", sum := "601847b4d446c538118b1f8b7a4e295fd576aa90f329fecb25eb273c68d75a4c", func := "hypercube/hypercubelaw17.HitElims", spec := "hitElims", unfollowed := true, recurses := true, named := ["math/bits.deBruijn32tab"], loops := true, plainKeys := false, apart := false, laid := [("math/bits.deBruijn32tab", laid_math_bits_deBruijn32tab)], narrowed := true }
def HitElimsUptoSaid : Prop := hitElimsUptoRow.holds Tryz.pinned (OpenSpec.upto hitElimsSpec)

/-- 'hypercubelaw17.HitCarries', WHERE WHAT IT READS IS OF BULK AT MOST 1048576: true; the input reads as it did. -/
def hitCarriesUptoRow : OpenClaim := { program := "ytehekgbehghgdaagreatdoor", sum := "601847b4d446c538118b1f8b7a4e295fd576aa90f329fecb25eb273c68d75a4c", func := "hypercube/hypercubelaw17.HitCarries", spec := "hitCarries", unfollowed := true, recurses := true, named := ["math/bits.deBruijn32tab"], loops := true, plainKeys := false, apart := false, laid := [("math/bits.deBruijn32tab", laid_math_bits_deBruijn32tab)], narrowed := true }
def HitCarriesUptoSaid : Prop := hitCarriesUptoRow.holds Tryz.pinned (OpenSpec.upto hitCarriesSpec)

/-- 'hypercubelaw20.HcompSteps', WHERE WHAT IT READS IS OF BULK AT MOST 1048576: true; the input reads as it did. -/
def hcompStepsUptoRow : OpenClaim := { program := "ytehekgbehghgdaagreatdoor", sum := "601847b4d446c538118b1f8b7a4e295fd576aa90f329fecb25eb273c68d75a4c", func := "hypercube/hypercubelaw20.HcompSteps", spec := "hcompSteps", unfollowed := true, recurses := true, named := ["math/bits.deBruijn32tab"], loops := true, plainKeys := false, apart := false, laid := [("math/bits.deBruijn32tab", laid_math_bits_deBruijn32tab)], narrowed := true }
def HcompStepsUptoSaid : Prop := hcompStepsUptoRow.holds Tryz.pinned (OpenSpec.upto hcompStepsSpec)

/-- 'hypercubelaw19.TranspSwaps', WHERE WHAT IT READS IS OF BULK AT MOST 1048576: true; the input reads as it did. -/
def transpSwapsUptoRow : OpenClaim := { program := "ytehekgbehghgdaagreatdoor", sum := "601847b4d446c538118b1f8b7a4e295fd576aa90f329fecb25eb273c68d75a4c", func := "hypercube/hypercubelaw19.TranspSwaps", spec := "transpSwaps", unfollowed := true, recurses := true, named := ["math/bits.deBruijn32tab"], loops := true, plainKeys := false, apart := false, laid := [("math/bits.deBruijn32tab", laid_math_bits_deBruijn32tab)], narrowed := true }
def TranspSwapsUptoSaid : Prop := transpSwapsUptoRow.holds Tryz.pinned (OpenSpec.upto transpSwapsSpec)

/-- 'hypercubelaw21.StepMains', WHERE WHAT IT READS IS OF BULK AT MOST 1048576: true; the input reads as it did. -/
def stepMainsUptoRow : OpenClaim := { program := "ytehekgbehghgdaagreatdoor", sum := "601847b4d446c538118b1f8b7a4e295fd576aa90f329fecb25eb273c68d75a4c", func := "hypercube/hypercubelaw21.StepMains", spec := "stepMains", unfollowed := true, recurses := true, named := ["math/bits.deBruijn32tab"], loops := true, plainKeys := false, apart := false, laid := [("math/bits.deBruijn32tab", laid_math_bits_deBruijn32tab)], narrowed := true }
def StepMainsUptoSaid : Prop := stepMainsUptoRow.holds Tryz.pinned (OpenSpec.upto stepMainsSpec)

/-- 'hypercubelaw22.HeadMore', WHERE WHAT IT READS IS OF BULK AT MOST 1048576: true; the input reads as it did. -/
def headMoreUptoRow : OpenClaim := { program := "ytehekgbehghgdaagreatdoor", sum := "601847b4d446c538118b1f8b7a4e295fd576aa90f329fecb25eb273c68d75a4c", func := "hypercube/hypercubelaw22.HeadMore", spec := "headMore", unfollowed := true, recurses := true, named := ["math/bits.deBruijn32tab"], loops := true, plainKeys := false, apart := false, laid := [("math/bits.deBruijn32tab", laid_math_bits_deBruijn32tab)], narrowed := true }
def HeadMoreUptoSaid : Prop := headMoreUptoRow.holds Tryz.pinned (OpenSpec.upto headMoreSpec)

/-- 'hypercubelaw22.HeadStops', WHERE WHAT IT READS IS OF BULK AT MOST 1048576: true; the input reads as it did. -/
def headStopsUptoRow : OpenClaim := { program := "ytehekgbehghgdaagreatdoor", sum := "601847b4d446c538118b1f8b7a4e295fd576aa90f329fecb25eb273c68d75a4c", func := "hypercube/hypercubelaw22.HeadStops", spec := "headStops", unfollowed := true, recurses := true, named := ["math/bits.deBruijn32tab"], loops := true, plainKeys := false, apart := false, laid := [("math/bits.deBruijn32tab", laid_math_bits_deBruijn32tab)], narrowed := true }
def HeadStopsUptoSaid : Prop := headStopsUptoRow.holds Tryz.pinned (OpenSpec.upto headStopsSpec)

/-- 'hypercubelaw23.NormMore', WHERE WHAT IT READS IS OF BULK AT MOST 1048576: true; the input reads as it did. -/
def normMoreUptoRow : OpenClaim := { program := "ytehekgbehghgdaagreatdoor", sum := "601847b4d446c538118b1f8b7a4e295fd576aa90f329fecb25eb273c68d75a4c", func := "hypercube/hypercubelaw23.NormMore", spec := "normMore", unfollowed := true, recurses := true, named := ["math/bits.deBruijn32tab"], loops := true, plainKeys := false, apart := false, laid := [("math/bits.deBruijn32tab", laid_math_bits_deBruijn32tab)], narrowed := true }
def NormMoreUptoSaid : Prop := normMoreUptoRow.holds Tryz.pinned (OpenSpec.upto normMoreSpec)

/-- 'hypercubelaw23.NormStill', WHERE WHAT IT READS IS OF BULK AT MOST 1048576: true; the input reads as it did. -/
def normStillUptoRow : OpenClaim := { program := "ytehekgbehghgdaagreatdoor", sum := "601847b4d446c538118b1f8b7a4e295fd576aa90f329fecb25eb273c68d75a4c", func := "hypercube/hypercubelaw23.NormStill", spec := "normStill", unfollowed := true, recurses := true, named := ["math/bits.deBruijn32tab"], loops := true, plainKeys := false, apart := false, laid := [("math/bits.deBruijn32tab", laid_math_bits_deBruijn32tab)], narrowed := true }
def NormStillUptoSaid : Prop := normStillUptoRow.holds Tryz.pinned (OpenSpec.upto normStillSpec)

/-- 'hypercubelaw23.NormSteps', WHERE WHAT IT READS IS OF BULK AT MOST 1048576: true; the input reads as it did. -/
def normStepsUptoRow : OpenClaim := { program := "ytehekgbehghgdaagreatdoor", sum := "601847b4d446c538118b1f8b7a4e295fd576aa90f329fecb25eb273c68d75a4c", func := "hypercube/hypercubelaw23.NormSteps", spec := "normSteps", unfollowed := true, recurses := true, named := ["math/bits.deBruijn32tab"], loops := true, plainKeys := false, apart := false, laid := [("math/bits.deBruijn32tab", laid_math_bits_deBruijn32tab)], narrowed := true }
def NormStepsUptoSaid : Prop := normStepsUptoRow.holds Tryz.pinned (OpenSpec.upto normStepsSpec)

/-- 'hypercubelaw31.TraceJoins', WHERE WHAT IT READS IS OF BULK AT MOST 1048576: true; the input reads as it did. -/
def traceJoinsUptoRow : OpenClaim := { program := "ytehekgbehghgdaagreatdoor", sum := "601847b4d446c538118b1f8b7a4e295fd576aa90f329fecb25eb273c68d75a4c", func := "hypercube/hypercubelaw31.TraceJoins", spec := "traceJoins", unfollowed := true, recurses := true, named := ["math/bits.deBruijn32tab"], loops := true, plainKeys := false, apart := false, laid := [("math/bits.deBruijn32tab", laid_math_bits_deBruijn32tab)], narrowed := true }
def TraceJoinsUptoSaid : Prop := traceJoinsUptoRow.holds Tryz.pinned (OpenSpec.upto traceJoinsSpec)

end Rows
end Go.Proofs.YtehekgbehghgdaaGreatDoor
