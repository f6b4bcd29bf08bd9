/-
  No cell of these rows narrows 'for every input' (looked for: loops, veiled, ifaces, maps, wideKeys, modest, calm, conditions, laid).
  DERIVED. THE GIVEN ROWS OF THIS SEAT. 32 by the template 'for every input the law returns true; each argument reads behind the call as it read before'; 0 by the template 'total and deterministic' (their statements: YtbnndmkkmceenaaTotals.lean).
  GIVEN WITH THE SEED: the statements are not yours to turn. If you find one false, say at which input.
  Laid BY PROGRAM, IN A SANDBOX (cutbox-rows.mjs): the forced cells as the released guide's own fill.sh prints them over the translation 0ddb7cbf4426554f… (all of the seat's roots in one cut). By AI agents, Wed Nov 11 2026. No macro, syntax, notation, axiom, sorry.
-/
import Derived.Test.YtbnndmkkmceenaaChecked
import GoSem.Claim
import GoSem.ClaimJoined
import GoSem.ClaimMapViews
import Derived.JoinedTies
import Derived.KernelRfl
namespace Go.Proofs.Ytbnndmkkmceenaa
/- THE CELL 'sum', in the pinned program and in every row, IS THE sha256 OF THE DUMP (.gsa) THAT YtbnndmkkmceenaaProg.lean LOADS. Nothing in Lean hashes anything: it is a label: what it is worth is what the hold of that sum in a sandbox is worth. -/
noncomputable def Try.pinned : Pinned := { name := "ytbnndmkkmceenaa", sum := "0ddb7cbf4426554f5e1374c9b39fda88c244813cad481ef020db6e77f5ef9db5", checked := Try.checked }
namespace Rows
def none {H : Type} : Left H := { results := [], args := [] }

/-- 'laws.FnLoopOf': WHATEVER THE INPUT: true; the input reads as it did. -/
def fnLoopOfSpec : ChangeSpec := { name := "fnLoopOf", fn := fun _ => fun
  | [d] => { results := [.lit (.bool true)], args := [d] }
  | _ => none }
def fnLoopOfRow : OpenClaim := { program := "ytbnndmkkmceenaa", sum := "0ddb7cbf4426554f5e1374c9b39fda88c244813cad481ef020db6e77f5ef9db5", func := "loop.example/levellingnet/laws.FnLoopOf", spec := "fnLoopOf", recurses := true, apart := false }
def FnLoopOfSaid : Prop := fnLoopOfRow.holds Try.pinned (OpenSpec.ofChange fnLoopOfSpec)

/-- ITS FALSE NEIGHBOUR: 'it returns false'. Refute it at one input. -/
def fnLoopOfWrong : ChangeSpec := { name := "fnLoopOf", fn := fun _ => fun
  | [d] => { results := [.lit (.bool false)], args := [d] }
  | _ => none }
def FnLoopOfWrongFalsely : Prop := fnLoopOfRow.holds Try.pinned (OpenSpec.ofChange fnLoopOfWrong)

/-- 'laws.FnExactNetValid': WHATEVER THE INPUT: true; the input reads as it did. -/
def fnExactNetValidSpec : ChangeSpec := { name := "fnExactNetValid", fn := fun _ => fun
  | [d1, d2] => { results := [.lit (.bool true)], args := [d1, d2] }
  | _ => none }
def fnExactNetValidRow : OpenClaim := { program := "ytbnndmkkmceenaa", sum := "0ddb7cbf4426554f5e1374c9b39fda88c244813cad481ef020db6e77f5ef9db5", func := "loop.example/levellingnet/laws.FnExactNetValid", spec := "fnExactNetValid", apart := false }
def FnExactNetValidSaid : Prop := fnExactNetValidRow.holds Try.pinned (OpenSpec.ofChange fnExactNetValidSpec)

/-- ITS FALSE NEIGHBOUR: 'it returns false'. Refute it at one input. -/
def fnExactNetValidWrong : ChangeSpec := { name := "fnExactNetValid", fn := fun _ => fun
  | [d1, d2] => { results := [.lit (.bool false)], args := [d1, d2] }
  | _ => none }
def FnExactNetValidWrongFalsely : Prop := fnExactNetValidRow.holds Try.pinned (OpenSpec.ofChange fnExactNetValidWrong)

/-- 'laws.FnExactLoopErrors': WHATEVER THE INPUT: true; the input reads as it did. -/
def fnExactLoopErrorsSpec : ChangeSpec := { name := "fnExactLoopErrors", fn := fun _ => fun
  | [d1, d2] => { results := [.lit (.bool true)], args := [d1, d2] }
  | _ => none }
def fnExactLoopErrorsRow : OpenClaim := { program := "ytbnndmkkmceenaa", sum := "0ddb7cbf4426554f5e1374c9b39fda88c244813cad481ef020db6e77f5ef9db5", func := "loop.example/levellingnet/laws.FnExactLoopErrors", spec := "fnExactLoopErrors", recurses := true, apart := false }
def FnExactLoopErrorsSaid : Prop := fnExactLoopErrorsRow.holds Try.pinned (OpenSpec.ofChange fnExactLoopErrorsSpec)

/-- ITS FALSE NEIGHBOUR: 'it returns false'. Refute it at one input. -/
def fnExactLoopErrorsWrong : ChangeSpec := { name := "fnExactLoopErrors", fn := fun _ => fun
  | [d1, d2] => { results := [.lit (.bool false)], args := [d1, d2] }
  | _ => none }
def FnExactLoopErrorsWrongFalsely : Prop := fnExactLoopErrorsRow.holds Try.pinned (OpenSpec.ofChange fnExactLoopErrorsWrong)

/-- 'laws.FnExactNetBack': WHATEVER THE INPUT: true; the input reads as it did. -/
def fnExactNetBackSpec : ChangeSpec := { name := "fnExactNetBack", fn := fun _ => fun
  | [d1, d2, d3] => { results := [.lit (.bool true)], args := [d1, d2, d3] }
  | _ => none }
def fnExactNetBackRow : OpenClaim := { program := "ytbnndmkkmceenaa", sum := "0ddb7cbf4426554f5e1374c9b39fda88c244813cad481ef020db6e77f5ef9db5", func := "loop.example/levellingnet/laws.FnExactNetBack", spec := "fnExactNetBack", apart := false }
def FnExactNetBackSaid : Prop := fnExactNetBackRow.holds Try.pinned (OpenSpec.ofChange fnExactNetBackSpec)

/-- ITS FALSE NEIGHBOUR: 'it returns false'. Refute it at one input. -/
def fnExactNetBackWrong : ChangeSpec := { name := "fnExactNetBack", fn := fun _ => fun
  | [d1, d2, d3] => { results := [.lit (.bool false)], args := [d1, d2, d3] }
  | _ => none }
def FnExactNetBackWrongFalsely : Prop := fnExactNetBackRow.holds Try.pinned (OpenSpec.ofChange fnExactNetBackWrong)

/-- 'laws.FnLoopErrorsShift': WHATEVER THE INPUT: true; the input reads as it did. -/
def fnLoopErrorsShiftSpec : ChangeSpec := { name := "fnLoopErrorsShift", fn := fun _ => fun
  | [d1, d2] => { results := [.lit (.bool true)], args := [d1, d2] }
  | _ => none }
def fnLoopErrorsShiftRow : OpenClaim := { program := "ytbnndmkkmceenaa", sum := "0ddb7cbf4426554f5e1374c9b39fda88c244813cad481ef020db6e77f5ef9db5", func := "loop.example/levellingnet/laws.FnLoopErrorsShift", spec := "fnLoopErrorsShift", recurses := true, apart := false }
def FnLoopErrorsShiftSaid : Prop := fnLoopErrorsShiftRow.holds Try.pinned (OpenSpec.ofChange fnLoopErrorsShiftSpec)

/-- ITS FALSE NEIGHBOUR: 'it returns false'. Refute it at one input. -/
def fnLoopErrorsShiftWrong : ChangeSpec := { name := "fnLoopErrorsShift", fn := fun _ => fun
  | [d1, d2] => { results := [.lit (.bool false)], args := [d1, d2] }
  | _ => none }
def FnLoopErrorsShiftWrongFalsely : Prop := fnLoopErrorsShiftRow.holds Try.pinned (OpenSpec.ofChange fnLoopErrorsShiftWrong)

/-- 'laws.FnExactNetFits': WHATEVER THE INPUT: true; the input reads as it did. -/
def fnExactNetFitsSpec : ChangeSpec := { name := "fnExactNetFits", fn := fun _ => fun
  | [d1, d2, d3] => { results := [.lit (.bool true)], args := [d1, d2, d3] }
  | _ => none }
def fnExactNetFitsRow : OpenClaim := { program := "ytbnndmkkmceenaa", sum := "0ddb7cbf4426554f5e1374c9b39fda88c244813cad481ef020db6e77f5ef9db5", func := "loop.example/levellingnet/laws.FnExactNetFits", spec := "fnExactNetFits", apart := false }
def FnExactNetFitsSaid : Prop := fnExactNetFitsRow.holds Try.pinned (OpenSpec.ofChange fnExactNetFitsSpec)

/-- ITS FALSE NEIGHBOUR: 'it returns false'. Refute it at one input. -/
def fnExactNetFitsWrong : ChangeSpec := { name := "fnExactNetFits", fn := fun _ => fun
  | [d1, d2, d3] => { results := [.lit (.bool false)], args := [d1, d2, d3] }
  | _ => none }
def FnExactNetFitsWrongFalsely : Prop := fnExactNetFitsRow.holds Try.pinned (OpenSpec.ofChange fnExactNetFitsWrong)

/-- 'laws.FnExactLoopIs': WHATEVER THE INPUT: true; the input reads as it did. -/
def fnExactLoopIsSpec : ChangeSpec := { name := "fnExactLoopIs", fn := fun _ => fun
  | [d1, d2, d3] => { results := [.lit (.bool true)], args := [d1, d2, d3] }
  | _ => none }
def fnExactLoopIsRow : OpenClaim := { program := "ytbnndmkkmceenaa", sum := "0ddb7cbf4426554f5e1374c9b39fda88c244813cad481ef020db6e77f5ef9db5", func := "loop.example/levellingnet/laws.FnExactLoopIs", spec := "fnExactLoopIs", apart := false }
def FnExactLoopIsSaid : Prop := fnExactLoopIsRow.holds Try.pinned (OpenSpec.ofChange fnExactLoopIsSpec)

/-- ITS FALSE NEIGHBOUR: 'it returns false'. Refute it at one input. -/
def fnExactLoopIsWrong : ChangeSpec := { name := "fnExactLoopIs", fn := fun _ => fun
  | [d1, d2, d3] => { results := [.lit (.bool false)], args := [d1, d2, d3] }
  | _ => none }
def FnExactLoopIsWrongFalsely : Prop := fnExactLoopIsRow.holds Try.pinned (OpenSpec.ofChange fnExactLoopIsWrong)

/-- 'laws.FnExactLoopError': WHATEVER THE INPUT: true; the input reads as it did. -/
def fnExactLoopErrorSpec : ChangeSpec := { name := "fnExactLoopError", fn := fun _ => fun
  | [d1, d2, d3] => { results := [.lit (.bool true)], args := [d1, d2, d3] }
  | _ => none }
def fnExactLoopErrorRow : OpenClaim := { program := "ytbnndmkkmceenaa", sum := "0ddb7cbf4426554f5e1374c9b39fda88c244813cad481ef020db6e77f5ef9db5", func := "loop.example/levellingnet/laws.FnExactLoopError", spec := "fnExactLoopError", apart := false }
def FnExactLoopErrorSaid : Prop := fnExactLoopErrorRow.holds Try.pinned (OpenSpec.ofChange fnExactLoopErrorSpec)

/-- ITS FALSE NEIGHBOUR: 'it returns false'. Refute it at one input. -/
def fnExactLoopErrorWrong : ChangeSpec := { name := "fnExactLoopError", fn := fun _ => fun
  | [d1, d2, d3] => { results := [.lit (.bool false)], args := [d1, d2, d3] }
  | _ => none }
def FnExactLoopErrorWrongFalsely : Prop := fnExactLoopErrorRow.holds Try.pinned (OpenSpec.ofChange fnExactLoopErrorWrong)

/-- 'laws.FnExactNetWhole': WHATEVER THE INPUT: true; the input reads as it did. -/
def fnExactNetWholeSpec : ChangeSpec := { name := "fnExactNetWhole", fn := fun _ => fun
  | [d1, d2] => { results := [.lit (.bool true)], args := [d1, d2] }
  | _ => none }
def fnExactNetWholeRow : OpenClaim := { program := "ytbnndmkkmceenaa", sum := "0ddb7cbf4426554f5e1374c9b39fda88c244813cad481ef020db6e77f5ef9db5", func := "loop.example/levellingnet/laws.FnExactNetWhole", spec := "fnExactNetWhole", apart := false }
def FnExactNetWholeSaid : Prop := fnExactNetWholeRow.holds Try.pinned (OpenSpec.ofChange fnExactNetWholeSpec)

/-- ITS FALSE NEIGHBOUR: 'it returns false'. Refute it at one input. -/
def fnExactNetWholeWrong : ChangeSpec := { name := "fnExactNetWhole", fn := fun _ => fun
  | [d1, d2] => { results := [.lit (.bool false)], args := [d1, d2] }
  | _ => none }
def FnExactNetWholeWrongFalsely : Prop := fnExactNetWholeRow.holds Try.pinned (OpenSpec.ofChange fnExactNetWholeWrong)

/-- 'laws.FnExactNetLoops': WHATEVER THE INPUT: true; the input reads as it did. -/
def fnExactNetLoopsSpec : ChangeSpec := { name := "fnExactNetLoops", fn := fun _ => fun
  | [d1, d2] => { results := [.lit (.bool true)], args := [d1, d2] }
  | _ => none }
def fnExactNetLoopsRow : OpenClaim := { program := "ytbnndmkkmceenaa", sum := "0ddb7cbf4426554f5e1374c9b39fda88c244813cad481ef020db6e77f5ef9db5", func := "loop.example/levellingnet/laws.FnExactNetLoops", spec := "fnExactNetLoops", apart := false }
def FnExactNetLoopsSaid : Prop := fnExactNetLoopsRow.holds Try.pinned (OpenSpec.ofChange fnExactNetLoopsSpec)

/-- ITS FALSE NEIGHBOUR: 'it returns false'. Refute it at one input. -/
def fnExactNetLoopsWrong : ChangeSpec := { name := "fnExactNetLoops", fn := fun _ => fun
  | [d1, d2] => { results := [.lit (.bool false)], args := [d1, d2] }
  | _ => none }
def FnExactNetLoopsWrongFalsely : Prop := fnExactNetLoopsRow.holds Try.pinned (OpenSpec.ofChange fnExactNetLoopsWrong)

/-- 'laws.FnExactLoopBack': WHATEVER THE INPUT: true; the input reads as it did. -/
def fnExactLoopBackSpec : ChangeSpec := { name := "fnExactLoopBack", fn := fun _ => fun
  | [d1, d2, d3] => { results := [.lit (.bool true)], args := [d1, d2, d3] }
  | _ => none }
def fnExactLoopBackRow : OpenClaim := { program := "ytbnndmkkmceenaa", sum := "0ddb7cbf4426554f5e1374c9b39fda88c244813cad481ef020db6e77f5ef9db5", func := "loop.example/levellingnet/laws.FnExactLoopBack", spec := "fnExactLoopBack", apart := false }
def FnExactLoopBackSaid : Prop := fnExactLoopBackRow.holds Try.pinned (OpenSpec.ofChange fnExactLoopBackSpec)

/-- ITS FALSE NEIGHBOUR: 'it returns false'. Refute it at one input. -/
def fnExactLoopBackWrong : ChangeSpec := { name := "fnExactLoopBack", fn := fun _ => fun
  | [d1, d2, d3] => { results := [.lit (.bool false)], args := [d1, d2, d3] }
  | _ => none }
def FnExactLoopBackWrongFalsely : Prop := fnExactLoopBackRow.holds Try.pinned (OpenSpec.ofChange fnExactLoopBackWrong)

/-- 'laws.FnExactNetLinked': WHATEVER THE INPUT: true; the input reads as it did. -/
def fnExactNetLinkedSpec : ChangeSpec := { name := "fnExactNetLinked", fn := fun _ => fun
  | [d1, d2] => { results := [.lit (.bool true)], args := [d1, d2] }
  | _ => none }
def fnExactNetLinkedRow : OpenClaim := { program := "ytbnndmkkmceenaa", sum := "0ddb7cbf4426554f5e1374c9b39fda88c244813cad481ef020db6e77f5ef9db5", func := "loop.example/levellingnet/laws.FnExactNetLinked", spec := "fnExactNetLinked", apart := false }
def FnExactNetLinkedSaid : Prop := fnExactNetLinkedRow.holds Try.pinned (OpenSpec.ofChange fnExactNetLinkedSpec)

/-- ITS FALSE NEIGHBOUR: 'it returns false'. Refute it at one input. -/
def fnExactNetLinkedWrong : ChangeSpec := { name := "fnExactNetLinked", fn := fun _ => fun
  | [d1, d2] => { results := [.lit (.bool false)], args := [d1, d2] }
  | _ => none }
def FnExactNetLinkedWrongFalsely : Prop := fnExactNetLinkedRow.holds Try.pinned (OpenSpec.ofChange fnExactNetLinkedWrong)

/-- 'laws.FnLinked': WHATEVER THE INPUT: true; the input reads as it did. -/
def fnLinkedSpec : ChangeSpec := { name := "fnLinked", fn := fun _ => fun
  | [d] => { results := [.lit (.bool true)], args := [d] }
  | _ => none }
def fnLinkedRow : OpenClaim := { program := "ytbnndmkkmceenaa", sum := "0ddb7cbf4426554f5e1374c9b39fda88c244813cad481ef020db6e77f5ef9db5", func := "loop.example/levellingnet/laws.FnLinked", spec := "fnLinked", apart := false }
def FnLinkedSaid : Prop := fnLinkedRow.holds Try.pinned (OpenSpec.ofChange fnLinkedSpec)

/-- ITS FALSE NEIGHBOUR: 'it returns false'. Refute it at one input. -/
def fnLinkedWrong : ChangeSpec := { name := "fnLinked", fn := fun _ => fun
  | [d] => { results := [.lit (.bool false)], args := [d] }
  | _ => none }
def FnLinkedWrongFalsely : Prop := fnLinkedRow.holds Try.pinned (OpenSpec.ofChange fnLinkedWrong)

/-- 'laws.FnLoopsRun': WHATEVER THE INPUT: true; the input reads as it did. -/
def fnLoopsRunSpec : ChangeSpec := { name := "fnLoopsRun", fn := fun _ => fun
  | [d] => { results := [.lit (.bool true)], args := [d] }
  | _ => none }
def fnLoopsRunRow : OpenClaim := { program := "ytbnndmkkmceenaa", sum := "0ddb7cbf4426554f5e1374c9b39fda88c244813cad481ef020db6e77f5ef9db5", func := "loop.example/levellingnet/laws.FnLoopsRun", spec := "fnLoopsRun", apart := false }
def FnLoopsRunSaid : Prop := fnLoopsRunRow.holds Try.pinned (OpenSpec.ofChange fnLoopsRunSpec)

/-- ITS FALSE NEIGHBOUR: 'it returns false'. Refute it at one input. -/
def fnLoopsRunWrong : ChangeSpec := { name := "fnLoopsRun", fn := fun _ => fun
  | [d] => { results := [.lit (.bool false)], args := [d] }
  | _ => none }
def FnLoopsRunWrongFalsely : Prop := fnLoopsRunRow.holds Try.pinned (OpenSpec.ofChange fnLoopsRunWrong)

/-- 'laws.FnFits': WHATEVER THE INPUT: true; the input reads as it did. -/
def fnFitsSpec : ChangeSpec := { name := "fnFits", fn := fun _ => fun
  | [d1, d2] => { results := [.lit (.bool true)], args := [d1, d2] }
  | _ => none }
def fnFitsRow : OpenClaim := { program := "ytbnndmkkmceenaa", sum := "0ddb7cbf4426554f5e1374c9b39fda88c244813cad481ef020db6e77f5ef9db5", func := "loop.example/levellingnet/laws.FnFits", spec := "fnFits", apart := false }
def FnFitsSaid : Prop := fnFitsRow.holds Try.pinned (OpenSpec.ofChange fnFitsSpec)

/-- ITS FALSE NEIGHBOUR: 'it returns false'. Refute it at one input. -/
def fnFitsWrong : ChangeSpec := { name := "fnFits", fn := fun _ => fun
  | [d1, d2] => { results := [.lit (.bool false)], args := [d1, d2] }
  | _ => none }
def FnFitsWrongFalsely : Prop := fnFitsRow.holds Try.pinned (OpenSpec.ofChange fnFitsWrong)

/-- 'laws.FnExactTreeIs': WHATEVER THE INPUT: true; the input reads as it did. -/
def fnExactTreeIsSpec : ChangeSpec := { name := "fnExactTreeIs", fn := fun _ => fun
  | [d1, d2, d3] => { results := [.lit (.bool true)], args := [d1, d2, d3] }
  | _ => none }
def fnExactTreeIsRow : OpenClaim := { program := "ytbnndmkkmceenaa", sum := "0ddb7cbf4426554f5e1374c9b39fda88c244813cad481ef020db6e77f5ef9db5", func := "loop.example/levellingnet/laws.FnExactTreeIs", spec := "fnExactTreeIs", apart := false }
def FnExactTreeIsSaid : Prop := fnExactTreeIsRow.holds Try.pinned (OpenSpec.ofChange fnExactTreeIsSpec)

/-- ITS FALSE NEIGHBOUR: 'it returns false'. Refute it at one input. -/
def fnExactTreeIsWrong : ChangeSpec := { name := "fnExactTreeIs", fn := fun _ => fun
  | [d1, d2, d3] => { results := [.lit (.bool false)], args := [d1, d2, d3] }
  | _ => none }
def FnExactTreeIsWrongFalsely : Prop := fnExactTreeIsRow.holds Try.pinned (OpenSpec.ofChange fnExactTreeIsWrong)

/-- 'laws.FnTreeFirst': WHATEVER THE INPUT: true; the input reads as it did. -/
def fnTreeFirstSpec : ChangeSpec := { name := "fnTreeFirst", fn := fun _ => fun
  | [d] => { results := [.lit (.bool true)], args := [d] }
  | _ => none }
def fnTreeFirstRow : OpenClaim := { program := "ytbnndmkkmceenaa", sum := "0ddb7cbf4426554f5e1374c9b39fda88c244813cad481ef020db6e77f5ef9db5", func := "loop.example/levellingnet/laws.FnTreeFirst", spec := "fnTreeFirst", apart := false }
def FnTreeFirstSaid : Prop := fnTreeFirstRow.holds Try.pinned (OpenSpec.ofChange fnTreeFirstSpec)

/-- ITS FALSE NEIGHBOUR: 'it returns false'. Refute it at one input. -/
def fnTreeFirstWrong : ChangeSpec := { name := "fnTreeFirst", fn := fun _ => fun
  | [d] => { results := [.lit (.bool false)], args := [d] }
  | _ => none }
def FnTreeFirstWrongFalsely : Prop := fnTreeFirstRow.holds Try.pinned (OpenSpec.ofChange fnTreeFirstWrong)

/-- 'laws.FnNetBack': WHATEVER THE INPUT: true; the input reads as it did. -/
def fnNetBackSpec : ChangeSpec := { name := "fnNetBack", fn := fun _ => fun
  | [d1, d2] => { results := [.lit (.bool true)], args := [d1, d2] }
  | _ => none }
def fnNetBackRow : OpenClaim := { program := "ytbnndmkkmceenaa", sum := "0ddb7cbf4426554f5e1374c9b39fda88c244813cad481ef020db6e77f5ef9db5", func := "loop.example/levellingnet/laws.FnNetBack", spec := "fnNetBack", apart := false }
def FnNetBackSaid : Prop := fnNetBackRow.holds Try.pinned (OpenSpec.ofChange fnNetBackSpec)

/-- ITS FALSE NEIGHBOUR: 'it returns false'. Refute it at one input. -/
def fnNetBackWrong : ChangeSpec := { name := "fnNetBack", fn := fun _ => fun
  | [d1, d2] => { results := [.lit (.bool false)], args := [d1, d2] }
  | _ => none }
def FnNetBackWrongFalsely : Prop := fnNetBackRow.holds Try.pinned (OpenSpec.ofChange fnNetBackWrong)

/-- 'laws.FnExactTreeFirst': WHATEVER THE INPUT: true; the input reads as it did. -/
def fnExactTreeFirstSpec : ChangeSpec := { name := "fnExactTreeFirst", fn := fun _ => fun
  | [d1, d2] => { results := [.lit (.bool true)], args := [d1, d2] }
  | _ => none }
def fnExactTreeFirstRow : OpenClaim := { program := "ytbnndmkkmceenaa", sum := "0ddb7cbf4426554f5e1374c9b39fda88c244813cad481ef020db6e77f5ef9db5", func := "loop.example/levellingnet/laws.FnExactTreeFirst", spec := "fnExactTreeFirst", apart := false }
def FnExactTreeFirstSaid : Prop := fnExactTreeFirstRow.holds Try.pinned (OpenSpec.ofChange fnExactTreeFirstSpec)

/-- ITS FALSE NEIGHBOUR: 'it returns false'. Refute it at one input. -/
def fnExactTreeFirstWrong : ChangeSpec := { name := "fnExactTreeFirst", fn := fun _ => fun
  | [d1, d2] => { results := [.lit (.bool false)], args := [d1, d2] }
  | _ => none }
def FnExactTreeFirstWrongFalsely : Prop := fnExactTreeFirstRow.holds Try.pinned (OpenSpec.ofChange fnExactTreeFirstWrong)

/-- 'laws.FnExactTreeMany': WHATEVER THE INPUT: true; the input reads as it did. -/
def fnExactTreeManySpec : ChangeSpec := { name := "fnExactTreeMany", fn := fun _ => fun
  | [d1, d2] => { results := [.lit (.bool true)], args := [d1, d2] }
  | _ => none }
def fnExactTreeManyRow : OpenClaim := { program := "ytbnndmkkmceenaa", sum := "0ddb7cbf4426554f5e1374c9b39fda88c244813cad481ef020db6e77f5ef9db5", func := "loop.example/levellingnet/laws.FnExactTreeMany", spec := "fnExactTreeMany", unfollowed := true, recurses := true, apart := false }
def FnExactTreeManySaid : Prop := fnExactTreeManyRow.holds Try.pinned (OpenSpec.ofChange fnExactTreeManySpec)

/-- ITS FALSE NEIGHBOUR: 'it returns false'. Refute it at one input. -/
def fnExactTreeManyWrong : ChangeSpec := { name := "fnExactTreeMany", fn := fun _ => fun
  | [d1, d2] => { results := [.lit (.bool false)], args := [d1, d2] }
  | _ => none }
def FnExactTreeManyWrongFalsely : Prop := fnExactTreeManyRow.holds Try.pinned (OpenSpec.ofChange fnExactTreeManyWrong)

/-- 'laws.FnLoop': WHATEVER THE INPUT: true; the input reads as it did. -/
def fnLoopSpec : ChangeSpec := { name := "fnLoop", fn := fun _ => fun
  | [d1, d2] => { results := [.lit (.bool true)], args := [d1, d2] }
  | _ => none }
def fnLoopRow : OpenClaim := { program := "ytbnndmkkmceenaa", sum := "0ddb7cbf4426554f5e1374c9b39fda88c244813cad481ef020db6e77f5ef9db5", func := "loop.example/levellingnet/laws.FnLoop", spec := "fnLoop", recurses := true, apart := false }
def FnLoopSaid : Prop := fnLoopRow.holds Try.pinned (OpenSpec.ofChange fnLoopSpec)

/-- ITS FALSE NEIGHBOUR: 'it returns false'. Refute it at one input. -/
def fnLoopWrong : ChangeSpec := { name := "fnLoop", fn := fun _ => fun
  | [d1, d2] => { results := [.lit (.bool false)], args := [d1, d2] }
  | _ => none }
def FnLoopWrongFalsely : Prop := fnLoopRow.holds Try.pinned (OpenSpec.ofChange fnLoopWrong)

/-- 'laws.FnTree': WHATEVER THE INPUT: true; the input reads as it did. -/
def fnTreeSpec : ChangeSpec := { name := "fnTree", fn := fun _ => fun
  | [d1, d2] => { results := [.lit (.bool true)], args := [d1, d2] }
  | _ => none }
def fnTreeRow : OpenClaim := { program := "ytbnndmkkmceenaa", sum := "0ddb7cbf4426554f5e1374c9b39fda88c244813cad481ef020db6e77f5ef9db5", func := "loop.example/levellingnet/laws.FnTree", spec := "fnTree", apart := false }
def FnTreeSaid : Prop := fnTreeRow.holds Try.pinned (OpenSpec.ofChange fnTreeSpec)

/-- ITS FALSE NEIGHBOUR: 'it returns false'. Refute it at one input. -/
def fnTreeWrong : ChangeSpec := { name := "fnTree", fn := fun _ => fun
  | [d1, d2] => { results := [.lit (.bool false)], args := [d1, d2] }
  | _ => none }
def FnTreeWrongFalsely : Prop := fnTreeRow.holds Try.pinned (OpenSpec.ofChange fnTreeWrong)

/-- 'laws.FnTreeExchange': WHATEVER THE INPUT: true; the input reads as it did. -/
def fnTreeExchangeSpec : ChangeSpec := { name := "fnTreeExchange", fn := fun _ => fun
  | [d] => { results := [.lit (.bool true)], args := [d] }
  | _ => none }
def fnTreeExchangeRow : OpenClaim := { program := "ytbnndmkkmceenaa", sum := "0ddb7cbf4426554f5e1374c9b39fda88c244813cad481ef020db6e77f5ef9db5", func := "loop.example/levellingnet/laws.FnTreeExchange", spec := "fnTreeExchange", apart := false }
def FnTreeExchangeSaid : Prop := fnTreeExchangeRow.holds Try.pinned (OpenSpec.ofChange fnTreeExchangeSpec)

/-- ITS FALSE NEIGHBOUR: 'it returns false'. Refute it at one input. -/
def fnTreeExchangeWrong : ChangeSpec := { name := "fnTreeExchange", fn := fun _ => fun
  | [d] => { results := [.lit (.bool false)], args := [d] }
  | _ => none }
def FnTreeExchangeWrongFalsely : Prop := fnTreeExchangeRow.holds Try.pinned (OpenSpec.ofChange fnTreeExchangeWrong)

/-- 'laws.FnExactTreeWeight': WHATEVER THE INPUT: true; the input reads as it did. -/
def fnExactTreeWeightSpec : ChangeSpec := { name := "fnExactTreeWeight", fn := fun _ => fun
  | [d1, d2] => { results := [.lit (.bool true)], args := [d1, d2] }
  | _ => none }
def fnExactTreeWeightRow : OpenClaim := { program := "ytbnndmkkmceenaa", sum := "0ddb7cbf4426554f5e1374c9b39fda88c244813cad481ef020db6e77f5ef9db5", func := "loop.example/levellingnet/laws.FnExactTreeWeight", spec := "fnExactTreeWeight", unfollowed := true, recurses := true, apart := false }
def FnExactTreeWeightSaid : Prop := fnExactTreeWeightRow.holds Try.pinned (OpenSpec.ofChange fnExactTreeWeightSpec)

/-- ITS FALSE NEIGHBOUR: 'it returns false'. Refute it at one input. -/
def fnExactTreeWeightWrong : ChangeSpec := { name := "fnExactTreeWeight", fn := fun _ => fun
  | [d1, d2] => { results := [.lit (.bool false)], args := [d1, d2] }
  | _ => none }
def FnExactTreeWeightWrongFalsely : Prop := fnExactTreeWeightRow.holds Try.pinned (OpenSpec.ofChange fnExactTreeWeightWrong)

/-- 'laws.FnLoopBack': WHATEVER THE INPUT: true; the input reads as it did. -/
def fnLoopBackSpec : ChangeSpec := { name := "fnLoopBack", fn := fun _ => fun
  | [d] => { results := [.lit (.bool true)], args := [d] }
  | _ => none }
def fnLoopBackRow : OpenClaim := { program := "ytbnndmkkmceenaa", sum := "0ddb7cbf4426554f5e1374c9b39fda88c244813cad481ef020db6e77f5ef9db5", func := "loop.example/levellingnet/laws.FnLoopBack", spec := "fnLoopBack", recurses := true, apart := false }
def FnLoopBackSaid : Prop := fnLoopBackRow.holds Try.pinned (OpenSpec.ofChange fnLoopBackSpec)

/-- ITS FALSE NEIGHBOUR: 'it returns false'. Refute it at one input. -/
def fnLoopBackWrong : ChangeSpec := { name := "fnLoopBack", fn := fun _ => fun
  | [d] => { results := [.lit (.bool false)], args := [d] }
  | _ => none }
def FnLoopBackWrongFalsely : Prop := fnLoopBackRow.holds Try.pinned (OpenSpec.ofChange fnLoopBackWrong)

/-- 'laws.FnTreeMany': WHATEVER THE INPUT: true; the input reads as it did. -/
def fnTreeManySpec : ChangeSpec := { name := "fnTreeMany", fn := fun _ => fun
  | [d] => { results := [.lit (.bool true)], args := [d] }
  | _ => none }
def fnTreeManyRow : OpenClaim := { program := "ytbnndmkkmceenaa", sum := "0ddb7cbf4426554f5e1374c9b39fda88c244813cad481ef020db6e77f5ef9db5", func := "loop.example/levellingnet/laws.FnTreeMany", spec := "fnTreeMany", unfollowed := true, recurses := true, apart := false }
def FnTreeManySaid : Prop := fnTreeManyRow.holds Try.pinned (OpenSpec.ofChange fnTreeManySpec)

/-- ITS FALSE NEIGHBOUR: 'it returns false'. Refute it at one input. -/
def fnTreeManyWrong : ChangeSpec := { name := "fnTreeMany", fn := fun _ => fun
  | [d] => { results := [.lit (.bool false)], args := [d] }
  | _ => none }
def FnTreeManyWrongFalsely : Prop := fnTreeManyRow.holds Try.pinned (OpenSpec.ofChange fnTreeManyWrong)

/-- 'laws.FnTreeWeightOne': WHATEVER THE INPUT: true; the input reads as it did. -/
def fnTreeWeightOneSpec : ChangeSpec := { name := "fnTreeWeightOne", fn := fun _ => fun
  | [d] => { results := [.lit (.bool true)], args := [d] }
  | _ => none }
def fnTreeWeightOneRow : OpenClaim := { program := "ytbnndmkkmceenaa", sum := "0ddb7cbf4426554f5e1374c9b39fda88c244813cad481ef020db6e77f5ef9db5", func := "loop.example/levellingnet/laws.FnTreeWeightOne", spec := "fnTreeWeightOne", unfollowed := true, recurses := true, apart := false }
def FnTreeWeightOneSaid : Prop := fnTreeWeightOneRow.holds Try.pinned (OpenSpec.ofChange fnTreeWeightOneSpec)

/-- ITS FALSE NEIGHBOUR: 'it returns false'. Refute it at one input. -/
def fnTreeWeightOneWrong : ChangeSpec := { name := "fnTreeWeightOne", fn := fun _ => fun
  | [d] => { results := [.lit (.bool false)], args := [d] }
  | _ => none }
def FnTreeWeightOneWrongFalsely : Prop := fnTreeWeightOneRow.holds Try.pinned (OpenSpec.ofChange fnTreeWeightOneWrong)

/-- 'laws.FnExactTreeHeights': WHATEVER THE INPUT: true; the input reads as it did. -/
def fnExactTreeHeightsSpec : ChangeSpec := { name := "fnExactTreeHeights", fn := fun _ => fun
  | [d1, d2, d3] => { results := [.lit (.bool true)], args := [d1, d2, d3] }
  | _ => none }
def fnExactTreeHeightsRow : OpenClaim := { program := "ytbnndmkkmceenaa", sum := "0ddb7cbf4426554f5e1374c9b39fda88c244813cad481ef020db6e77f5ef9db5", func := "loop.example/levellingnet/laws.FnExactTreeHeights", spec := "fnExactTreeHeights", apart := false }
def FnExactTreeHeightsSaid : Prop := fnExactTreeHeightsRow.holds Try.pinned (OpenSpec.ofChange fnExactTreeHeightsSpec)

/-- ITS FALSE NEIGHBOUR: 'it returns false'. Refute it at one input. -/
def fnExactTreeHeightsWrong : ChangeSpec := { name := "fnExactTreeHeights", fn := fun _ => fun
  | [d1, d2, d3] => { results := [.lit (.bool false)], args := [d1, d2, d3] }
  | _ => none }
def FnExactTreeHeightsWrongFalsely : Prop := fnExactTreeHeightsRow.holds Try.pinned (OpenSpec.ofChange fnExactTreeHeightsWrong)

/-- 'laws.FnFitsWhole': WHATEVER THE INPUT: true; the input reads as it did. -/
def fnFitsWholeSpec : ChangeSpec := { name := "fnFitsWhole", fn := fun _ => fun
  | [d1, d2] => { results := [.lit (.bool true)], args := [d1, d2] }
  | _ => none }
def fnFitsWholeRow : OpenClaim := { program := "ytbnndmkkmceenaa", sum := "0ddb7cbf4426554f5e1374c9b39fda88c244813cad481ef020db6e77f5ef9db5", func := "loop.example/levellingnet/laws.FnFitsWhole", spec := "fnFitsWhole", apart := false }
def FnFitsWholeSaid : Prop := fnFitsWholeRow.holds Try.pinned (OpenSpec.ofChange fnFitsWholeSpec)

/-- ITS FALSE NEIGHBOUR: 'it returns false'. Refute it at one input. -/
def fnFitsWholeWrong : ChangeSpec := { name := "fnFitsWhole", fn := fun _ => fun
  | [d1, d2] => { results := [.lit (.bool false)], args := [d1, d2] }
  | _ => none }
def FnFitsWholeWrongFalsely : Prop := fnFitsWholeRow.holds Try.pinned (OpenSpec.ofChange fnFitsWholeWrong)

/-- 'laws.FnExactLoopOf': WHATEVER THE INPUT: true; the input reads as it did. -/
def fnExactLoopOfSpec : ChangeSpec := { name := "fnExactLoopOf", fn := fun _ => fun
  | [d1, d2, d3] => { results := [.lit (.bool true)], args := [d1, d2, d3] }
  | _ => none }
def fnExactLoopOfRow : OpenClaim := { program := "ytbnndmkkmceenaa", sum := "0ddb7cbf4426554f5e1374c9b39fda88c244813cad481ef020db6e77f5ef9db5", func := "loop.example/levellingnet/laws.FnExactLoopOf", spec := "fnExactLoopOf", recurses := true, apart := false }
def FnExactLoopOfSaid : Prop := fnExactLoopOfRow.holds Try.pinned (OpenSpec.ofChange fnExactLoopOfSpec)

/-- ITS FALSE NEIGHBOUR: 'it returns false'. Refute it at one input. -/
def fnExactLoopOfWrong : ChangeSpec := { name := "fnExactLoopOf", fn := fun _ => fun
  | [d1, d2, d3] => { results := [.lit (.bool false)], args := [d1, d2, d3] }
  | _ => none }
def FnExactLoopOfWrongFalsely : Prop := fnExactLoopOfRow.holds Try.pinned (OpenSpec.ofChange fnExactLoopOfWrong)

/-- 'laws.FnTreeHeights': WHATEVER THE INPUT: true; the input reads as it did. -/
def fnTreeHeightsSpec : ChangeSpec := { name := "fnTreeHeights", fn := fun _ => fun
  | [d1, d2] => { results := [.lit (.bool true)], args := [d1, d2] }
  | _ => none }
def fnTreeHeightsRow : OpenClaim := { program := "ytbnndmkkmceenaa", sum := "0ddb7cbf4426554f5e1374c9b39fda88c244813cad481ef020db6e77f5ef9db5", func := "loop.example/levellingnet/laws.FnTreeHeights", spec := "fnTreeHeights", apart := false }
def FnTreeHeightsSaid : Prop := fnTreeHeightsRow.holds Try.pinned (OpenSpec.ofChange fnTreeHeightsSpec)

/-- ITS FALSE NEIGHBOUR: 'it returns false'. Refute it at one input. -/
def fnTreeHeightsWrong : ChangeSpec := { name := "fnTreeHeights", fn := fun _ => fun
  | [d1, d2] => { results := [.lit (.bool false)], args := [d1, d2] }
  | _ => none }
def FnTreeHeightsWrongFalsely : Prop := fnTreeHeightsRow.holds Try.pinned (OpenSpec.ofChange fnTreeHeightsWrong)

/-- 'laws.FnExactLoopCloses': WHATEVER THE INPUT: true; the input reads as it did. -/
def fnExactLoopClosesSpec : ChangeSpec := { name := "fnExactLoopCloses", fn := fun _ => fun
  | [d1, d2] => { results := [.lit (.bool true)], args := [d1, d2] }
  | _ => none }
def fnExactLoopClosesRow : OpenClaim := { program := "ytbnndmkkmceenaa", sum := "0ddb7cbf4426554f5e1374c9b39fda88c244813cad481ef020db6e77f5ef9db5", func := "loop.example/levellingnet/laws.FnExactLoopCloses", spec := "fnExactLoopCloses", recurses := true, apart := false }
def FnExactLoopClosesSaid : Prop := fnExactLoopClosesRow.holds Try.pinned (OpenSpec.ofChange fnExactLoopClosesSpec)

/-- ITS FALSE NEIGHBOUR: 'it returns false'. Refute it at one input. -/
def fnExactLoopClosesWrong : ChangeSpec := { name := "fnExactLoopCloses", fn := fun _ => fun
  | [d1, d2] => { results := [.lit (.bool false)], args := [d1, d2] }
  | _ => none }
def FnExactLoopClosesWrongFalsely : Prop := fnExactLoopClosesRow.holds Try.pinned (OpenSpec.ofChange fnExactLoopClosesWrong)

/- THE SECOND FORM. 'bulk': how many values and letters a reading holds, each counted each time it is reached (what is shared counts as often as it is met; a slice's spare places count too). A statement '..UptoSaid' is the law's where the arguments, and the package variables that the reading takes, are together of bulk at most 1048576: NARROWER than '..Said'. Prove '..Said' where nothing that the law and all that it calls make is longer than what came in: it says more and counts as full. Else prove '..UptoSaid'. A law counts once. -/
mutual
def uptoBulk {H : Type} : DataW H → Nat
  | .lit (.string bytes) => bytes.length + 1
  | .lit _ => 1
  | .nil => 1
  | .ptr d => uptoBulk d + 1
  | .slice elems spare => uptoBulkAll elems + uptoBulkAll spare + 1
  | .agg parts => uptoBulkAll parts + 1
  | .iface _ d => uptoBulk d + 1
  | .map entries => uptoBulkEntries entries + 1
  | .held _ => 1
def uptoBulkAll {H : Type} : List (DataW H) → Nat
  | [] => 0
  | d :: r => uptoBulk d + uptoBulkAll r
def uptoBulkEntries {H : Type} : List (Lit × DataW H) → Nat
  | [] => 0
  | x :: r => uptoBulkEntry x + uptoBulkEntries r
def uptoBulkEntry {H : Type} : Lit × DataW H → Nat
  | (.string bytes, d) => bytes.length + uptoBulk d + 1
  | (_, d) => uptoBulk d + 1
 end
def uptoSmall : (H : Type) → List (DataW H) → Bool := fun _ ds => decide (uptoBulkAll ds ≤ 1048576)
def OpenSpec.upto (s : _root_.Go.ChangeSpec) : _root_.Go.OpenSpec := { _root_.Go.OpenSpec.ofChange s with cond := some uptoSmall }

/-- 'laws.FnLoopOf', WHERE WHAT IT READS IS OF BULK AT MOST 1048576: true; the input reads as it did. -/
def fnLoopOfUptoRow : OpenClaim := { program := "ytbnndmkkmceenaa", sum := "0ddb7cbf4426554f5e1374c9b39fda88c244813cad481ef020db6e77f5ef9db5", func := "loop.example/levellingnet/laws.FnLoopOf", spec := "fnLoopOf", recurses := true, apart := false, narrowed := true }
def FnLoopOfUptoSaid : Prop := fnLoopOfUptoRow.holds Try.pinned (OpenSpec.upto fnLoopOfSpec)

/-- 'laws.FnExactNetValid', WHERE WHAT IT READS IS OF BULK AT MOST 1048576: true; the input reads as it did. -/
def fnExactNetValidUptoRow : OpenClaim := { program := "ytbnndmkkmceenaa", sum := "0ddb7cbf4426554f5e1374c9b39fda88c244813cad481ef020db6e77f5ef9db5", func := "loop.example/levellingnet/laws.FnExactNetValid", spec := "fnExactNetValid", apart := false, narrowed := true }
def FnExactNetValidUptoSaid : Prop := fnExactNetValidUptoRow.holds Try.pinned (OpenSpec.upto fnExactNetValidSpec)

/-- 'laws.FnExactLoopErrors', WHERE WHAT IT READS IS OF BULK AT MOST 1048576: true; the input reads as it did. -/
def fnExactLoopErrorsUptoRow : OpenClaim := { program := "ytbnndmkkmceenaa", sum := "0ddb7cbf4426554f5e1374c9b39fda88c244813cad481ef020db6e77f5ef9db5", func := "loop.example/levellingnet/laws.FnExactLoopErrors", spec := "fnExactLoopErrors", recurses := true, apart := false, narrowed := true }
def FnExactLoopErrorsUptoSaid : Prop := fnExactLoopErrorsUptoRow.holds Try.pinned (OpenSpec.upto fnExactLoopErrorsSpec)

/-- 'laws.FnExactNetBack', WHERE WHAT IT READS IS OF BULK AT MOST 1048576: true; the input reads as it did. -/
def fnExactNetBackUptoRow : OpenClaim := { program := "ytbnndmkkmceenaa", sum := "0ddb7cbf4426554f5e1374c9b39fda88c244813cad481ef020db6e77f5ef9db5", func := "loop.example/levellingnet/laws.FnExactNetBack", spec := "fnExactNetBack", apart := false, narrowed := true }
def FnExactNetBackUptoSaid : Prop := fnExactNetBackUptoRow.holds Try.pinned (OpenSpec.upto fnExactNetBackSpec)

/-- 'laws.FnLoopErrorsShift', WHERE WHAT IT READS IS OF BULK AT MOST 1048576: true; the input reads as it did. -/
def fnLoopErrorsShiftUptoRow : OpenClaim := { program := "ytbnndmkkmceenaa", sum := "0ddb7cbf4426554f5e1374c9b39fda88c244813cad481ef020db6e77f5ef9db5", func := "loop.example/levellingnet/laws.FnLoopErrorsShift", spec := "fnLoopErrorsShift", recurses := true, apart := false, narrowed := true }
def FnLoopErrorsShiftUptoSaid : Prop := fnLoopErrorsShiftUptoRow.holds Try.pinned (OpenSpec.upto fnLoopErrorsShiftSpec)

/-- 'laws.FnExactNetFits', WHERE WHAT IT READS IS OF BULK AT MOST 1048576: true; the input reads as it did. -/
def fnExactNetFitsUptoRow : OpenClaim := { program := "ytbnndmkkmceenaa", sum := "0ddb7cbf4426554f5e1374c9b39fda88c244813cad481ef020db6e77f5ef9db5", func := "loop.example/levellingnet/laws.FnExactNetFits", spec := "fnExactNetFits", apart := false, narrowed := true }
def FnExactNetFitsUptoSaid : Prop := fnExactNetFitsUptoRow.holds Try.pinned (OpenSpec.upto fnExactNetFitsSpec)

/-- 'laws.FnExactLoopIs', WHERE WHAT IT READS IS OF BULK AT MOST 1048576: true; the input reads as it did. -/
def fnExactLoopIsUptoRow : OpenClaim := { program := "ytbnndmkkmceenaa", sum := "0ddb7cbf4426554f5e1374c9b39fda88c244813cad481ef020db6e77f5ef9db5", func := "loop.example/levellingnet/laws.FnExactLoopIs", spec := "fnExactLoopIs", apart := false, narrowed := true }
def FnExactLoopIsUptoSaid : Prop := fnExactLoopIsUptoRow.holds Try.pinned (OpenSpec.upto fnExactLoopIsSpec)

/-- 'laws.FnExactLoopError', WHERE WHAT IT READS IS OF BULK AT MOST 1048576: true; the input reads as it did. -/
def fnExactLoopErrorUptoRow : OpenClaim := { program := "ytbnndmkkmceenaa", sum := "0ddb7cbf4426554f5e1374c9b39fda88c244813cad481ef020db6e77f5ef9db5", func := "loop.example/levellingnet/laws.FnExactLoopError", spec := "fnExactLoopError", apart := false, narrowed := true }
def FnExactLoopErrorUptoSaid : Prop := fnExactLoopErrorUptoRow.holds Try.pinned (OpenSpec.upto fnExactLoopErrorSpec)

/-- 'laws.FnExactNetWhole', WHERE WHAT IT READS IS OF BULK AT MOST 1048576: true; the input reads as it did. -/
def fnExactNetWholeUptoRow : OpenClaim := { program := "ytbnndmkkmceenaa", sum := "0ddb7cbf4426554f5e1374c9b39fda88c244813cad481ef020db6e77f5ef9db5", func := "loop.example/levellingnet/laws.FnExactNetWhole", spec := "fnExactNetWhole", apart := false, narrowed := true }
def FnExactNetWholeUptoSaid : Prop := fnExactNetWholeUptoRow.holds Try.pinned (OpenSpec.upto fnExactNetWholeSpec)

/-- 'laws.FnExactNetLoops', WHERE WHAT IT READS IS OF BULK AT MOST 1048576: true; the input reads as it did. -/
def fnExactNetLoopsUptoRow : OpenClaim := { program := "ytbnndmkkmceenaa", sum := "0ddb7cbf4426554f5e1374c9b39fda88c244813cad481ef020db6e77f5ef9db5", func := "loop.example/levellingnet/laws.FnExactNetLoops", spec := "fnExactNetLoops", apart := false, narrowed := true }
def FnExactNetLoopsUptoSaid : Prop := fnExactNetLoopsUptoRow.holds Try.pinned (OpenSpec.upto fnExactNetLoopsSpec)

/-- 'laws.FnExactLoopBack', WHERE WHAT IT READS IS OF BULK AT MOST 1048576: true; the input reads as it did. -/
def fnExactLoopBackUptoRow : OpenClaim := { program := "ytbnndmkkmceenaa", sum := "0ddb7cbf4426554f5e1374c9b39fda88c244813cad481ef020db6e77f5ef9db5", func := "loop.example/levellingnet/laws.FnExactLoopBack", spec := "fnExactLoopBack", apart := false, narrowed := true }
def FnExactLoopBackUptoSaid : Prop := fnExactLoopBackUptoRow.holds Try.pinned (OpenSpec.upto fnExactLoopBackSpec)

/-- 'laws.FnExactNetLinked', WHERE WHAT IT READS IS OF BULK AT MOST 1048576: true; the input reads as it did. -/
def fnExactNetLinkedUptoRow : OpenClaim := { program := "ytbnndmkkmceenaa", sum := "0ddb7cbf4426554f5e1374c9b39fda88c244813cad481ef020db6e77f5ef9db5", func := "loop.example/levellingnet/laws.FnExactNetLinked", spec := "fnExactNetLinked", apart := false, narrowed := true }
def FnExactNetLinkedUptoSaid : Prop := fnExactNetLinkedUptoRow.holds Try.pinned (OpenSpec.upto fnExactNetLinkedSpec)

/-- 'laws.FnLinked', WHERE WHAT IT READS IS OF BULK AT MOST 1048576: true; the input reads as it did. -/
def fnLinkedUptoRow : OpenClaim := { program := "ytbnndmkkmceenaa", sum := "0ddb7cbf4426554f5e1374c9b39fda88c244813cad481ef020db6e77f5ef9db5", func := "loop.example/levellingnet/laws.FnLinked", spec := "fnLinked", apart := false, narrowed := true }
def FnLinkedUptoSaid : Prop := fnLinkedUptoRow.holds Try.pinned (OpenSpec.upto fnLinkedSpec)

/-- 'laws.FnLoopsRun', WHERE WHAT IT READS IS OF BULK AT MOST 1048576: true; the input reads as it did. -/
def fnLoopsRunUptoRow : OpenClaim := { program := "ytbnndmkkmceenaa", sum := "0ddb7cbf4426554f5e1374c9b39fda88c244813cad481ef020db6e77f5ef9db5", func := "loop.example/levellingnet/laws.FnLoopsRun", spec := "fnLoopsRun", apart := false, narrowed := true }
def FnLoopsRunUptoSaid : Prop := fnLoopsRunUptoRow.holds Try.pinned (OpenSpec.upto fnLoopsRunSpec)

/-- 'laws.FnFits', WHERE WHAT IT READS IS OF BULK AT MOST 1048576: true; the input reads as it did. -/
def fnFitsUptoRow : OpenClaim := { program := "ytbnndmkkmceenaa", sum := "0ddb7cbf4426554f5e1374c9b39fda88c244813cad481ef020db6e77f5ef9db5", func := "loop.example/levellingnet/laws.FnFits", spec := "fnFits", apart := false, narrowed := true }
def FnFitsUptoSaid : Prop := fnFitsUptoRow.holds Try.pinned (OpenSpec.upto fnFitsSpec)

/-- 'laws.FnExactTreeIs', WHERE WHAT IT READS IS OF BULK AT MOST 1048576: true; the input reads as it did. -/
def fnExactTreeIsUptoRow : OpenClaim := { program := "ytbnndmkkmceenaa", sum := "0ddb7cbf4426554f5e1374c9b39fda88c244813cad481ef020db6e77f5ef9db5", func := "loop.example/levellingnet/laws.FnExactTreeIs", spec := "fnExactTreeIs", apart := false, narrowed := true }
def FnExactTreeIsUptoSaid : Prop := fnExactTreeIsUptoRow.holds Try.pinned (OpenSpec.upto fnExactTreeIsSpec)

/-- 'laws.FnTreeFirst', WHERE WHAT IT READS IS OF BULK AT MOST 1048576: true; the input reads as it did. -/
def fnTreeFirstUptoRow : OpenClaim := { program := "ytbnndmkkmceenaa", sum := "0ddb7cbf4426554f5e1374c9b39fda88c244813cad481ef020db6e77f5ef9db5", func := "loop.example/levellingnet/laws.FnTreeFirst", spec := "fnTreeFirst", apart := false, narrowed := true }
def FnTreeFirstUptoSaid : Prop := fnTreeFirstUptoRow.holds Try.pinned (OpenSpec.upto fnTreeFirstSpec)

/-- 'laws.FnNetBack', WHERE WHAT IT READS IS OF BULK AT MOST 1048576: true; the input reads as it did. -/
def fnNetBackUptoRow : OpenClaim := { program := "ytbnndmkkmceenaa", sum := "0ddb7cbf4426554f5e1374c9b39fda88c244813cad481ef020db6e77f5ef9db5", func := "loop.example/levellingnet/laws.FnNetBack", spec := "fnNetBack", apart := false, narrowed := true }
def FnNetBackUptoSaid : Prop := fnNetBackUptoRow.holds Try.pinned (OpenSpec.upto fnNetBackSpec)

/-- 'laws.FnExactTreeFirst', WHERE WHAT IT READS IS OF BULK AT MOST 1048576: true; the input reads as it did. -/
def fnExactTreeFirstUptoRow : OpenClaim := { program := "ytbnndmkkmceenaa", sum := "0ddb7cbf4426554f5e1374c9b39fda88c244813cad481ef020db6e77f5ef9db5", func := "loop.example/levellingnet/laws.FnExactTreeFirst", spec := "fnExactTreeFirst", apart := false, narrowed := true }
def FnExactTreeFirstUptoSaid : Prop := fnExactTreeFirstUptoRow.holds Try.pinned (OpenSpec.upto fnExactTreeFirstSpec)

/-- 'laws.FnExactTreeMany', WHERE WHAT IT READS IS OF BULK AT MOST 1048576: true; the input reads as it did. -/
def fnExactTreeManyUptoRow : OpenClaim := { program := "ytbnndmkkmceenaa", sum := "0ddb7cbf4426554f5e1374c9b39fda88c244813cad481ef020db6e77f5ef9db5", func := "loop.example/levellingnet/laws.FnExactTreeMany", spec := "fnExactTreeMany", unfollowed := true, recurses := true, apart := false, narrowed := true }
def FnExactTreeManyUptoSaid : Prop := fnExactTreeManyUptoRow.holds Try.pinned (OpenSpec.upto fnExactTreeManySpec)

/-- 'laws.FnLoop', WHERE WHAT IT READS IS OF BULK AT MOST 1048576: true; the input reads as it did. -/
def fnLoopUptoRow : OpenClaim := { program := "ytbnndmkkmceenaa", sum := "0ddb7cbf4426554f5e1374c9b39fda88c244813cad481ef020db6e77f5ef9db5", func := "loop.example/levellingnet/laws.FnLoop", spec := "fnLoop", recurses := true, apart := false, narrowed := true }
def FnLoopUptoSaid : Prop := fnLoopUptoRow.holds Try.pinned (OpenSpec.upto fnLoopSpec)

/-- 'laws.FnTree', WHERE WHAT IT READS IS OF BULK AT MOST 1048576: true; the input reads as it did. -/
def fnTreeUptoRow : OpenClaim := { program := "ytbnndmkkmceenaa", sum := "0ddb7cbf4426554f5e1374c9b39fda88c244813cad481ef020db6e77f5ef9db5", func := "loop.example/levellingnet/laws.FnTree", spec := "fnTree", apart := false, narrowed := true }
def FnTreeUptoSaid : Prop := fnTreeUptoRow.holds Try.pinned (OpenSpec.upto fnTreeSpec)

/-- 'laws.FnTreeExchange', WHERE WHAT IT READS IS OF BULK AT MOST 1048576: true; the input reads as it did. -/
def fnTreeExchangeUptoRow : OpenClaim := { program := "ytbnndmkkmceenaa", sum := "0ddb7cbf4426554f5e1374c9b39fda88c244813cad481ef020db6e77f5ef9db5", func := "loop.example/levellingnet/laws.FnTreeExchange", spec := "fnTreeExchange", apart := false, narrowed := true }
def FnTreeExchangeUptoSaid : Prop := fnTreeExchangeUptoRow.holds Try.pinned (OpenSpec.upto fnTreeExchangeSpec)

/-- 'laws.FnExactTreeWeight', WHERE WHAT IT READS IS OF BULK AT MOST 1048576: true; the input reads as it did. -/
def fnExactTreeWeightUptoRow : OpenClaim := { program := "ytbnndmkkmceenaa", sum := "0ddb7cbf4426554f5e1374c9b39fda88c244813cad481ef020db6e77f5ef9db5", func := "loop.example/levellingnet/laws.FnExactTreeWeight", spec := "fnExactTreeWeight", unfollowed := true, recurses := true, apart := false, narrowed := true }
def FnExactTreeWeightUptoSaid : Prop := fnExactTreeWeightUptoRow.holds Try.pinned (OpenSpec.upto fnExactTreeWeightSpec)

/-- 'laws.FnLoopBack', WHERE WHAT IT READS IS OF BULK AT MOST 1048576: true; the input reads as it did. -/
def fnLoopBackUptoRow : OpenClaim := { program := "ytbnndmkkmceenaa", sum := "0ddb7cbf4426554f5e1374c9b39fda88c244813cad481ef020db6e77f5ef9db5", func := "loop.example/levellingnet/laws.FnLoopBack", spec := "fnLoopBack", recurses := true, apart := false, narrowed := true }
def FnLoopBackUptoSaid : Prop := fnLoopBackUptoRow.holds Try.pinned (OpenSpec.upto fnLoopBackSpec)

/-- 'laws.FnTreeMany', WHERE WHAT IT READS IS OF BULK AT MOST 1048576: true; the input reads as it did. -/
def fnTreeManyUptoRow : OpenClaim := { program := "ytbnndmkkmceenaa", sum := "0ddb7cbf4426554f5e1374c9b39fda88c244813cad481ef020db6e77f5ef9db5", func := "loop.example/levellingnet/laws.FnTreeMany", spec := "fnTreeMany", unfollowed := true, recurses := true, apart := false, narrowed := true }
def FnTreeManyUptoSaid : Prop := fnTreeManyUptoRow.holds Try.pinned (OpenSpec.upto fnTreeManySpec)

/-- 'laws.FnTreeWeightOne', WHERE WHAT IT READS IS OF BULK AT MOST 1048576: true; the input reads as it did. -/
def fnTreeWeightOneUptoRow : OpenClaim := { program := "ytbnndmkkmceenaa", sum := "0ddb7cbf4426554f5e1374c9b39fda88c244813cad481ef020db6e77f5ef9db5", func := "loop.example/levellingnet/laws.FnTreeWeightOne", spec := "fnTreeWeightOne", unfollowed := true, recurses := true, apart := false, narrowed := true }
def FnTreeWeightOneUptoSaid : Prop := fnTreeWeightOneUptoRow.holds Try.pinned (OpenSpec.upto fnTreeWeightOneSpec)

/-- 'laws.FnExactTreeHeights', WHERE WHAT IT READS IS OF BULK AT MOST 1048576: true; the input reads as it did. -/
def fnExactTreeHeightsUptoRow : OpenClaim := { program := "ytbnndmkkmceenaa", sum := "0ddb7cbf4426554f5e1374c9b39fda88c244813cad481ef020db6e77f5ef9db5", func := "loop.example/levellingnet/laws.FnExactTreeHeights", spec := "fnExactTreeHeights", apart := false, narrowed := true }
def FnExactTreeHeightsUptoSaid : Prop := fnExactTreeHeightsUptoRow.holds Try.pinned (OpenSpec.upto fnExactTreeHeightsSpec)

/-- 'laws.FnFitsWhole', WHERE WHAT IT READS IS OF BULK AT MOST 1048576: true; the input reads as it did. -/
def fnFitsWholeUptoRow : OpenClaim := { program := "ytbnndmkkmceenaa", sum := "0ddb7cbf4426554f5e1374c9b39fda88c244813cad481ef020db6e77f5ef9db5", func := "loop.example/levellingnet/laws.FnFitsWhole", spec := "fnFitsWhole", apart := false, narrowed := true }
def FnFitsWholeUptoSaid : Prop := fnFitsWholeUptoRow.holds Try.pinned (OpenSpec.upto fnFitsWholeSpec)

/-- 'laws.FnExactLoopOf', WHERE WHAT IT READS IS OF BULK AT MOST 1048576: true; the input reads as it did. -/
def fnExactLoopOfUptoRow : OpenClaim := { program := "ytbnndmkkmceenaa", sum := "0ddb7cbf4426554f5e1374c9b39fda88c244813cad481ef020db6e77f5ef9db5", func := "loop.example/levellingnet/laws.FnExactLoopOf", spec := "fnExactLoopOf", recurses := true, apart := false, narrowed := true }
def FnExactLoopOfUptoSaid : Prop := fnExactLoopOfUptoRow.holds Try.pinned (OpenSpec.upto fnExactLoopOfSpec)

/-- 'laws.FnTreeHeights', WHERE WHAT IT READS IS OF BULK AT MOST 1048576: true; the input reads as it did. -/
def fnTreeHeightsUptoRow : OpenClaim := { program := "ytbnndmkkmceenaa", sum := "0ddb7cbf4426554f5e1374c9b39fda88c244813cad481ef020db6e77f5ef9db5", func := "loop.example/levellingnet/laws.FnTreeHeights", spec := "fnTreeHeights", apart := false, narrowed := true }
def FnTreeHeightsUptoSaid : Prop := fnTreeHeightsUptoRow.holds Try.pinned (OpenSpec.upto fnTreeHeightsSpec)

/-- 'laws.FnExactLoopCloses', WHERE WHAT IT READS IS OF BULK AT MOST 1048576: true; the input reads as it did. -/
def fnExactLoopClosesUptoRow : OpenClaim := { program := "ytbnndmkkmceenaa", sum := "0ddb7cbf4426554f5e1374c9b39fda88c244813cad481ef020db6e77f5ef9db5", func := "loop.example/levellingnet/laws.FnExactLoopCloses", spec := "fnExactLoopCloses", recurses := true, apart := false, narrowed := true }
def FnExactLoopClosesUptoSaid : Prop := fnExactLoopClosesUptoRow.holds Try.pinned (OpenSpec.upto fnExactLoopClosesSpec)

end Rows
end Go.Proofs.Ytbnndmkkmceenaa
