/-
  No cell of these rows narrows 'for every input' (looked for: loops, veiled, ifaces, maps, wideKeys, modest, calm, conditions, laid).
  DERIVED. THE GIVEN ROWS OF THIS SEAT. 21 by the template 'for every input the law returns true; each argument reads behind the call as it read before'; 0 by the template 'total and deterministic' (their statements: YtbcngmlgmohkcaaTotals.lean).
  GIVEN WITH THE SEED: the statements are not yours to turn. If you find one false, say at which input.
  Laid BY PROGRAM, IN A SANDBOX (cutbox-rows.mjs): the forced cells as the released guide's own fill.sh prints them over the translation cf813811c376e407… (all of the seat's roots in one cut). By AI agents, Wed Nov 11 2026. No macro, syntax, notation, axiom, sorry.
-/
import Derived.Test.YtbcngmlgmohkcaaChecked
import GoSem.Claim
import GoSem.ClaimJoined
import GoSem.ClaimMapViews
import Derived.JoinedTies
import Derived.KernelRfl
namespace Go.Proofs.Ytbcngmlgmohkcaa
/- THE CELL 'sum', in the pinned program and in every row, IS THE sha256 OF THE DUMP (.gsa) THAT YtbcngmlgmohkcaaProg.lean LOADS. Nothing in Lean hashes anything: it is a label: what it is worth is what the hold of that sum in a sandbox is worth. -/
noncomputable def Try.pinned : Pinned := { name := "ytbcngmlgmohkcaa", sum := "cf813811c376e407d2a79ea915805bb2f721bbe914c954e63aea651db37a6243", checked := Try.checked }
namespace Rows
def none {H : Type} : Left H := { results := [], args := [] }

/-- 'laws.FnExactConstants': WHATEVER THE INPUT: true; the input reads as it did. -/
def fnExactConstantsSpec : ChangeSpec := { name := "fnExactConstants", fn := fun _ => fun
  | [] => { results := [.lit (.bool true)], args := [] }
  | _ => none }
def fnExactConstantsRow : OpenClaim := { program := "ytbcngmlgmohkcaa", sum := "cf813811c376e407d2a79ea915805bb2f721bbe914c954e63aea651db37a6243", func := "loop.example/levellingnet/laws.FnExactConstants", spec := "fnExactConstants", apart := false }
def FnExactConstantsSaid : Prop := fnExactConstantsRow.holds Try.pinned (OpenSpec.ofChange fnExactConstantsSpec)

/-- ITS FALSE NEIGHBOUR: 'it returns false'. Refute it at one input. -/
def fnExactConstantsWrong : ChangeSpec := { name := "fnExactConstants", fn := fun _ => fun
  | [] => { results := [.lit (.bool false)], args := [] }
  | _ => none }
def FnExactConstantsWrongFalsely : Prop := fnExactConstantsRow.holds Try.pinned (OpenSpec.ofChange fnExactConstantsWrong)

/-- 'laws.FnExactPointValid': WHATEVER THE INPUT: true; the input reads as it did. -/
def fnExactPointValidSpec : ChangeSpec := { name := "fnExactPointValid", fn := fun _ => fun
  | [d] => { results := [.lit (.bool true)], args := [d] }
  | _ => none }
def fnExactPointValidRow : OpenClaim := { program := "ytbcngmlgmohkcaa", sum := "cf813811c376e407d2a79ea915805bb2f721bbe914c954e63aea651db37a6243", func := "loop.example/levellingnet/laws.FnExactPointValid", spec := "fnExactPointValid", apart := false }
def FnExactPointValidSaid : Prop := fnExactPointValidRow.holds Try.pinned (OpenSpec.ofChange fnExactPointValidSpec)

/-- ITS FALSE NEIGHBOUR: 'it returns false'. Refute it at one input. -/
def fnExactPointValidWrong : ChangeSpec := { name := "fnExactPointValid", fn := fun _ => fun
  | [d] => { results := [.lit (.bool false)], args := [d] }
  | _ => none }
def FnExactPointValidWrongFalsely : Prop := fnExactPointValidRow.holds Try.pinned (OpenSpec.ofChange fnExactPointValidWrong)

/-- 'laws.FnExactQuoValid': WHATEVER THE INPUT: true; the input reads as it did. -/
def fnExactQuoValidSpec : ChangeSpec := { name := "fnExactQuoValid", fn := fun _ => fun
  | [d] => { results := [.lit (.bool true)], args := [d] }
  | _ => none }
def fnExactQuoValidRow : OpenClaim := { program := "ytbcngmlgmohkcaa", sum := "cf813811c376e407d2a79ea915805bb2f721bbe914c954e63aea651db37a6243", func := "loop.example/levellingnet/laws.FnExactQuoValid", spec := "fnExactQuoValid", apart := false }
def FnExactQuoValidSaid : Prop := fnExactQuoValidRow.holds Try.pinned (OpenSpec.ofChange fnExactQuoValidSpec)

/-- ITS FALSE NEIGHBOUR: 'it returns false'. Refute it at one input. -/
def fnExactQuoValidWrong : ChangeSpec := { name := "fnExactQuoValid", fn := fun _ => fun
  | [d] => { results := [.lit (.bool false)], args := [d] }
  | _ => none }
def FnExactQuoValidWrongFalsely : Prop := fnExactQuoValidRow.holds Try.pinned (OpenSpec.ofChange fnExactQuoValidWrong)

/-- 'laws.FnExactPointMove': WHATEVER THE INPUT: true; the input reads as it did. -/
def fnExactPointMoveSpec : ChangeSpec := { name := "fnExactPointMove", fn := fun _ => fun
  | [d1, d2] => { results := [.lit (.bool true)], args := [d1, d2] }
  | _ => none }
def fnExactPointMoveRow : OpenClaim := { program := "ytbcngmlgmohkcaa", sum := "cf813811c376e407d2a79ea915805bb2f721bbe914c954e63aea651db37a6243", func := "loop.example/levellingnet/laws.FnExactPointMove", spec := "fnExactPointMove", apart := false }
def FnExactPointMoveSaid : Prop := fnExactPointMoveRow.holds Try.pinned (OpenSpec.ofChange fnExactPointMoveSpec)

/-- ITS FALSE NEIGHBOUR: 'it returns false'. Refute it at one input. -/
def fnExactPointMoveWrong : ChangeSpec := { name := "fnExactPointMove", fn := fun _ => fun
  | [d1, d2] => { results := [.lit (.bool false)], args := [d1, d2] }
  | _ => none }
def FnExactPointMoveWrongFalsely : Prop := fnExactPointMoveRow.holds Try.pinned (OpenSpec.ofChange fnExactPointMoveWrong)

/-- 'laws.FnExactBearingOf': WHATEVER THE INPUT: true; the input reads as it did. -/
def fnExactBearingOfSpec : ChangeSpec := { name := "fnExactBearingOf", fn := fun _ => fun
  | [d] => { results := [.lit (.bool true)], args := [d] }
  | _ => none }
def fnExactBearingOfRow : OpenClaim := { program := "ytbcngmlgmohkcaa", sum := "cf813811c376e407d2a79ea915805bb2f721bbe914c954e63aea651db37a6243", func := "loop.example/levellingnet/laws.FnExactBearingOf", spec := "fnExactBearingOf", apart := false }
def FnExactBearingOfSaid : Prop := fnExactBearingOfRow.holds Try.pinned (OpenSpec.ofChange fnExactBearingOfSpec)

/-- ITS FALSE NEIGHBOUR: 'it returns false'. Refute it at one input. -/
def fnExactBearingOfWrong : ChangeSpec := { name := "fnExactBearingOf", fn := fun _ => fun
  | [d] => { results := [.lit (.bool false)], args := [d] }
  | _ => none }
def FnExactBearingOfWrongFalsely : Prop := fnExactBearingOfRow.holds Try.pinned (OpenSpec.ofChange fnExactBearingOfWrong)

/-- 'laws.FnExactQuoOrder': WHATEVER THE INPUT: true; the input reads as it did. -/
def fnExactQuoOrderSpec : ChangeSpec := { name := "fnExactQuoOrder", fn := fun _ => fun
  | [d1, d2] => { results := [.lit (.bool true)], args := [d1, d2] }
  | _ => none }
def fnExactQuoOrderRow : OpenClaim := { program := "ytbcngmlgmohkcaa", sum := "cf813811c376e407d2a79ea915805bb2f721bbe914c954e63aea651db37a6243", func := "loop.example/levellingnet/laws.FnExactQuoOrder", spec := "fnExactQuoOrder", apart := false }
def FnExactQuoOrderSaid : Prop := fnExactQuoOrderRow.holds Try.pinned (OpenSpec.ofChange fnExactQuoOrderSpec)

/-- ITS FALSE NEIGHBOUR: 'it returns false'. Refute it at one input. -/
def fnExactQuoOrderWrong : ChangeSpec := { name := "fnExactQuoOrder", fn := fun _ => fun
  | [d1, d2] => { results := [.lit (.bool false)], args := [d1, d2] }
  | _ => none }
def FnExactQuoOrderWrongFalsely : Prop := fnExactQuoOrderRow.holds Try.pinned (OpenSpec.ofChange fnExactQuoOrderWrong)

/-- 'laws.FnExactBearingBack': WHATEVER THE INPUT: true; the input reads as it did. -/
def fnExactBearingBackSpec : ChangeSpec := { name := "fnExactBearingBack", fn := fun _ => fun
  | [d] => { results := [.lit (.bool true)], args := [d] }
  | _ => none }
def fnExactBearingBackRow : OpenClaim := { program := "ytbcngmlgmohkcaa", sum := "cf813811c376e407d2a79ea915805bb2f721bbe914c954e63aea651db37a6243", func := "loop.example/levellingnet/laws.FnExactBearingBack", spec := "fnExactBearingBack", apart := false }
def FnExactBearingBackSaid : Prop := fnExactBearingBackRow.holds Try.pinned (OpenSpec.ofChange fnExactBearingBackSpec)

/-- ITS FALSE NEIGHBOUR: 'it returns false'. Refute it at one input. -/
def fnExactBearingBackWrong : ChangeSpec := { name := "fnExactBearingBack", fn := fun _ => fun
  | [d] => { results := [.lit (.bool false)], args := [d] }
  | _ => none }
def FnExactBearingBackWrongFalsely : Prop := fnExactBearingBackRow.holds Try.pinned (OpenSpec.ofChange fnExactBearingBackWrong)

/-- 'laws.FnExactQuoOf': WHATEVER THE INPUT: true; the input reads as it did. -/
def fnExactQuoOfSpec : ChangeSpec := { name := "fnExactQuoOf", fn := fun _ => fun
  | [d1, d2] => { results := [.lit (.bool true)], args := [d1, d2] }
  | _ => none }
def fnExactQuoOfRow : OpenClaim := { program := "ytbcngmlgmohkcaa", sum := "cf813811c376e407d2a79ea915805bb2f721bbe914c954e63aea651db37a6243", func := "loop.example/levellingnet/laws.FnExactQuoOf", spec := "fnExactQuoOf", apart := false }
def FnExactQuoOfSaid : Prop := fnExactQuoOfRow.holds Try.pinned (OpenSpec.ofChange fnExactQuoOfSpec)

/-- ITS FALSE NEIGHBOUR: 'it returns false'. Refute it at one input. -/
def fnExactQuoOfWrong : ChangeSpec := { name := "fnExactQuoOf", fn := fun _ => fun
  | [d1, d2] => { results := [.lit (.bool false)], args := [d1, d2] }
  | _ => none }
def FnExactQuoOfWrongFalsely : Prop := fnExactQuoOfRow.holds Try.pinned (OpenSpec.ofChange fnExactQuoOfWrong)

/-- 'laws.FnExactBearingTurn': WHATEVER THE INPUT: true; the input reads as it did. -/
def fnExactBearingTurnSpec : ChangeSpec := { name := "fnExactBearingTurn", fn := fun _ => fun
  | [d1, d2] => { results := [.lit (.bool true)], args := [d1, d2] }
  | _ => none }
def fnExactBearingTurnRow : OpenClaim := { program := "ytbcngmlgmohkcaa", sum := "cf813811c376e407d2a79ea915805bb2f721bbe914c954e63aea651db37a6243", func := "loop.example/levellingnet/laws.FnExactBearingTurn", spec := "fnExactBearingTurn", apart := false }
def FnExactBearingTurnSaid : Prop := fnExactBearingTurnRow.holds Try.pinned (OpenSpec.ofChange fnExactBearingTurnSpec)

/-- ITS FALSE NEIGHBOUR: 'it returns false'. Refute it at one input. -/
def fnExactBearingTurnWrong : ChangeSpec := { name := "fnExactBearingTurn", fn := fun _ => fun
  | [d1, d2] => { results := [.lit (.bool false)], args := [d1, d2] }
  | _ => none }
def FnExactBearingTurnWrongFalsely : Prop := fnExactBearingTurnRow.holds Try.pinned (OpenSpec.ofChange fnExactBearingTurnWrong)

/-- 'laws.FnExactBearingQuarter': WHATEVER THE INPUT: true; the input reads as it did. -/
def fnExactBearingQuarterSpec : ChangeSpec := { name := "fnExactBearingQuarter", fn := fun _ => fun
  | [d] => { results := [.lit (.bool true)], args := [d] }
  | _ => none }
def fnExactBearingQuarterRow : OpenClaim := { program := "ytbcngmlgmohkcaa", sum := "cf813811c376e407d2a79ea915805bb2f721bbe914c954e63aea651db37a6243", func := "loop.example/levellingnet/laws.FnExactBearingQuarter", spec := "fnExactBearingQuarter", apart := false }
def FnExactBearingQuarterSaid : Prop := fnExactBearingQuarterRow.holds Try.pinned (OpenSpec.ofChange fnExactBearingQuarterSpec)

/-- ITS FALSE NEIGHBOUR: 'it returns false'. Refute it at one input. -/
def fnExactBearingQuarterWrong : ChangeSpec := { name := "fnExactBearingQuarter", fn := fun _ => fun
  | [d] => { results := [.lit (.bool false)], args := [d] }
  | _ => none }
def FnExactBearingQuarterWrongFalsely : Prop := fnExactBearingQuarterRow.holds Try.pinned (OpenSpec.ofChange fnExactBearingQuarterWrong)

/-- 'laws.FnQuoOf': WHATEVER THE INPUT: true; the input reads as it did. -/
def fnQuoOfSpec : ChangeSpec := { name := "fnQuoOf", fn := fun _ => fun
  | [d] => { results := [.lit (.bool true)], args := [d] }
  | _ => none }
def fnQuoOfRow : OpenClaim := { program := "ytbcngmlgmohkcaa", sum := "cf813811c376e407d2a79ea915805bb2f721bbe914c954e63aea651db37a6243", func := "loop.example/levellingnet/laws.FnQuoOf", spec := "fnQuoOf", apart := false }
def FnQuoOfSaid : Prop := fnQuoOfRow.holds Try.pinned (OpenSpec.ofChange fnQuoOfSpec)

/-- ITS FALSE NEIGHBOUR: 'it returns false'. Refute it at one input. -/
def fnQuoOfWrong : ChangeSpec := { name := "fnQuoOf", fn := fun _ => fun
  | [d] => { results := [.lit (.bool false)], args := [d] }
  | _ => none }
def FnQuoOfWrongFalsely : Prop := fnQuoOfRow.holds Try.pinned (OpenSpec.ofChange fnQuoOfWrong)

/-- 'laws.FnExactQuoTimes': WHATEVER THE INPUT: true; the input reads as it did. -/
def fnExactQuoTimesSpec : ChangeSpec := { name := "fnExactQuoTimes", fn := fun _ => fun
  | [d1, d2] => { results := [.lit (.bool true)], args := [d1, d2] }
  | _ => none }
def fnExactQuoTimesRow : OpenClaim := { program := "ytbcngmlgmohkcaa", sum := "cf813811c376e407d2a79ea915805bb2f721bbe914c954e63aea651db37a6243", func := "loop.example/levellingnet/laws.FnExactQuoTimes", spec := "fnExactQuoTimes", apart := false }
def FnExactQuoTimesSaid : Prop := fnExactQuoTimesRow.holds Try.pinned (OpenSpec.ofChange fnExactQuoTimesSpec)

/-- ITS FALSE NEIGHBOUR: 'it returns false'. Refute it at one input. -/
def fnExactQuoTimesWrong : ChangeSpec := { name := "fnExactQuoTimes", fn := fun _ => fun
  | [d1, d2] => { results := [.lit (.bool false)], args := [d1, d2] }
  | _ => none }
def FnExactQuoTimesWrongFalsely : Prop := fnExactQuoTimesRow.holds Try.pinned (OpenSpec.ofChange fnExactQuoTimesWrong)

/-- 'laws.FnBearingOf': WHATEVER THE INPUT: true; the input reads as it did. -/
def fnBearingOfSpec : ChangeSpec := { name := "fnBearingOf", fn := fun _ => fun
  | [d] => { results := [.lit (.bool true)], args := [d] }
  | _ => none }
def fnBearingOfRow : OpenClaim := { program := "ytbcngmlgmohkcaa", sum := "cf813811c376e407d2a79ea915805bb2f721bbe914c954e63aea651db37a6243", func := "loop.example/levellingnet/laws.FnBearingOf", spec := "fnBearingOf", apart := false }
def FnBearingOfSaid : Prop := fnBearingOfRow.holds Try.pinned (OpenSpec.ofChange fnBearingOfSpec)

/-- ITS FALSE NEIGHBOUR: 'it returns false'. Refute it at one input. -/
def fnBearingOfWrong : ChangeSpec := { name := "fnBearingOf", fn := fun _ => fun
  | [d] => { results := [.lit (.bool false)], args := [d] }
  | _ => none }
def FnBearingOfWrongFalsely : Prop := fnBearingOfRow.holds Try.pinned (OpenSpec.ofChange fnBearingOfWrong)

/-- 'laws.FnExactBearingLess': WHATEVER THE INPUT: true; the input reads as it did. -/
def fnExactBearingLessSpec : ChangeSpec := { name := "fnExactBearingLess", fn := fun _ => fun
  | [d1, d2] => { results := [.lit (.bool true)], args := [d1, d2] }
  | _ => none }
def fnExactBearingLessRow : OpenClaim := { program := "ytbcngmlgmohkcaa", sum := "cf813811c376e407d2a79ea915805bb2f721bbe914c954e63aea651db37a6243", func := "loop.example/levellingnet/laws.FnExactBearingLess", spec := "fnExactBearingLess", unfollowed := true, recurses := true, apart := false }
def FnExactBearingLessSaid : Prop := fnExactBearingLessRow.holds Try.pinned (OpenSpec.ofChange fnExactBearingLessSpec)

/-- ITS FALSE NEIGHBOUR: 'it returns false'. Refute it at one input. -/
def fnExactBearingLessWrong : ChangeSpec := { name := "fnExactBearingLess", fn := fun _ => fun
  | [d1, d2] => { results := [.lit (.bool false)], args := [d1, d2] }
  | _ => none }
def FnExactBearingLessWrongFalsely : Prop := fnExactBearingLessRow.holds Try.pinned (OpenSpec.ofChange fnExactBearingLessWrong)

/-- 'laws.FnExactQuoAdd': WHATEVER THE INPUT: true; the input reads as it did. -/
def fnExactQuoAddSpec : ChangeSpec := { name := "fnExactQuoAdd", fn := fun _ => fun
  | [d1, d2] => { results := [.lit (.bool true)], args := [d1, d2] }
  | _ => none }
def fnExactQuoAddRow : OpenClaim := { program := "ytbcngmlgmohkcaa", sum := "cf813811c376e407d2a79ea915805bb2f721bbe914c954e63aea651db37a6243", func := "loop.example/levellingnet/laws.FnExactQuoAdd", spec := "fnExactQuoAdd", unfollowed := true, recurses := true, apart := false }
def FnExactQuoAddSaid : Prop := fnExactQuoAddRow.holds Try.pinned (OpenSpec.ofChange fnExactQuoAddSpec)

/-- ITS FALSE NEIGHBOUR: 'it returns false'. Refute it at one input. -/
def fnExactQuoAddWrong : ChangeSpec := { name := "fnExactQuoAdd", fn := fun _ => fun
  | [d1, d2] => { results := [.lit (.bool false)], args := [d1, d2] }
  | _ => none }
def FnExactQuoAddWrongFalsely : Prop := fnExactQuoAddRow.holds Try.pinned (OpenSpec.ofChange fnExactQuoAddWrong)

/-- 'laws.FnExactQuoTake': WHATEVER THE INPUT: true; the input reads as it did. -/
def fnExactQuoTakeSpec : ChangeSpec := { name := "fnExactQuoTake", fn := fun _ => fun
  | [d1, d2] => { results := [.lit (.bool true)], args := [d1, d2] }
  | _ => none }
def fnExactQuoTakeRow : OpenClaim := { program := "ytbcngmlgmohkcaa", sum := "cf813811c376e407d2a79ea915805bb2f721bbe914c954e63aea651db37a6243", func := "loop.example/levellingnet/laws.FnExactQuoTake", spec := "fnExactQuoTake", unfollowed := true, recurses := true, apart := false }
def FnExactQuoTakeSaid : Prop := fnExactQuoTakeRow.holds Try.pinned (OpenSpec.ofChange fnExactQuoTakeSpec)

/-- ITS FALSE NEIGHBOUR: 'it returns false'. Refute it at one input. -/
def fnExactQuoTakeWrong : ChangeSpec := { name := "fnExactQuoTake", fn := fun _ => fun
  | [d1, d2] => { results := [.lit (.bool false)], args := [d1, d2] }
  | _ => none }
def FnExactQuoTakeWrongFalsely : Prop := fnExactQuoTakeRow.holds Try.pinned (OpenSpec.ofChange fnExactQuoTakeWrong)

/-- 'laws.FnBearingTurn': WHATEVER THE INPUT: true; the input reads as it did. -/
def fnBearingTurnSpec : ChangeSpec := { name := "fnBearingTurn", fn := fun _ => fun
  | [d] => { results := [.lit (.bool true)], args := [d] }
  | _ => none }
def fnBearingTurnRow : OpenClaim := { program := "ytbcngmlgmohkcaa", sum := "cf813811c376e407d2a79ea915805bb2f721bbe914c954e63aea651db37a6243", func := "loop.example/levellingnet/laws.FnBearingTurn", spec := "fnBearingTurn", apart := false }
def FnBearingTurnSaid : Prop := fnBearingTurnRow.holds Try.pinned (OpenSpec.ofChange fnBearingTurnSpec)

/-- ITS FALSE NEIGHBOUR: 'it returns false'. Refute it at one input. -/
def fnBearingTurnWrong : ChangeSpec := { name := "fnBearingTurn", fn := fun _ => fun
  | [d] => { results := [.lit (.bool false)], args := [d] }
  | _ => none }
def FnBearingTurnWrongFalsely : Prop := fnBearingTurnRow.holds Try.pinned (OpenSpec.ofChange fnBearingTurnWrong)

/-- 'laws.FnQuoAdd': WHATEVER THE INPUT: true; the input reads as it did. -/
def fnQuoAddSpec : ChangeSpec := { name := "fnQuoAdd", fn := fun _ => fun
  | [d] => { results := [.lit (.bool true)], args := [d] }
  | _ => none }
def fnQuoAddRow : OpenClaim := { program := "ytbcngmlgmohkcaa", sum := "cf813811c376e407d2a79ea915805bb2f721bbe914c954e63aea651db37a6243", func := "loop.example/levellingnet/laws.FnQuoAdd", spec := "fnQuoAdd", unfollowed := true, recurses := true, apart := false }
def FnQuoAddSaid : Prop := fnQuoAddRow.holds Try.pinned (OpenSpec.ofChange fnQuoAddSpec)

/-- ITS FALSE NEIGHBOUR: 'it returns false'. Refute it at one input. -/
def fnQuoAddWrong : ChangeSpec := { name := "fnQuoAdd", fn := fun _ => fun
  | [d] => { results := [.lit (.bool false)], args := [d] }
  | _ => none }
def FnQuoAddWrongFalsely : Prop := fnQuoAddRow.holds Try.pinned (OpenSpec.ofChange fnQuoAddWrong)

/-- 'laws.FnQuoTimes': WHATEVER THE INPUT: true; the input reads as it did. -/
def fnQuoTimesSpec : ChangeSpec := { name := "fnQuoTimes", fn := fun _ => fun
  | [d] => { results := [.lit (.bool true)], args := [d] }
  | _ => none }
def fnQuoTimesRow : OpenClaim := { program := "ytbcngmlgmohkcaa", sum := "cf813811c376e407d2a79ea915805bb2f721bbe914c954e63aea651db37a6243", func := "loop.example/levellingnet/laws.FnQuoTimes", spec := "fnQuoTimes", unfollowed := true, recurses := true, apart := false }
def FnQuoTimesSaid : Prop := fnQuoTimesRow.holds Try.pinned (OpenSpec.ofChange fnQuoTimesSpec)

/-- ITS FALSE NEIGHBOUR: 'it returns false'. Refute it at one input. -/
def fnQuoTimesWrong : ChangeSpec := { name := "fnQuoTimes", fn := fun _ => fun
  | [d] => { results := [.lit (.bool false)], args := [d] }
  | _ => none }
def FnQuoTimesWrongFalsely : Prop := fnQuoTimesRow.holds Try.pinned (OpenSpec.ofChange fnQuoTimesWrong)

/-- 'laws.FnBearingLess': WHATEVER THE INPUT: true; the input reads as it did. -/
def fnBearingLessSpec : ChangeSpec := { name := "fnBearingLess", fn := fun _ => fun
  | [d1, d2] => { results := [.lit (.bool true)], args := [d1, d2] }
  | _ => none }
def fnBearingLessRow : OpenClaim := { program := "ytbcngmlgmohkcaa", sum := "cf813811c376e407d2a79ea915805bb2f721bbe914c954e63aea651db37a6243", func := "loop.example/levellingnet/laws.FnBearingLess", spec := "fnBearingLess", unfollowed := true, recurses := true, apart := false }
def FnBearingLessSaid : Prop := fnBearingLessRow.holds Try.pinned (OpenSpec.ofChange fnBearingLessSpec)

/-- ITS FALSE NEIGHBOUR: 'it returns false'. Refute it at one input. -/
def fnBearingLessWrong : ChangeSpec := { name := "fnBearingLess", fn := fun _ => fun
  | [d1, d2] => { results := [.lit (.bool false)], args := [d1, d2] }
  | _ => none }
def FnBearingLessWrongFalsely : Prop := fnBearingLessRow.holds Try.pinned (OpenSpec.ofChange fnBearingLessWrong)

/-- 'laws.FnQuoOrder': WHATEVER THE INPUT: true; the input reads as it did. -/
def fnQuoOrderSpec : ChangeSpec := { name := "fnQuoOrder", fn := fun _ => fun
  | [d] => { results := [.lit (.bool true)], args := [d] }
  | _ => none }
def fnQuoOrderRow : OpenClaim := { program := "ytbcngmlgmohkcaa", sum := "cf813811c376e407d2a79ea915805bb2f721bbe914c954e63aea651db37a6243", func := "loop.example/levellingnet/laws.FnQuoOrder", spec := "fnQuoOrder", unfollowed := true, recurses := true, apart := false }
def FnQuoOrderSaid : Prop := fnQuoOrderRow.holds Try.pinned (OpenSpec.ofChange fnQuoOrderSpec)

/-- ITS FALSE NEIGHBOUR: 'it returns false'. Refute it at one input. -/
def fnQuoOrderWrong : ChangeSpec := { name := "fnQuoOrder", fn := fun _ => fun
  | [d] => { results := [.lit (.bool false)], args := [d] }
  | _ => none }
def FnQuoOrderWrongFalsely : Prop := fnQuoOrderRow.holds Try.pinned (OpenSpec.ofChange fnQuoOrderWrong)

/- THE SECOND FORM. 'bulk': how many values and letters a reading holds, each counted each time it is reached (what is shared counts as often as it is met; a slice's spare places count too). A statement '..UptoSaid' is the law's where the arguments, and the package variables that the reading takes, are together of bulk at most 1048576: NARROWER than '..Said'. Prove '..Said' where nothing that the law and all that it calls make is longer than what came in: it says more and counts as full. Else prove '..UptoSaid'. A law counts once. -/
mutual
def uptoBulk {H : Type} : DataW H → Nat
  | .lit (.string bytes) => bytes.length + 1
  | .lit _ => 1
  | .nil => 1
  | .ptr d => uptoBulk d + 1
  | .slice elems spare => uptoBulkAll elems + uptoBulkAll spare + 1
  | .agg parts => uptoBulkAll parts + 1
  | .iface _ d => uptoBulk d + 1
  | .map entries => uptoBulkEntries entries + 1
  | .held _ => 1
def uptoBulkAll {H : Type} : List (DataW H) → Nat
  | [] => 0
  | d :: r => uptoBulk d + uptoBulkAll r
def uptoBulkEntries {H : Type} : List (Lit × DataW H) → Nat
  | [] => 0
  | x :: r => uptoBulkEntry x + uptoBulkEntries r
def uptoBulkEntry {H : Type} : Lit × DataW H → Nat
  | (.string bytes, d) => bytes.length + uptoBulk d + 1
  | (_, d) => uptoBulk d + 1
 end
def uptoSmall : (H : Type) → List (DataW H) → Bool := fun _ ds => decide (uptoBulkAll ds ≤ 1048576)
def OpenSpec.upto (s : _root_.Go.ChangeSpec) : _root_.Go.OpenSpec := { _root_.Go.OpenSpec.ofChange s with cond := some uptoSmall }

/-- 'laws.FnExactConstants', WHERE WHAT IT READS IS OF BULK AT MOST 1048576: true; the input reads as it did. -/
def fnExactConstantsUptoRow : OpenClaim := { program := "ytbcngmlgmohkcaa", sum := "cf813811c376e407d2a79ea915805bb2f721bbe914c954e63aea651db37a6243", func := "loop.example/levellingnet/laws.FnExactConstants", spec := "fnExactConstants", apart := false, narrowed := true }
def FnExactConstantsUptoSaid : Prop := fnExactConstantsUptoRow.holds Try.pinned (OpenSpec.upto fnExactConstantsSpec)

/-- 'laws.FnExactPointValid', WHERE WHAT IT READS IS OF BULK AT MOST 1048576: true; the input reads as it did. -/
def fnExactPointValidUptoRow : OpenClaim := { program := "ytbcngmlgmohkcaa", sum := "cf813811c376e407d2a79ea915805bb2f721bbe914c954e63aea651db37a6243", func := "loop.example/levellingnet/laws.FnExactPointValid", spec := "fnExactPointValid", apart := false, narrowed := true }
def FnExactPointValidUptoSaid : Prop := fnExactPointValidUptoRow.holds Try.pinned (OpenSpec.upto fnExactPointValidSpec)

/-- 'laws.FnExactQuoValid', WHERE WHAT IT READS IS OF BULK AT MOST 1048576: true; the input reads as it did. -/
def fnExactQuoValidUptoRow : OpenClaim := { program := "ytbcngmlgmohkcaa", sum := "cf813811c376e407d2a79ea915805bb2f721bbe914c954e63aea651db37a6243", func := "loop.example/levellingnet/laws.FnExactQuoValid", spec := "fnExactQuoValid", apart := false, narrowed := true }
def FnExactQuoValidUptoSaid : Prop := fnExactQuoValidUptoRow.holds Try.pinned (OpenSpec.upto fnExactQuoValidSpec)

/-- 'laws.FnExactPointMove', WHERE WHAT IT READS IS OF BULK AT MOST 1048576: true; the input reads as it did. -/
def fnExactPointMoveUptoRow : OpenClaim := { program := "ytbcngmlgmohkcaa", sum := "cf813811c376e407d2a79ea915805bb2f721bbe914c954e63aea651db37a6243", func := "loop.example/levellingnet/laws.FnExactPointMove", spec := "fnExactPointMove", apart := false, narrowed := true }
def FnExactPointMoveUptoSaid : Prop := fnExactPointMoveUptoRow.holds Try.pinned (OpenSpec.upto fnExactPointMoveSpec)

/-- 'laws.FnExactBearingOf', WHERE WHAT IT READS IS OF BULK AT MOST 1048576: true; the input reads as it did. -/
def fnExactBearingOfUptoRow : OpenClaim := { program := "ytbcngmlgmohkcaa", sum := "cf813811c376e407d2a79ea915805bb2f721bbe914c954e63aea651db37a6243", func := "loop.example/levellingnet/laws.FnExactBearingOf", spec := "fnExactBearingOf", apart := false, narrowed := true }
def FnExactBearingOfUptoSaid : Prop := fnExactBearingOfUptoRow.holds Try.pinned (OpenSpec.upto fnExactBearingOfSpec)

/-- 'laws.FnExactQuoOrder', WHERE WHAT IT READS IS OF BULK AT MOST 1048576: true; the input reads as it did. -/
def fnExactQuoOrderUptoRow : OpenClaim := { program := "ytbcngmlgmohkcaa", sum := "cf813811c376e407d2a79ea915805bb2f721bbe914c954e63aea651db37a6243", func := "loop.example/levellingnet/laws.FnExactQuoOrder", spec := "fnExactQuoOrder", apart := false, narrowed := true }
def FnExactQuoOrderUptoSaid : Prop := fnExactQuoOrderUptoRow.holds Try.pinned (OpenSpec.upto fnExactQuoOrderSpec)

/-- 'laws.FnExactBearingBack', WHERE WHAT IT READS IS OF BULK AT MOST 1048576: true; the input reads as it did. -/
def fnExactBearingBackUptoRow : OpenClaim := { program := "ytbcngmlgmohkcaa", sum := "cf813811c376e407d2a79ea915805bb2f721bbe914c954e63aea651db37a6243", func := "loop.example/levellingnet/laws.FnExactBearingBack", spec := "fnExactBearingBack", apart := false, narrowed := true }
def FnExactBearingBackUptoSaid : Prop := fnExactBearingBackUptoRow.holds Try.pinned (OpenSpec.upto fnExactBearingBackSpec)

/-- 'laws.FnExactQuoOf', WHERE WHAT IT READS IS OF BULK AT MOST 1048576: true; the input reads as it did. -/
def fnExactQuoOfUptoRow : OpenClaim := { program := "ytbcngmlgmohkcaa", sum := "cf813811c376e407d2a79ea915805bb2f721bbe914c954e63aea651db37a6243", func := "loop.example/levellingnet/laws.FnExactQuoOf", spec := "fnExactQuoOf", apart := false, narrowed := true }
def FnExactQuoOfUptoSaid : Prop := fnExactQuoOfUptoRow.holds Try.pinned (OpenSpec.upto fnExactQuoOfSpec)

/-- 'laws.FnExactBearingTurn', WHERE WHAT IT READS IS OF BULK AT MOST 1048576: true; the input reads as it did. -/
def fnExactBearingTurnUptoRow : OpenClaim := { program := "ytbcngmlgmohkcaa", sum := "cf813811c376e407d2a79ea915805bb2f721bbe914c954e63aea651db37a6243", func := "loop.example/levellingnet/laws.FnExactBearingTurn", spec := "fnExactBearingTurn", apart := false, narrowed := true }
def FnExactBearingTurnUptoSaid : Prop := fnExactBearingTurnUptoRow.holds Try.pinned (OpenSpec.upto fnExactBearingTurnSpec)

/-- 'laws.FnExactBearingQuarter', WHERE WHAT IT READS IS OF BULK AT MOST 1048576: true; the input reads as it did. -/
def fnExactBearingQuarterUptoRow : OpenClaim := { program := "ytbcngmlgmohkcaa", sum := "cf813811c376e407d2a79ea915805bb2f721bbe914c954e63aea651db37a6243", func := "loop.example/levellingnet/laws.FnExactBearingQuarter", spec := "fnExactBearingQuarter", apart := false, narrowed := true }
def FnExactBearingQuarterUptoSaid : Prop := fnExactBearingQuarterUptoRow.holds Try.pinned (OpenSpec.upto fnExactBearingQuarterSpec)

/-- 'laws.FnQuoOf', WHERE WHAT IT READS IS OF BULK AT MOST 1048576: true; the input reads as it did. -/
def fnQuoOfUptoRow : OpenClaim := { program := "ytbcngmlgmohkcaa", sum := "cf813811c376e407d2a79ea915805bb2f721bbe914c954e63aea651db37a6243", func := "loop.example/levellingnet/laws.FnQuoOf", spec := "fnQuoOf", apart := false, narrowed := true }
def FnQuoOfUptoSaid : Prop := fnQuoOfUptoRow.holds Try.pinned (OpenSpec.upto fnQuoOfSpec)

/-- 'laws.FnExactQuoTimes', WHERE WHAT IT READS IS OF BULK AT MOST 1048576: true; the input reads as it did. -/
def fnExactQuoTimesUptoRow : OpenClaim := { program := "ytbcngmlgmohkcaa", sum := "cf813811c376e407d2a79ea915805bb2f721bbe914c954e63aea651db37a6243", func := "loop.example/levellingnet/laws.FnExactQuoTimes", spec := "fnExactQuoTimes", apart := false, narrowed := true }
def FnExactQuoTimesUptoSaid : Prop := fnExactQuoTimesUptoRow.holds Try.pinned (OpenSpec.upto fnExactQuoTimesSpec)

/-- 'laws.FnBearingOf', WHERE WHAT IT READS IS OF BULK AT MOST 1048576: true; the input reads as it did. -/
def fnBearingOfUptoRow : OpenClaim := { program := "ytbcngmlgmohkcaa", sum := "cf813811c376e407d2a79ea915805bb2f721bbe914c954e63aea651db37a6243", func := "loop.example/levellingnet/laws.FnBearingOf", spec := "fnBearingOf", apart := false, narrowed := true }
def FnBearingOfUptoSaid : Prop := fnBearingOfUptoRow.holds Try.pinned (OpenSpec.upto fnBearingOfSpec)

/-- 'laws.FnExactBearingLess', WHERE WHAT IT READS IS OF BULK AT MOST 1048576: true; the input reads as it did. -/
def fnExactBearingLessUptoRow : OpenClaim := { program := "ytbcngmlgmohkcaa", sum := "cf813811c376e407d2a79ea915805bb2f721bbe914c954e63aea651db37a6243", func := "loop.example/levellingnet/laws.FnExactBearingLess", spec := "fnExactBearingLess", unfollowed := true, recurses := true, apart := false, narrowed := true }
def FnExactBearingLessUptoSaid : Prop := fnExactBearingLessUptoRow.holds Try.pinned (OpenSpec.upto fnExactBearingLessSpec)

/-- 'laws.FnExactQuoAdd', WHERE WHAT IT READS IS OF BULK AT MOST 1048576: true; the input reads as it did. -/
def fnExactQuoAddUptoRow : OpenClaim := { program := "ytbcngmlgmohkcaa", sum := "cf813811c376e407d2a79ea915805bb2f721bbe914c954e63aea651db37a6243", func := "loop.example/levellingnet/laws.FnExactQuoAdd", spec := "fnExactQuoAdd", unfollowed := true, recurses := true, apart := false, narrowed := true }
def FnExactQuoAddUptoSaid : Prop := fnExactQuoAddUptoRow.holds Try.pinned (OpenSpec.upto fnExactQuoAddSpec)

/-- 'laws.FnExactQuoTake', WHERE WHAT IT READS IS OF BULK AT MOST 1048576: true; the input reads as it did. -/
def fnExactQuoTakeUptoRow : OpenClaim := { program := "ytbcngmlgmohkcaa", sum := "cf813811c376e407d2a79ea915805bb2f721bbe914c954e63aea651db37a6243", func := "loop.example/levellingnet/laws.FnExactQuoTake", spec := "fnExactQuoTake", unfollowed := true, recurses := true, apart := false, narrowed := true }
def FnExactQuoTakeUptoSaid : Prop := fnExactQuoTakeUptoRow.holds Try.pinned (OpenSpec.upto fnExactQuoTakeSpec)

/-- 'laws.FnBearingTurn', WHERE WHAT IT READS IS OF BULK AT MOST 1048576: true; the input reads as it did. -/
def fnBearingTurnUptoRow : OpenClaim := { program := "ytbcngmlgmohkcaa", sum := "cf813811c376e407d2a79ea915805bb2f721bbe914c954e63aea651db37a6243", func := "loop.example/levellingnet/laws.FnBearingTurn", spec := "fnBearingTurn", apart := false, narrowed := true }
def FnBearingTurnUptoSaid : Prop := fnBearingTurnUptoRow.holds Try.pinned (OpenSpec.upto fnBearingTurnSpec)

/-- 'laws.FnQuoAdd', WHERE WHAT IT READS IS OF BULK AT MOST 1048576: true; the input reads as it did. -/
def fnQuoAddUptoRow : OpenClaim := { program := "ytbcngmlgmohkcaa", sum := "cf813811c376e407d2a79ea915805bb2f721bbe914c954e63aea651db37a6243", func := "loop.example/levellingnet/laws.FnQuoAdd", spec := "fnQuoAdd", unfollowed := true, recurses := true, apart := false, narrowed := true }
def FnQuoAddUptoSaid : Prop := fnQuoAddUptoRow.holds Try.pinned (OpenSpec.upto fnQuoAddSpec)

/-- 'laws.FnQuoTimes', WHERE WHAT IT READS IS OF BULK AT MOST 1048576: true; the input reads as it did. -/
def fnQuoTimesUptoRow : OpenClaim := { program := "ytbcngmlgmohkcaa", sum := "cf813811c376e407d2a79ea915805bb2f721bbe914c954e63aea651db37a6243", func := "loop.example/levellingnet/laws.FnQuoTimes", spec := "fnQuoTimes", unfollowed := true, recurses := true, apart := false, narrowed := true }
def FnQuoTimesUptoSaid : Prop := fnQuoTimesUptoRow.holds Try.pinned (OpenSpec.upto fnQuoTimesSpec)

/-- 'laws.FnBearingLess', WHERE WHAT IT READS IS OF BULK AT MOST 1048576: true; the input reads as it did. -/
def fnBearingLessUptoRow : OpenClaim := { program := "ytbcngmlgmohkcaa", sum := "cf813811c376e407d2a79ea915805bb2f721bbe914c954e63aea651db37a6243", func := "loop.example/levellingnet/laws.FnBearingLess", spec := "fnBearingLess", unfollowed := true, recurses := true, apart := false, narrowed := true }
def FnBearingLessUptoSaid : Prop := fnBearingLessUptoRow.holds Try.pinned (OpenSpec.upto fnBearingLessSpec)

/-- 'laws.FnQuoOrder', WHERE WHAT IT READS IS OF BULK AT MOST 1048576: true; the input reads as it did. -/
def fnQuoOrderUptoRow : OpenClaim := { program := "ytbcngmlgmohkcaa", sum := "cf813811c376e407d2a79ea915805bb2f721bbe914c954e63aea651db37a6243", func := "loop.example/levellingnet/laws.FnQuoOrder", spec := "fnQuoOrder", unfollowed := true, recurses := true, apart := false, narrowed := true }
def FnQuoOrderUptoSaid : Prop := fnQuoOrderUptoRow.holds Try.pinned (OpenSpec.upto fnQuoOrderSpec)

end Rows
end Go.Proofs.Ytbcngmlgmohkcaa
