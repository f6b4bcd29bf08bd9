-- Written by a program (wip/tools/mkprint.py) over the kit's print.
import Derived.Test.YtbcngmlgmohkcaaProg
import Derived.Below
import Derived.Deep.Draws
import Derived.Deep.AppendLies
import Derived.Maps.AppendAt
import Derived.OwnWalk
import Derived.Laws.BytesArg
import Derived.Laws.MakeOwn
import Derived.Laws.OwnMore
import Derived.Deep.OwnRows
import Derived.Tactics
import Derived.Lib.ConvBytes
import Derived.Laws.Slices
import Derived.WalkKit
import Derived.KernelRfl
import Derived.RowKit3
import Derived.Deep.LoopGhost
import Derived.Deep.QuietTactic
import Derived.BigQuiet
import Derived.WideLaws
import Derived.Deep.DeepCutAuto
import Derived.Deep.CutBlock
import Derived.Deep.RegionHeld3
import Derived.Laws.Rows
import Derived.Lib.AppendStr
import Derived.ArgAppend
import Derived.Laws.IdiomCopy
import Derived.OrdersHeld
import Derived.Laws.BitsLemmas
import Derived.RowKit
import Derived.Test.YtbcngmlgmohkcaaHb
import Derived.Test.YtbcngmlgmohkcaaHq
import Derived.Test.YtbcngmlgmohkcaaWWords
import Derived.Test.YtbcngmlgmohkcaaWLast
import Derived.Test.YtbcngmlgmohkcaaWTab
import Derived.Test.YtbcngmlgmohkcaaWFour
import Derived.Test.YtbcngmlgmohkcaaWQPut
import Derived.Test.YtbcngmlgmohkcaaWApart
import Derived.Test.YtbcngmlgmohkcaaWArr
import Derived.Test.YtbcngmlgmohkcaaWZeros
import Derived.Test.YtbcngmlgmohkcaaWFoot
import Derived.Test.YtbcngmlgmohkcaaWKept
import Derived.Test.YtbcngmlgmohkcaaWShare
import Derived.Test.YtbcngmlgmohkcaaWN
import Derived.Test.YtbcngmlgmohkcaaWFootNe
import Derived.Test.YtbcngmlgmohkcaaWAt
import Derived.Test.YtbcngmlgmohkcaaWEqStruct
import Derived.Test.YtbcngmlgmohkcaaWRepsOne
import Derived.Test.YtbcngmlgmohkcaaWInv
import Derived.Test.YtbcngmlgmohkcaaWInvWords
import Derived.Test.YtbcngmlgmohkcaaWGuard
import Derived.Test.YtbcngmlgmohkcaaWNEv
import Derived.Test.YtbcngmlgmohkcaaWMore
namespace Go.Proofs.Ytbcngmlgmohkcaa.P1
open Go.RowKit Go.Proofs.Ytbcngmlgmohkcaa.Hand Go.Proofs.Ytbcngmlgmohkcaa.P0 Go.Proofs.YtbcngmlgmohkcaaW.PrintWords Go.Proofs.YtbcngmlgmohkcaaW.PrintLast Go.Proofs.YtbcngmlgmohkcaaW.PrintMore
attribute [local go_sem] max2_int min2_int max_two min_two max_three min_three max_four min_four   -- for this text's walks alone
set_option linter.unusedVariables false
set_option linter.unusedSimpArgs false



def errW : Option Int → Value
  | none => .nilIface
  | some c => .iface 0 (.int .i64 c)
theorem errW_none : errW none = .nilIface := rfl
theorem errW_some (c : Int) : errW (some c) = .iface 0 (.int .i64 c) := rfl

-- the values' own types

end Go.Proofs.Ytbcngmlgmohkcaa.P1
