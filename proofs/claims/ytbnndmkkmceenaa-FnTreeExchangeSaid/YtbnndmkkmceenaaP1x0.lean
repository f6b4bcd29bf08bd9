-- Written by a program (wip/tools/mkprint.py) over the kit's print.
import Derived.Test.YtbnndmkkmceenaaP0x0
import Derived.Test.YtbnndmkkmceenaaP0x1
import Derived.Test.YtbnndmkkmceenaaProg
import Derived.Below
import Derived.Deep.Draws
import Derived.Deep.AppendLies
import Derived.Maps.AppendAt
import Derived.OwnWalk
import Derived.Laws.BytesArg
import Derived.Laws.MakeOwn
import Derived.Laws.OwnMore
import Derived.Deep.OwnRows
import Derived.Tactics
import Derived.Lib.ConvBytes
import Derived.Laws.Slices
import Derived.WalkKit
import Derived.KernelRfl
import Derived.RowKit3
import Derived.Deep.LoopGhost
import Derived.Deep.QuietTactic
import Derived.BigQuiet
import Derived.WideLaws
import Derived.Deep.DeepCutAuto
import Derived.Deep.CutBlock
import Derived.Deep.RegionHeld3
import Derived.Laws.Rows
import Derived.Lib.AppendStr
import Derived.ArgAppend
import Derived.Laws.IdiomCopy
import Derived.OrdersHeld
import Derived.Laws.BitsLemmas
import Derived.RowKit
import Derived.Test.YtbnndmkkmceenaaH1
import Derived.Test.YtbnndmkkmceenaaWWords
import Derived.Test.YtbnndmkkmceenaaWLast
import Derived.Test.YtbnndmkkmceenaaWTab
import Derived.Test.YtbnndmkkmceenaaWFour
import Derived.Test.YtbnndmkkmceenaaWQPut
import Derived.Test.YtbnndmkkmceenaaWApart
import Derived.Test.YtbnndmkkmceenaaWArr
import Derived.Test.YtbnndmkkmceenaaWZeros
import Derived.Test.YtbnndmkkmceenaaWFoot
import Derived.Test.YtbnndmkkmceenaaWKept
import Derived.Test.YtbnndmkkmceenaaWShare
import Derived.Test.YtbnndmkkmceenaaWN
import Derived.Test.YtbnndmkkmceenaaWFootNe
import Derived.Test.YtbnndmkkmceenaaWAt
import Derived.Test.YtbnndmkkmceenaaWEqStruct
import Derived.Test.YtbnndmkkmceenaaWRepsOne
import Derived.Test.YtbnndmkkmceenaaWInv
import Derived.Test.YtbnndmkkmceenaaWInvWords
import Derived.Test.YtbnndmkkmceenaaWGuard
import Derived.Test.YtbnndmkkmceenaaWNEv
import Derived.Test.YtbnndmkkmceenaaWMore
namespace Go.Proofs.Ytbnndmkkmceenaa.P1
open Go.RowKit Go.Proofs.Ytbnndmkkmceenaa.Hand Go.Proofs.Ytbnndmkkmceenaa.P0 Go.Proofs.YtbnndmkkmceenaaW.PrintWords Go.Proofs.YtbnndmkkmceenaaW.PrintLast Go.Proofs.YtbnndmkkmceenaaW.PrintMore
attribute [local go_sem] max2_int min2_int max_two min_two max_three min_three max_four min_four   -- for this text's walks alone
set_option linter.unusedVariables false
set_option linter.unusedSimpArgs false




end Go.Proofs.Ytbnndmkkmceenaa.P1
