-- Written by a program (wip/tools/mkprint.py) over the kit's print.
import Derived.Test.YtibnhdbgfodjpaaP0x0
import Derived.Test.YtibnhdbgfodjpaaProg
import Derived.Below
import Derived.Deep.Draws
import Derived.Deep.AppendLies
import Derived.Maps.AppendAt
import Derived.OwnWalk
import Derived.Laws.BytesArg
import Derived.Laws.MakeOwn
import Derived.Laws.OwnMore
import Derived.Deep.OwnRows
import Derived.Tactics
import Derived.Lib.ConvBytes
import Derived.Laws.Slices
import Derived.WalkKit
import Derived.KernelRfl
import Derived.RowKit3
import Derived.Deep.LoopGhost
import Derived.Deep.QuietTactic
import Derived.BigQuiet
import Derived.WideLaws
import Derived.Deep.DeepCutAuto
import Derived.Deep.CutBlock
import Derived.Deep.RegionHeld3
import Derived.Laws.Rows
import Derived.Lib.AppendStr
import Derived.ArgAppend
import Derived.Laws.IdiomCopy
import Derived.OrdersHeld
import Derived.Laws.BitsLemmas
import Derived.RowKit
import Derived.Test.YtibnhdbgfodjpaaHb
import Derived.Test.YtibnhdbgfodjpaaHq
import Derived.Test.YtibnhdbgfodjpaaWWords
namespace Go.Proofs.Ytibnhdbgfodjpaa.P1
open Go.RowKit Go.Proofs.Ytibnhdbgfodjpaa.Hand Go.Proofs.Ytibnhdbgfodjpaa.P0 Go.Proofs.YtibnhdbgfodjpaaW.PrintWords Go.Proofs.YtibnhdbgfodjpaaW.PrintLast
set_option linter.unusedVariables false
set_option linter.unusedSimpArgs false




end Go.Proofs.Ytibnhdbgfodjpaa.P1
