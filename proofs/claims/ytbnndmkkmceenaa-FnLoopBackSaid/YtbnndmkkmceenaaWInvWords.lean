-- Struck by wip/tools/prune.py: what no text of this seat comes to.
-- PRINTED BY print.sh 35421559b90ae4d0a3588c463048766b98c2df88dd9212a6774a882060cdf62d: not written by this session
import Derived.Test.YtbnndmkkmceenaaWInv
import Derived.Test.YtbnndmkkmceenaaWFootNe
namespace Go.Proofs.YtbnndmkkmceenaaW.PrintWords
open Go.RowKit
end Go.Proofs.YtbnndmkkmceenaaW.PrintWords
namespace Go.Proofs.YtbnndmkkmceenaaW.PrintLast
section
variable {ops : Array Oper} {a : Act} {o og : Oper} {g : Nat} {t : Tmp} {u : Bool}
end
end Go.Proofs.YtbnndmkkmceenaaW.PrintLast
