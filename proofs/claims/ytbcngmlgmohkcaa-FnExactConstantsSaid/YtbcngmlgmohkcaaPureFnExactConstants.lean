/- The law FnExactConstants of the printed function. -/
import Derived.Test.YtbcngmlgmohkcaaP0x40
namespace Go.Proofs.Ytbcngmlgmohkcaa.Pure
open Go.RowKit Go.Proofs.Ytbcngmlgmohkcaa.P0
theorem FnExactConstants : laws_FnExactConstants.f = some true := rfl
end Go.Proofs.Ytbcngmlgmohkcaa.Pure
