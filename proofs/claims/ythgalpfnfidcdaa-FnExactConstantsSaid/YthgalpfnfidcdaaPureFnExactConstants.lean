/- FnExactConstants, told over numbers alone: the law's printed function answers true. -/
import Derived.Test.YthgalpfnfidcdaaPCx1
namespace Go.Proofs.Ythgalpfnfidcdaa.Pure
open Go.RowKit Go.Proofs.Ythgalpfnfidcdaa.PC
theorem FnExactConstants : laws_FnExactConstants.f = some true := rfl
end Go.Proofs.Ythgalpfnfidcdaa.Pure
