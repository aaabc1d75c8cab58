/- The pure statement of FnExactConstants: the law answers true. No conditions. -/
import Derived.Test.YtopckofnjhelfaaPFnExactConstantsx1
namespace Go.Proofs.Ytopckofnjhelfaa.Pure
open Go.RowKit Go.Proofs.Ytopckofnjhelfaa.PFnExactConstants
theorem FnExactConstants : laws_FnExactConstants.Pure := rfl
end Go.Proofs.Ytopckofnjhelfaa.Pure
