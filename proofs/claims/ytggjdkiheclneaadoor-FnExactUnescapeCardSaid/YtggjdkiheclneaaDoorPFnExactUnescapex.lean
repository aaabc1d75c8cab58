/- By a program of this session, out of the kit's print and contracts made by hand: the machine side of a law; Lean checks it. No conditions. -/
import Derived.Test.YtggjdkiheclneaaDoorPFnExactUnescapex0
import Derived.Test.YtggjdkiheclneaaDoorPFnExactUnescapex1
import Derived.Test.YtggjdkiheclneaaDoorPFnExactUnescapex2
import Derived.Test.YtggjdkiheclneaaDoorPFnExactUnescapex3
import Derived.Test.YtggjdkiheclneaaDoorPFnExactUnescapex4
import Derived.Test.YtggjdkiheclneaaDoorPFnExactUnescapex5
import Derived.Test.YtggjdkiheclneaaDoorPFnExactUnescapex6
namespace Go.Proofs.YtggjdkiheclneaaDoor.PFnExactUnescape
open Go.RowKit Go.Proofs.YtggjdkiheclneaaDoorW.PrintWords Go.Proofs.YtggjdkiheclneaaDoorW.PrintLast Go.Proofs.YtggjdkiheclneaaDoorW.PrintMore
attribute [local go_sem] max2_int min2_int max_two min_two max_three min_three max_four min_four   -- for this text's walks alone
set_option linter.unusedVariables false
set_option linter.unusedSimpArgs false

end Go.Proofs.YtggjdkiheclneaaDoor.PFnExactUnescape
