/- By a program of this session, out of the kit's print and contracts made by hand: the machine side of a law; Lean checks it. No conditions. -/
import Derived.Test.YtpfpbanadobfmaaPFnLinksx0
import Derived.Test.YtpfpbanadobfmaaPFnLinksx1
import Derived.Test.YtpfpbanadobfmaaPFnLinksx2
import Derived.Test.YtpfpbanadobfmaaPFnLinksx3
import Derived.Test.YtpfpbanadobfmaaPFnLinksx4
import Derived.Test.YtpfpbanadobfmaaPFnLinksx5
import Derived.Test.YtpfpbanadobfmaaPFnLinksx6
namespace Go.Proofs.Ytpfpbanadobfmaa.PFnLinks
open Go.RowKit Go.Proofs.YtpfpbanadobfmaaW.PrintWords Go.Proofs.YtpfpbanadobfmaaW.PrintLast Go.Proofs.YtpfpbanadobfmaaW.PrintMore
attribute [local go_sem] max2_int min2_int max_two min_two max_three min_three max_four min_four
set_option linter.unusedVariables false
set_option linter.unusedSimpArgs false
end Go.Proofs.Ytpfpbanadobfmaa.PFnLinks
