/- By a program of this session, out of the kit's print and contracts made by hand: the machine side of a law; Lean checks it. No conditions. -/
import Derived.Test.YtpoaaomcpleebaaPFnExactEscapeTextx0
import Derived.Test.YtpoaaomcpleebaaPFnExactEscapeTextx1
import Derived.Test.YtpoaaomcpleebaaPFnExactEscapeTextx2
import Derived.Test.YtpoaaomcpleebaaPFnExactEscapeTextx3
import Derived.Test.YtpoaaomcpleebaaPFnExactEscapeTextx4
import Derived.Test.YtpoaaomcpleebaaPFnExactEscapeTextx5
namespace Go.Proofs.Ytpoaaomcpleebaa.PFnExactEscapeText
open Go.RowKit Go.Proofs.YtpoaaomcpleebaaW.PrintWords Go.Proofs.YtpoaaomcpleebaaW.PrintLast Go.Proofs.YtpoaaomcpleebaaW.PrintMore
attribute [local go_sem] max2_int min2_int max_two min_two max_three min_three max_four min_four
set_option linter.unusedVariables false
set_option linter.unusedSimpArgs false
end Go.Proofs.Ytpoaaomcpleebaa.PFnExactEscapeText
