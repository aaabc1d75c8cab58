/- By a program of this session, out of the kit's print and contracts made by hand: the machine side of a law; Lean checks it. No conditions. -/
import Derived.Test.YtpoaaomcpleebaaDoorPFnExactEscapeValuex0
import Derived.Test.YtpoaaomcpleebaaDoorPFnExactEscapeValuex1
import Derived.Test.YtpoaaomcpleebaaDoorPFnExactEscapeValuex2
import Derived.Test.YtpoaaomcpleebaaDoorPFnExactEscapeValuex3
import Derived.Test.YtpoaaomcpleebaaDoorPFnExactEscapeValuex4
import Derived.Test.YtpoaaomcpleebaaDoorPFnExactEscapeValuex5
import Derived.Test.YtpoaaomcpleebaaDoorPFnExactEscapeValuex6
namespace Go.Proofs.YtpoaaomcpleebaaDoor.PFnExactEscapeValue
open Go.RowKit Go.Proofs.YtpoaaomcpleebaaDoorW.PrintWords Go.Proofs.YtpoaaomcpleebaaDoorW.PrintLast Go.Proofs.YtpoaaomcpleebaaDoorW.PrintMore
attribute [local go_sem] max2_int min2_int max_two min_two max_three min_three max_four min_four
set_option linter.unusedVariables false
set_option linter.unusedSimpArgs false
end Go.Proofs.YtpoaaomcpleebaaDoor.PFnExactEscapeValue
