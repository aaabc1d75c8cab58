/- By a program of this session, out of the kit's print and contracts made by hand: the machine side of a law; Lean checks it. No conditions. -/
import Derived.Test.YtophaihdibplkaaPFnNamesx0
import Derived.Test.YtophaihdibplkaaPFnNamesx1
import Derived.Test.YtophaihdibplkaaPFnNamesx2
import Derived.Test.YtophaihdibplkaaPFnNamesx3
import Derived.Test.YtophaihdibplkaaPFnNamesx4
import Derived.Test.YtophaihdibplkaaPFnNamesx5
import Derived.Test.YtophaihdibplkaaPFnNamesx6
import Derived.Test.YtophaihdibplkaaPFnNamesx7
import Derived.Test.YtophaihdibplkaaPFnNamesx8
import Derived.Test.YtophaihdibplkaaPFnNamesx9
import Derived.Test.YtophaihdibplkaaPFnNamesx10
import Derived.Test.YtophaihdibplkaaPFnNamesx11
import Derived.Test.YtophaihdibplkaaPFnNamesx12
import Derived.Test.YtophaihdibplkaaPFnNamesx13
namespace Go.Proofs.Ytophaihdibplkaa.PFnNames
open Go.RowKit Go.Proofs.YtophaihdibplkaaW.PrintWords Go.Proofs.YtophaihdibplkaaW.PrintLast Go.Proofs.YtophaihdibplkaaW.PrintMore
attribute [local go_sem] max2_int min2_int max_two min_two max_three min_three max_four min_four   -- for this text's walks alone
set_option linter.unusedVariables false
set_option linter.unusedSimpArgs false

end Go.Proofs.Ytophaihdibplkaa.PFnNames
