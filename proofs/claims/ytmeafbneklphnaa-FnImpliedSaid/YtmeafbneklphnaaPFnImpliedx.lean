/- By a program of this session, out of the kit's print and contracts made by hand: the machine side of a law; Lean checks it. No conditions. -/
import Derived.Test.YtmeafbneklphnaaPFnImpliedx0
import Derived.Test.YtmeafbneklphnaaPFnImpliedx1
import Derived.Test.YtmeafbneklphnaaPFnImpliedx2
import Derived.Test.YtmeafbneklphnaaPFnImpliedx3
import Derived.Test.YtmeafbneklphnaaPFnImpliedx4
import Derived.Test.YtmeafbneklphnaaPFnImpliedx5
import Derived.Test.YtmeafbneklphnaaPFnImpliedx6
import Derived.Test.YtmeafbneklphnaaPFnImpliedx7
import Derived.Test.YtmeafbneklphnaaPFnImpliedx8
import Derived.Test.YtmeafbneklphnaaPFnImpliedx9
import Derived.Test.YtmeafbneklphnaaPFnImpliedx10
import Derived.Test.YtmeafbneklphnaaPFnImpliedx11
import Derived.Test.YtmeafbneklphnaaPFnImpliedx12
import Derived.Test.YtmeafbneklphnaaPFnImpliedx13
import Derived.Test.YtmeafbneklphnaaPFnImpliedx14
import Derived.Test.YtmeafbneklphnaaPFnImpliedx15
import Derived.Test.YtmeafbneklphnaaPFnImpliedx16
import Derived.Test.YtmeafbneklphnaaPFnImpliedx17
import Derived.Test.YtmeafbneklphnaaPFnImpliedx18
import Derived.Test.YtmeafbneklphnaaPFnImpliedx19
import Derived.Test.YtmeafbneklphnaaPFnImpliedx20
import Derived.Test.YtmeafbneklphnaaPFnImpliedx21
namespace Go.Proofs.Ytmeafbneklphnaa.PFnImplied
open Go.RowKit Go.Proofs.YtmeafbneklphnaaW.PrintWords Go.Proofs.YtmeafbneklphnaaW.PrintLast Go.Proofs.YtmeafbneklphnaaW.PrintMore
attribute [local go_sem] max2_int min2_int max_two min_two max_three min_three max_four min_four   -- for this text's walks alone
set_option linter.unusedVariables false
set_option linter.unusedSimpArgs false

end Go.Proofs.Ytmeafbneklphnaa.PFnImplied
