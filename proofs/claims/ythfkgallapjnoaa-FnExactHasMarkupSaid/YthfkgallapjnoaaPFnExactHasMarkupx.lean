/- By a program of this session, out of the kit's print and contracts made by hand: the machine side of a law; Lean checks it. No conditions. -/
import Derived.Test.YthfkgallapjnoaaPFnExactHasMarkupx0
import Derived.Test.YthfkgallapjnoaaPFnExactHasMarkupx1
namespace Go.Proofs.Ythfkgallapjnoaa.PFnExactHasMarkup
open Go.RowKit Go.Proofs.YthfkgallapjnoaaW.PrintWords Go.Proofs.YthfkgallapjnoaaW.PrintLast Go.Proofs.YthfkgallapjnoaaW.PrintMore
attribute [local go_sem] max2_int min2_int max_two min_two max_three min_three max_four min_four   -- for this text's walks alone
set_option linter.unusedVariables false
set_option linter.unusedSimpArgs false

end Go.Proofs.Ythfkgallapjnoaa.PFnExactHasMarkup
