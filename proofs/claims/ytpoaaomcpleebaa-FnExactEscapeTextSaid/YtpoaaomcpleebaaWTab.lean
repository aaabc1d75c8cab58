/- Of the words of the kit's print and of this session's own, those that this law's proof names. No conditions. -/
import Derived.Test.YtpoaaomcpleebaaWLast
import Derived.Test.YtpoaaomcpleebaaWWords
namespace Go.Proofs.YtpoaaomcpleebaaW.PrintLast
open Go.Proofs.YtpoaaomcpleebaaW.PrintWords (Aside0)
end Go.Proofs.YtpoaaomcpleebaaW.PrintLast
