/- Of the words of the kit's print and of this session's own, those that this law's proof names. No conditions. -/
import Derived.Test.YtophaihdibplkaaWLast
import Derived.Test.YtophaihdibplkaaWWords
namespace Go.Proofs.YtophaihdibplkaaW.PrintLast
open Go.Proofs.YtophaihdibplkaaW.PrintWords (Aside0)
end Go.Proofs.YtophaihdibplkaaW.PrintLast
