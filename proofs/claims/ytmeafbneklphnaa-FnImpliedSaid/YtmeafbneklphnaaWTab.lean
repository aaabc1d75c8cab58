/- Of the words of the kit's print and of this session's own, those that this law's proof names. No conditions. -/
import Derived.Test.YtmeafbneklphnaaWLast
import Derived.Test.YtmeafbneklphnaaWWords
namespace Go.Proofs.YtmeafbneklphnaaW.PrintLast
open Go.Proofs.YtmeafbneklphnaaW.PrintWords (Aside0)
end Go.Proofs.YtmeafbneklphnaaW.PrintLast
