/- Of the words of the kit's print and of this session's own, those that this law's proof names. No conditions. -/
import Derived.Test.YtmeafbneklphnaaWTab
namespace Go.Proofs.YtmeafbneklphnaaW.PrintLast
end Go.Proofs.YtmeafbneklphnaaW.PrintLast
