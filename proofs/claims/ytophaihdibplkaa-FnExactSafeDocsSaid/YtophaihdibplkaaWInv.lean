/- Of the words of the kit's print and of this session's own, those that this law's proof names. No conditions. -/
import Derived.Test.YtophaihdibplkaaWTab
namespace Go.Proofs.YtophaihdibplkaaW.PrintLast
end Go.Proofs.YtophaihdibplkaaW.PrintLast
