/- Of the words of the kit's print and of this session's own, those that this law's proof names. No conditions. -/
import Derived.Test.YtpoaaomcpleebaaDoorWLast
import Derived.Test.YtpoaaomcpleebaaDoorWWords
namespace Go.Proofs.YtpoaaomcpleebaaDoorW.PrintLast
open Go.Proofs.YtpoaaomcpleebaaDoorW.PrintWords (Aside0)
end Go.Proofs.YtpoaaomcpleebaaDoorW.PrintLast
