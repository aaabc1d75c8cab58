/- Of the words of the kit's print and of this session's own, those that this law's proof names. No conditions. -/
import Derived.Test.YtggjdkiheclneaaDoorWLast
import Derived.Test.YtggjdkiheclneaaDoorWWords
namespace Go.Proofs.YtggjdkiheclneaaDoorW.PrintLast
open Go.Proofs.YtggjdkiheclneaaDoorW.PrintWords (Aside0)
end Go.Proofs.YtggjdkiheclneaaDoorW.PrintLast
