/- Of the words of the kit's print and of this session's own, those that this law's proof names. No conditions. -/
import Derived.Test.YtggjdkiheclneaaDoorWWords
import Derived.Test.YtggjdkiheclneaaDoorWLast
namespace Go.Proofs.YtggjdkiheclneaaDoorW.PrintWords
open Go.RowKit
namespace Kd
end Kd
end Go.Proofs.YtggjdkiheclneaaDoorW.PrintWords
