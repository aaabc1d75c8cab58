/- Of the words of the kit's print and of this session's own, those that this law's proof names. No conditions. -/
import Derived.Test.YtfkanlbmgbkniaaGreatDoorWN
namespace Go.Proofs.YtfkanlbmgbkniaaGreatDoorW.PrintWords
open Go.RowKit
namespace Kd
end Kd
end Go.Proofs.YtfkanlbmgbkniaaGreatDoorW.PrintWords
