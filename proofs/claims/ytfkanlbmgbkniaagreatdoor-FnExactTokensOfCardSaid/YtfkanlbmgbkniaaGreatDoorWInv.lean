/- Of the words of the kit's print and of this session's own, those that this law's proof names. No conditions. -/
import Derived.Test.YtfkanlbmgbkniaaGreatDoorWTab
namespace Go.Proofs.YtfkanlbmgbkniaaGreatDoorW.PrintLast
def up (b:Nat→Bool) (i:Nat):Nat→Bool:=fun j=>if j=i then true else b j
end Go.Proofs.YtfkanlbmgbkniaaGreatDoorW.PrintLast
