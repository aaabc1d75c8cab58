/- Of the words of the kit's print and of this session's own, those that this law's proof names. No conditions. -/
import Derived.Test.YtfkanlbmgbkniaaGreatDoorWWords
import Derived.ChangeArms
import Derived.DataElems
import Derived.ChangeShapes
import Derived.ChangeSlices
import Derived.WideShapes
import Derived.Deep.Fields
import Derived.Carry
namespace Go.Proofs.YtfkanlbmgbkniaaGreatDoor.Open
open Go.RowKit Go.ChangeShapes Go.WideShapes Go.Proofs.YtfkanlbmgbkniaaGreatDoorW.PrintWords
def Short (s:ByteArray):Prop:=s.size≤9223372036854775807
end Go.Proofs.YtfkanlbmgbkniaaGreatDoor.Open
