/- The arguments of FnExactTokensOf opened: what reads as data is of the printed kinds; its pure statement. No conditions. -/
import Derived.Test.YtfkanlbmgbkniaaGreatDoorOpen
import Derived.Test.YtfkanlbmgbkniaaGreatDoorPFnExactTokensOfx28
import Derived.KernelRfl
namespace Go.Proofs.YtfkanlbmgbkniaaGreatDoor.PFnExactTokensOf
open Go.RowKit Go.ChangeShapes Go.WideShapes Go.Proofs.YtfkanlbmgbkniaaGreatDoorW.PrintWords
def laws_FnExactTokensOf.PureS:Prop:=∀ (x0:ByteArray),Open.Short x0→∃ k,laws_FnExactTokensOf.f k x0=some true
end Go.Proofs.YtfkanlbmgbkniaaGreatDoor.PFnExactTokensOf
