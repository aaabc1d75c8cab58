/- Of the words of the kit's print and of this session's own, those that this law's proof names. No conditions. -/
import Derived.Test.YtmeafbneklphnaaWWords
import Derived.ChangeArms
import Derived.DataElems
import Derived.ChangeShapes
import Derived.ChangeSlices
import Derived.WideShapes
import Derived.Deep.Fields
import Derived.Carry
namespace Go.Proofs.Ytmeafbneklphnaa.Open
open Go.RowKit Go.ChangeShapes Go.WideShapes Go.Proofs.YtmeafbneklphnaaW.PrintWords
end Go.Proofs.Ytmeafbneklphnaa.Open
