/- The arguments of FnExactCommentOK opened: what reads as data is of the printed kinds; its pure statement. No conditions. -/
import Derived.Test.YtophaihdibplkaaOpen
import Derived.Test.YtophaihdibplkaaPFnExactCommentOKx4
import Derived.KernelRfl
namespace Go.Proofs.Ytophaihdibplkaa.PFnExactCommentOK
open Go.RowKit Go.ChangeShapes Go.WideShapes Go.Proofs.YtophaihdibplkaaW.PrintWords
def laws_FnExactCommentOK.PureS : Prop := ∀ (x0 : ByteArray), Open.Short x0 → ∃ k, laws_FnExactCommentOK.f k x0 = some true
end Go.Proofs.Ytophaihdibplkaa.PFnExactCommentOK
