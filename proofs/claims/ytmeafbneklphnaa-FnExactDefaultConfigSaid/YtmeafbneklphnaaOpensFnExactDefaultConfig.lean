/- The arguments of FnExactDefaultConfig opened: what reads as data is of the printed kinds; its pure statement. No conditions. -/
import Derived.Test.YtmeafbneklphnaaOpen
import Derived.Test.YtmeafbneklphnaaPFnExactDefaultConfigx9
import Derived.KernelRfl
namespace Go.Proofs.Ytmeafbneklphnaa.PFnExactDefaultConfig
open Go.RowKit Go.ChangeShapes Go.WideShapes Go.Proofs.YtmeafbneklphnaaW.PrintWords
def laws_FnExactDefaultConfig.PureS : Prop := ∃ k, laws_FnExactDefaultConfig.f k  = some true
end Go.Proofs.Ytmeafbneklphnaa.PFnExactDefaultConfig
