/- Of the words of the kit's print and of this session's own, those that this law's proof names. No conditions. -/
import Derived.Test.YtmeafbneklphnaaWWords
import Derived.Lib.Bytealg
namespace Go.Proofs.Ytmeafbneklphnaa.Kit
open Go.RowKit Go.Proofs.YtmeafbneklphnaaW.PrintWords

end Go.Proofs.Ytmeafbneklphnaa.Kit
