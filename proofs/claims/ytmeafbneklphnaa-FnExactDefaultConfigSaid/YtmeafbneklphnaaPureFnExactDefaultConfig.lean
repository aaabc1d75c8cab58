/- The pure statement of FnExactDefaultConfig: the law answers true (all that it computes is fixed: the equations stand by the law). No conditions. -/
import Derived.Test.YtmeafbneklphnaaOpensFnExactDefaultConfig
namespace Go.Proofs.Ytmeafbneklphnaa.Pure
open Go.RowKit Go.Proofs.Ytmeafbneklphnaa.PFnExactDefaultConfig
theorem FnExactDefaultConfig : laws_FnExactDefaultConfig.PureS := ⟨0, rfl⟩
end Go.Proofs.Ytmeafbneklphnaa.Pure
