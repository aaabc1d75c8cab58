/- The pure statement of FnExactCodeWord: for every number both functions tell the same word. No conditions. -/
import Derived.Test.YtopckofnjhelfaaPFnExactCodeWordx1
namespace Go.Proofs.Ytopckofnjhelfaa.Pure
open Go.RowKit Go.Proofs.Ytopckofnjhelfaa.PFnExactCodeWord Go.Proofs.YtopckofnjhelfaaW.PrintWords
theorem FnExactCodeWord : laws_FnExactCodeWord.Pure := by
  intro a _
  unfold laws_FnExactCodeWord.f spec_CodeWord.f impl_CodeWord.f impl_within.f impl_codeWords.f
  simp only [Option.bind_some, List.length_cons, List.length_nil]
  by_cases h0 : a < 0
  · rw [if_pos h0, if_neg (by omega)]
    simp
  · by_cases h1 : a ≤ 18
    · rw [if_neg h0, if_neg (by omega), if_pos (by omega), if_pos (by omega), if_pos (by omega)]
      simp only [Option.bind_some, h1, decide_true, if_true]
    · rw [if_neg h0, if_pos (by omega), if_pos (by omega)]
      simp [h1]
end Go.Proofs.Ytopckofnjhelfaa.Pure
