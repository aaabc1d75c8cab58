/- The pure statement of FnExactSpaceOf: for every text both functions tell the same space. No conditions. -/
import Derived.Test.YtopckofnjhelfaaKit
import Derived.Test.YtopckofnjhelfaaPFnExactSpaceOfx1
namespace Go.Proofs.Ytopckofnjhelfaa.Pure
open Go.RowKit Go.Proofs.Ytopckofnjhelfaa.PFnExactSpaceOf Go.Proofs.YtopckofnjhelfaaW.PrintWords
theorem FnExactSpaceOf : laws_FnExactSpaceOf.Pure := by
  intro a _
  unfold laws_FnExactSpaceOf.f spec_SpaceOf.f impl_SpaceOf.f spec_l01Space.f
  by_cases h0 : (a.size : Int) > 1048576
  · rw [if_pos h0]
  · rw [if_neg h0]
    by_cases h1 : (a.size : Int) > 65536
    · have hl := Kit.size_toList a
      have n1 : a.toList ≠ [115, 118, 103] := by
        intro h
        rw [h] at hl
        simp at hl
        omega
      have n2 : a.toList ≠ [109, 97, 116, 104] := by
        intro h
        rw [h] at hl
        simp at hl
        omega
      rw [if_pos h1, if_neg n1, if_neg n2]
      rfl
    · rw [if_neg h1]
      by_cases h2 : a.toList = [115, 118, 103]
      · rw [if_pos h2]
        rfl
      · by_cases h3 : a.toList = [109, 97, 116, 104]
        · rw [if_neg h2, if_pos h3]
          rfl
        · rw [if_neg h2, if_neg h3]
          rfl
end Go.Proofs.Ytopckofnjhelfaa.Pure
