/- The pure statement of FnExactIsHandler: for every text both functions tell the same. No conditions. -/
import Derived.Test.YthfkgallapjnoaaKit
import Derived.Test.YthfkgallapjnoaaPFnExactIsHandlerx1
namespace Go.Proofs.Ythfkgallapjnoaa.Pure.LIsHandler
open Go.RowKit Go.Proofs.Ythfkgallapjnoaa.PFnExactIsHandler Go.Proofs.YthfkgallapjnoaaW.PrintWords
theorem isLong1 (a : ByteArray) : impl_isLong.f [a] = some (decide (65536 < (a.size : Int))) := by
  unfold impl_isLong.f
  rw [if_pos (by simp)]
  simp
/-- A text of at least three bytes that begins with 'on'. -/
def handler (a : ByteArray) : Bool := decide ((a.size : Int) > 2) && ((a.extract 0 2).toList == ([111, 110] : List UInt8))
theorem hasPrefix_eq (a b : ByteArray) : strings_HasPrefix.f a b = some (decide (a.size ≥ b.size) && ((a.extract 0 b.size).toList == b.toList)) := by
  unfold strings_HasPrefix.f stringslite_HasPrefix.f
  by_cases h : (a.size : Int) ≥ (b.size : Int)
  · rw [if_pos h, if_pos (by omega), if_pos h, decide_eq_true (p := a.size ≥ b.size) (by omega)]
    rfl
  · rw [if_neg h, decide_eq_false (p := a.size ≥ b.size) (by omega)]
    rfl
theorem l01Handler_eq (a : ByteArray) : spec_l01Handler.f a = some (handler a) := by
  unfold spec_l01Handler.f handler
  by_cases h : (a.size : Int) > 2
  · rw [if_pos h, if_pos (by omega), if_pos (by omega), decide_eq_true h, Bool.true_and]
  · rw [if_neg h, decide_eq_false h, Bool.false_and]
theorem IsHandler_eq (a : ByteArray) : impl_IsHandler.f a = some (!decide (65536 < (a.size : Int)) && handler a) := by
  unfold impl_IsHandler.f handler
  rw [isLong1, Option.bind_some]
  by_cases h : 65536 < (a.size : Int)
  · rw [if_pos (decide_eq_true h), decide_eq_true h]; rfl
  · rw [if_neg (by simpa using h), decide_eq_false h]
    by_cases h2 : (a.size : Int) > 2
    · rw [if_pos h2, hasPrefix_eq, Option.bind_some, decide_eq_true h2]
      have h3 : a.size ≥ (⟨#[111, 110]⟩ : ByteArray).size := by show a.size ≥ 2; omega
      rw [decide_eq_true h3, Kit.lit_toList #[111, 110]]
      rfl
    · rw [if_neg h2, decide_eq_false h2]; rfl
theorem proved : laws_FnExactIsHandler.Pure := by
  intro a _
  unfold laws_FnExactIsHandler.f
  by_cases h : (a.size : Int) > 1048576
  · rw [if_pos h]
  · rw [if_neg h, IsHandler_eq]
    unfold spec_IsHandler.f
    by_cases h2 : (a.size : Int) > 65536
    · rw [if_pos h2, decide_eq_true (p := 65536 < (a.size : Int)) (by omega)]; rfl
    · rw [if_neg h2, l01Handler_eq, decide_eq_false (p := 65536 < (a.size : Int)) (by omega)]
      simp
end Go.Proofs.Ythfkgallapjnoaa.Pure.LIsHandler
namespace Go.Proofs.Ythfkgallapjnoaa.Pure
theorem FnExactIsHandler : PFnExactIsHandler.laws_FnExactIsHandler.Pure := LIsHandler.proved
end Go.Proofs.Ythfkgallapjnoaa.Pure
