/- The pure statement of FnExactIsVoid: for every text both functions tell the same. No conditions. -/
import Derived.Test.YthfkgallapjnoaaKit
import Derived.Test.YthfkgallapjnoaaPFnExactIsVoidx1
namespace Go.Proofs.Ythfkgallapjnoaa.Pure.LIsVoid
open Go.RowKit Go.Proofs.Ythfkgallapjnoaa.PFnExactIsVoid Go.Proofs.YthfkgallapjnoaaW.PrintWords
theorem ev_slices_Index (xs : List ByteArray) (t : ByteArray) (hn : xs.length ≤ 9223372036854775807) : Ev (fun k => slices_Index_string_string.f k xs t) (Kit.indexOf t xs 0) := by
  have key : ∀ i, i ≤ xs.length → Ev (fun k => slices_Index_string_string.l0 k xs t xs.length i) (Kit.indexOf t (xs.drop i) i) := by
    refine Kit.down ?_ ?_
    · refine Ev.step (fun k => rfl) ?_
      refine Kit.ev_neg (by omega) ?_
      rw [List.drop_length]
      exact Ev.now _
    · intro i hi ih
      refine Ev.step (fun k => rfl) ?_
      refine Kit.ev_pos (by omega) (Kit.ev_pos (by omega) (Kit.ev_pos (by omega) ?_))
      rw [Kit.drop_getD ByteArray.empty xs i hi, Kit.indexOf, Kit.rdOf_nat, Kit.wrap_nat hi hn]
      refine Kit.ev_if (fun h => ?_) (fun h => ?_)
      · rw [if_pos h]; exact Ev.now _
      · rw [if_neg h]; exact ih
  exact key 0 (by omega)
theorem ev_slices_Contains (xs : List ByteArray) (t : ByteArray) (hn : xs.length ≤ 9223372036854775807) : Ev (fun k => slices_Contains_string_string.f k xs t) (Kit.hasT xs t) := by
  unfold slices_Contains_string_string.f
  refine Ev.bind (ev_slices_Index xs t hn) ?_
  rw [← Kit.indexOf_has xs t 0]
  exact Ev.now _
theorem ev_l01Has (xs : List ByteArray) (t : ByteArray) (hn : xs.length ≤ 9223372036854775807) : Ev (fun k => spec_l01Has.f k xs t) (Kit.hasT xs t) := by
  have key : ∀ i, i ≤ xs.length → Ev (fun k => spec_l01Has.l0 k xs t i) (Kit.hasT (xs.drop i) t) := by
    refine Kit.down ?_ ?_
    · refine Ev.step (fun k => rfl) ?_
      refine Kit.ev_neg (by omega) ?_
      rw [List.drop_length]
      exact Ev.now _
    · intro i hi ih
      refine Ev.step (fun k => rfl) ?_
      refine Kit.ev_pos (by omega) (Kit.ev_pos (by omega) ?_)
      rw [Kit.drop_getD ByteArray.empty xs i hi, Kit.hasT_cons, Kit.rdOf_nat, Kit.wrap_nat hi hn]
      refine Kit.ev_if (fun h => ?_) (fun h => ?_)
      · rw [decide_eq_true h.symm, Bool.true_or]; exact Ev.now _
      · rw [decide_eq_false (fun e => h e.symm), Bool.false_or]; exact ih
  exact key 0 (by omega)
theorem proved : laws_FnExactIsVoid.Pure := by
  intro a _
  refine Ev.rounds (g := fun k => laws_FnExactIsVoid.f k a) ?_
  unfold laws_FnExactIsVoid.f
  refine Kit.ev_if (fun _ => Ev.now _) (fun _ => ?_)
  have hi : Ev (fun k => impl_IsVoid.f k a) _ := Ev.bind (ev_slices_Contains _ a (by decide)) (Ev.now _)
  have hl : Ev (fun k => spec_l01Void.f k a) _ := Ev.bind (ev_l01Has _ a (by decide)) (Ev.now _)
  have hs : Ev (fun k => spec_IsVoid.f k a) _ := Kit.ev_if (fun h => Kit.ev_const (congrArg some (Kit.hasT_long a (by omega) (by decide)).symm)) (fun _ => Ev.bind hl (Ev.now _))
  exact Ev.bind hs (Ev.bind hi (Kit.ev_neg (by simp) (Ev.now _)))
end Go.Proofs.Ythfkgallapjnoaa.Pure.LIsVoid
namespace Go.Proofs.Ythfkgallapjnoaa.Pure
theorem FnExactIsVoid : PFnExactIsVoid.laws_FnExactIsVoid.Pure := LIsVoid.proved
end Go.Proofs.Ythfkgallapjnoaa.Pure
