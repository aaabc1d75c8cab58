/- The pure statement of FnExactCodeOf: for every text both functions tell the same code. No conditions. -/
import Derived.Test.YtopckofnjhelfaaKit
import Derived.Test.YtopckofnjhelfaaPFnExactCodeOfx1
namespace Go.Proofs.Ytopckofnjhelfaa.Pure.LCodeOf
open Go.RowKit Go.Proofs.Ytopckofnjhelfaa.PFnExactCodeOf Go.Proofs.YtopckofnjhelfaaW.PrintWords
theorem ev_slices_Index (xs : List ByteArray) (t : ByteArray) (hn : xs.length ≤ 9223372036854775807) : Ev (fun k => slices_Index_string_string.f k xs t) (Kit.indexOf t xs 0) := by
  have key : ∀ i, i ≤ xs.length → Ev (fun k => slices_Index_string_string.l0 k xs t xs.length i) (Kit.indexOf t (xs.drop i) i) := by
    refine Kit.down ?_ ?_
    · refine Ev.step (fun k => rfl) ?_
      refine Kit.ev_neg (by omega) ?_
      rw [List.drop_length]
      exact Ev.now _
    · intro i hi ih
      refine Ev.step (fun k => rfl) ?_
      refine Kit.ev_pos (by omega) (Kit.ev_pos (by omega) (Kit.ev_pos (by omega) ?_))
      rw [Kit.drop_getD ByteArray.empty xs i hi, Kit.indexOf, Kit.rdOf_nat, Kit.wrap_nat hi hn]
      refine Kit.ev_if (fun h => ?_) (fun h => ?_)
      · rw [if_pos h]; exact Ev.now _
      · rw [if_neg h]; exact ih
  exact key 0 (by omega)
def words : List ByteArray := (impl_codeWords.f).getD []
theorem word_at (i : Nat) (h : i < 19) : spec_CodeWord.f i = some (words.getD i ByteArray.empty) := by
  unfold spec_CodeWord.f
  simp only [Option.bind_some, List.length_cons, List.length_nil]
  rw [if_neg (by omega), if_neg (by omega), if_pos (by omega), if_pos (by omega), Kit.rdOf_nat]
  rfl
theorem words_length : words.length = 19 := rfl
theorem ev_spec (t : ByteArray) : Ev (fun k => spec_CodeOf.f k t) (Kit.indexOf t words 0) := by
  have key : ∀ i : Nat, i ≤ 19 → Ev (fun k => spec_CodeOf.l0 k t i) (Kit.indexOf t (words.drop i) i) := by
    refine Kit.down ?_ ?_
    · refine Ev.step (fun k => rfl) ?_
      refine Kit.ev_neg (by omega) ?_
      exact Ev.now _
    · intro i hi ih
      refine Ev.step (fun k => rfl) ?_
      refine Kit.ev_pos (by omega) ?_
      refine Kit.ev_some (word_at i hi) ?_
      rw [Kit.drop_getD ByteArray.empty words i (by rw [words_length]; exact hi), Kit.indexOf, Kit.wrap_nat hi (by omega)]
      refine Kit.ev_if (fun h => ?_) (fun h => ?_)
      · rw [if_pos h.symm]; exact Ev.now _
      · rw [if_neg (fun e => h e.symm)]; exact ih
  exact key 0 (by omega)
theorem proved : laws_FnExactCodeOf.Pure := by
  intro a _
  refine Ev.rounds (g := fun k => laws_FnExactCodeOf.f k a) ?_
  unfold laws_FnExactCodeOf.f
  refine Kit.ev_if (fun _ => Ev.now _) (fun _ => ?_)
  refine Ev.bind (ev_spec a) ?_
  refine Ev.bind (a := Kit.indexOf a words 0) ?_ ?_
  · unfold impl_CodeOf.f
    refine Kit.ev_some (a := words) rfl ?_
    refine Ev.bind (ev_slices_Index words a (by rw [words_length]; omega)) (Ev.now _)
  · exact Kit.ev_pos rfl (Ev.now _)
end Go.Proofs.Ytopckofnjhelfaa.Pure.LCodeOf
namespace Go.Proofs.Ytopckofnjhelfaa.Pure
theorem FnExactCodeOf : PFnExactCodeOf.laws_FnExactCodeOf.Pure := LCodeOf.proved
end Go.Proofs.Ytopckofnjhelfaa.Pure
