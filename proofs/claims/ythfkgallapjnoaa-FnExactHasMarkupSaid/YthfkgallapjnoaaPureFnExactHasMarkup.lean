/- The pure statement of FnExactHasMarkup: for every text both functions tell the same. No conditions. -/
import Derived.Test.YthfkgallapjnoaaKit
import Derived.Test.YthfkgallapjnoaaPFnExactHasMarkupx
namespace Go.Proofs.Ythfkgallapjnoaa.Pure.LHasMarkup
open Go.RowKit Go.Proofs.Ythfkgallapjnoaa.PFnExactHasMarkup Go.Proofs.YthfkgallapjnoaaW.PrintWords
theorem isLong1 (a : ByteArray) : impl_isLong.f [a] = some (decide (65536 < (a.size : Int))) := by
  unfold impl_isLong.f
  rw [if_pos (by simp)]
  simp
theorem indexByte_any (l : List UInt8) (c : UInt8) : decide (0 ≤ Lib.indexByte l c) = l.any fun b => b == c := by
  induction l with
  | nil => rfl
  | cons b l ih =>
    have hg := Lib.indexByte_ge l c
    rw [List.any_cons, ← ih, Lib.indexByte]
    by_cases h : (b == c) = true
    · rw [if_pos h, h]; rfl
    · rw [if_neg h, Bool.eq_false_iff.2 h, Bool.false_or]
      by_cases h2 : Lib.indexByte l c = -1
      · rw [if_pos (by rw [h2]; rfl), h2]
      · rw [if_neg (by simpa using h2), decide_eq_decide]; omega
/-- It has a byte 60. -/
def markB (s : ByteArray) : Bool := (bytesOf s).any fun c => decide (c = 60)
theorem contains_mark (s : ByteArray) : strings_Contains.f s (⟨#[60]⟩ : ByteArray) = some (markB s) := by
  show some (decide (0 ≤ Lib.indexByte s.data.toList 60)) = some (markB s)
  rw [indexByte_any]
  unfold markB bytesOf
  rw [List.any_map]
  congr 2
  funext b
  simp only [Function.comp]
  rw [Bool.eq_iff_iff, beq_iff_eq, decide_eq_true_iff]
  constructor
  · rintro rfl; rfl
  · intro h
    apply UInt8.toNat_inj.1
    exact Int.ofNat.inj h
theorem HasMarkup_eq (s : ByteArray) : impl_HasMarkup.f s = some (!decide (65536 < (s.size : Int)) && markB s) := by
  unfold impl_HasMarkup.f
  rw [isLong1, Option.bind_some]
  by_cases h : 65536 < (s.size : Int)
  · rw [if_pos (decide_eq_true h), decide_eq_true h]; rfl
  · rw [if_neg (by simpa using h), contains_mark, decide_eq_false h]; rfl
theorem ev_l02Has (s : ByteArray) (c : Int) (hn : s.size ≤ 9223372036854775807) : Ev (fun k => spec_l02Has.f k s c) ((bytesOf s).any fun x => decide (x = c)) := by
  have key : ∀ i : Nat, i ≤ s.size → Ev (fun k => spec_l02Has.l0 k s c i) (((bytesOf s).drop i).any fun x => decide (x = c)) := by
    refine Kit.down ?_ ?_
    · refine Ev.step (fun k => rfl) (Kit.ev_neg (by omega) ?_)
      rw [List.drop_of_length_le (by rw [bytesOf_length]; exact Nat.le_refl _)]
      exact Ev.now _
    · intro i hi ih
      refine Ev.step (fun k => rfl) (Kit.ev_pos (by omega) (Kit.ev_pos (by omega) ?_))
      rw [Kit.bytesOf_drop s i hi, Kit.wrap_nat hi hn, List.any_cons]
      refine Kit.ev_if (fun h => ?_) (fun h => ?_)
      · rw [decide_eq_true h, Bool.true_or]; exact Ev.now _
      · rw [decide_eq_false h, Bool.false_or]; exact ih
  exact key 0 (by omega)
theorem proved : laws_FnExactHasMarkup.Pure := by
  intro a ha
  refine Ev.rounds (g := fun k => laws_FnExactHasMarkup.f k a) ?_
  unfold laws_FnExactHasMarkup.f
  refine Kit.ev_if (fun _ => Ev.now _) (fun _ => ?_)
  have hs : Ev (fun k => spec_HasMarkup.f k a) (!decide (65536 < (a.size : Int)) && markB a) := by
    unfold spec_HasMarkup.f
    refine Kit.ev_if (fun h => ?_) (fun h => ?_)
    · rw [decide_eq_true h]; exact Ev.now _
    · rw [decide_eq_false h]; exact Kit.ev_pos (by omega) (Ev.bind (ev_l02Has a 60 (by omega)) (Ev.now _))
  exact Ev.bind hs (Kit.ev_const (by rw [HasMarkup_eq, Option.bind_some, if_neg (by simp)]))
end Go.Proofs.Ythfkgallapjnoaa.Pure.LHasMarkup
namespace Go.Proofs.Ythfkgallapjnoaa.Pure
theorem FnExactHasMarkup : PFnExactHasMarkup.laws_FnExactHasMarkup.Pure := LHasMarkup.proved
end Go.Proofs.Ythfkgallapjnoaa.Pure
