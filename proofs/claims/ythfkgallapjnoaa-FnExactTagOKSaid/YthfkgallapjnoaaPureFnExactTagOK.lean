/- The pure statement of FnExactTagOK: for every text both functions tell the same. No conditions. -/
import Derived.Test.YthfkgallapjnoaaKit
import Derived.Test.YthfkgallapjnoaaPFnExactTagOKx1
namespace Go.Proofs.Ythfkgallapjnoaa.Pure.LTagOK
open Go.RowKit Go.Proofs.Ythfkgallapjnoaa.PFnExactTagOK Go.Proofs.YthfkgallapjnoaaW.PrintWords
def small (c : Int) : Bool := decide (97 ≤ c ∧ c ≤ 122)
def digit (c : Int) : Bool := decide (48 ≤ c ∧ c ≤ 57)
theorem pos_eq {α : Type} {c : Prop} [Decidable c] {a b r : α} (h : c) (k : a = r) : (if c then a else b) = r := (if_pos h).trans k
theorem neg_eq {α : Type} {c : Prop} [Decidable c] {a b r : α} (h : ¬ c) (k : b = r) : (if c then a else b) = r := (if_neg h).trans k
theorem isSmall_eq (c : Int) : impl_isSmall.f c = some (small c) := by
  unfold impl_isSmall.f small
  by_cases h : c ≥ 97
  · rw [if_pos h]; simp [h]
  · rw [if_neg h]; simp; omega
theorem isDigit_eq (c : Int) : impl_isDigit.f c = some (digit c) := by
  unfold impl_isDigit.f digit
  by_cases h : c ≥ 48
  · rw [if_pos h]; simp [h]
  · rw [if_neg h]; simp; omega
theorem l00Digit_eq (c : Int) : spec_l00Digit.f c = some (digit c) := by
  unfold spec_l00Digit.f digit
  by_cases h : c ≥ 48
  · rw [if_pos h]; simp [h]
  · rw [if_neg h]; simp; omega
theorem within_eq (n a b : Int) : impl_within.f n a b = some (decide (a ≤ n ∧ n ≤ b)) := by
  unfold impl_within.f
  by_cases h : n ≥ a
  · rw [if_pos h]; simp [h]
  · rw [if_neg h]; simp; omega
theorem l01In_eq (n a b : Int) : spec_l01In.f n a b = some (decide (a ≤ n ∧ n ≤ b)) := by
  unfold spec_l01In.f
  by_cases h : n ≥ a
  · rw [if_pos h]; simp [h]
  · rw [if_neg h]; simp; omega
/-- The byte at place i may stand there in a tag's name. -/
def tagB (s : ByteArray) (i : Nat) : Bool := small (bt s i) || (!decide (i = 0) && (digit (bt s i) || decide (bt s i = 45)))
def isTag (s : ByteArray) : Bool := Kit.allB (tagB s) 0 s.size && decide ((1 : Int) ≤ (s.size : Int) ∧ (s.size : Int) ≤ 12)
theorem ev_tag_impl (s : ByteArray) (hn : s.size ≤ 9223372036854775807) : Ev (fun k => impl_TagOK.f k s) (isTag s) := by
  have key : ∀ i : Nat, i ≤ s.size → Ev (fun k => impl_TagOK.l0 k s s.size i) (Kit.allB (tagB s) i s.size && decide ((1 : Int) ≤ (s.size : Int) ∧ (s.size : Int) ≤ 12)) := by
    refine Kit.down ?_ ?_
    · refine Ev.step (fun k => rfl) ?_
      refine Kit.ev_neg (by omega) ?_
      refine Kit.ev_some (within_eq _ _ _) ?_
      rw [Kit.allB_end, Bool.true_and]
      exact Ev.now _
    · intro i hi ih
      refine Ev.step (fun k => rfl) ?_
      refine Kit.ev_pos (by omega) (Kit.ev_pos (by omega) (Kit.ev_pos (by omega) ?_))
      rw [Kit.allB_step _ hi, Kit.wrap_nat hi hn]
      have yes : tagB s i = true → Ev (fun k => impl_TagOK.l0 k s s.size ((i + 1 : Nat) : Int)) (tagB s i && Kit.allB (tagB s) (i + 1) s.size && decide ((1 : Int) ≤ (s.size : Int) ∧ (s.size : Int) ≤ 12)) := fun h => by rw [h, Bool.true_and]; exact ih
      have no : tagB s i = false → Ev (fun _ : Nat => some false) (tagB s i && Kit.allB (tagB s) (i + 1) s.size && decide ((1 : Int) ≤ (s.size : Int) ∧ (s.size : Int) ≤ 12)) := fun h => by rw [h, Bool.false_and, Bool.false_and]; exact Ev.now _
      refine Kit.ev_some (isSmall_eq _) (Kit.ev_if (fun h => yes (by simp [tagB, h])) (fun h => ?_))
      refine Kit.ev_if (fun h0 => no ?_) (fun h0 => ?_)
      · simp [tagB, h]; intro h1; omega
      refine Kit.ev_some (isDigit_eq _) (Kit.ev_if (fun h1 => yes ?_) (fun h1 => Kit.ev_if (fun h2 => yes ?_) (fun h2 => no ?_)))
      · simp [tagB, h1]; omega
      · simp [tagB, h2]; omega
      · simp [tagB, h, h1, h2]
  exact key 0 (by omega)
theorem ev_tag_spec (s : ByteArray) (hn : s.size ≤ 9223372036854775807) : Ev (fun k => spec_l01Tag.f k s) (isTag s) := by
  have key : ∀ i : Nat, i ≤ s.size → Ev (fun k => spec_l01Tag.l0 k s i) (Kit.allB (tagB s) i s.size) := by
    refine Kit.down ?_ ?_
    · refine Ev.step (fun k => rfl) ?_
      refine Kit.ev_neg (by omega) ?_
      rw [Kit.allB_end]
      exact Ev.now _
    · intro i hi ih
      refine Ev.step (fun k => rfl) ?_
      refine Kit.ev_pos (by omega) (Kit.ev_pos (by omega) ?_)
      rw [Kit.allB_step _ hi, Kit.wrap_nat hi hn]
      have yes : tagB s i = true → Ev (fun k => spec_l01Tag.l0 k s ((i + 1 : Nat) : Int)) (tagB s i && Kit.allB (tagB s) (i + 1) s.size) := fun h => by rw [h, Bool.true_and]; exact ih
      have no : tagB s i = false → Ev (fun _ : Nat => some false) (tagB s i && Kit.allB (tagB s) (i + 1) s.size) := fun h => by rw [h, Bool.false_and]; exact Ev.now _
      have rest : small (bt s i) = false → Ev (fun k => if (i : Int) = 0 then some false else (spec_l00Digit.f (bt s i)).bind fun t => if t = true then spec_l01Tag.l0 k s ((i + 1 : Nat) : Int) else if bt s i = 45 then spec_l01Tag.l0 k s ((i + 1 : Nat) : Int) else some false) (tagB s i && Kit.allB (tagB s) (i + 1) s.size) := by
        intro h
        refine Kit.ev_if (fun h0 => no ?_) (fun h0 => ?_)
        · simp [tagB, h]; intro h1; omega
        refine Kit.ev_some (l00Digit_eq _) (Kit.ev_if (fun h1 => yes ?_) (fun h1 => Kit.ev_if (fun h2 => yes ?_) (fun h2 => no ?_)))
        · simp [tagB, h1]; omega
        · simp [tagB, h2]; omega
        · simp [tagB, h, h1, h2]
      refine Kit.ev_if (fun h => Kit.ev_if (fun h' => yes ?_) (fun h' => rest ?_)) (fun h => rest ?_)
      · simp [tagB, small]; left; omega
      · simp [small]; omega
      · simp [small]; omega
  unfold spec_l01Tag.f isTag
  refine Kit.ev_some (l01In_eq _ _ _) (Kit.ev_if (fun h => ?_) (fun h => ?_))
  · rw [h, Bool.and_true]; exact key 0 (by omega)
  · rw [Bool.eq_false_iff.2 h, Bool.and_false]; exact Ev.now _
theorem ev_TagOK_spec (s : ByteArray) (hn : s.size ≤ 9223372036854775807) : Ev (fun k => spec_TagOK.f k s) (isTag s) := by
  unfold spec_TagOK.f
  refine Kit.ev_if (fun h => ?_) (fun _ => Ev.bind (ev_tag_spec s hn) (Ev.now _))
  have : isTag s = false := by unfold isTag; rw [decide_eq_false (by omega), Bool.and_false]
  rw [this]; exact Ev.now _
theorem proved : laws_FnExactTagOK.Pure := by
  intro a ha
  refine Ev.rounds (g := fun k => laws_FnExactTagOK.f k a) ?_
  unfold laws_FnExactTagOK.f
  refine Kit.ev_if (fun _ => Ev.now _) (fun _ => ?_)
  exact Ev.bind (ev_TagOK_spec a (by omega)) (Ev.bind (ev_tag_impl a (by omega)) (Kit.ev_neg (by simp) (Ev.now _)))
end Go.Proofs.Ythfkgallapjnoaa.Pure.LTagOK
namespace Go.Proofs.Ythfkgallapjnoaa.Pure
theorem FnExactTagOK : PFnExactTagOK.laws_FnExactTagOK.Pure := LTagOK.proved
end Go.Proofs.Ythfkgallapjnoaa.Pure
