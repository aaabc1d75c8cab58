/- The pure statement of FnExactNameOK: for every text both functions tell the same. No conditions. -/
import Derived.Test.YtopckofnjhelfaaKit
import Derived.Test.YtopckofnjhelfaaPFnExactNameOKx1
namespace Go.Proofs.Ytopckofnjhelfaa.Pure.LNameOK
open Go.RowKit Go.Proofs.Ytopckofnjhelfaa.PFnExactNameOK Go.Proofs.YtopckofnjhelfaaW.PrintWords
def small (c : Int) : Bool := decide (97 ≤ c ∧ c ≤ 122)
def digit (c : Int) : Bool := decide (48 ≤ c ∧ c ≤ 57)
theorem pos_eq {α : Type} {c : Prop} [Decidable c] {a b r : α} (h : c) (k : a = r) : (if c then a else b) = r := (if_pos h).trans k
theorem neg_eq {α : Type} {c : Prop} [Decidable c] {a b r : α} (h : ¬ c) (k : b = r) : (if c then a else b) = r := (if_neg h).trans k
def big (c : Int) : Bool := decide (65 ≤ c ∧ c ≤ 90)
theorem isSmall_eq (c : Int) : impl_isSmall.f c = some (small c) := by
  unfold impl_isSmall.f small
  by_cases h : c ≥ 97
  · rw [if_pos h]; simp [h]
  · rw [if_neg h]; simp; omega
theorem isDigit_eq (c : Int) : impl_isDigit.f c = some (digit c) := by
  unfold impl_isDigit.f digit
  by_cases h : c ≥ 48
  · rw [if_pos h]; simp [h]
  · rw [if_neg h]; simp; omega
theorem isLetter_eq (c : Int) : impl_isLetter.f c = some (small c || big c) := by
  unfold impl_isLetter.f
  rw [isSmall_eq, Option.bind_some]
  by_cases h : small c = true
  · rw [if_pos h, h, Bool.true_or]
  · rw [if_neg h, Bool.eq_false_iff.2 h, Bool.false_or]
    unfold big
    by_cases h1 : c ≥ 65
    · rw [if_pos h1]; simp [h1]
    · rw [if_neg h1]; simp; omega
theorem l00Digit_eq (c : Int) : spec_l00Digit.f c = some (digit c) := by
  unfold spec_l00Digit.f digit
  by_cases h : c ≥ 48
  · rw [if_pos h]; simp [h]
  · rw [if_neg h]; simp; omega
theorem l00Letter_eq (c : Int) : spec_l00Letter.f c = some (small c || big c || decide (c = 95)) := by
  unfold spec_l00Letter.f small big
  have hb : (c == 95) = decide (c = 95) := by simp [BEq.beq]
  by_cases h : c ≥ 97
  · rw [if_pos h]
    by_cases h2 : c ≤ 122
    · rw [if_pos h2]; simp [h, h2]
    · rw [if_neg h2, if_pos (by omega), if_neg (by omega), hb]
      rw [decide_eq_false (p := 97 ≤ c ∧ c ≤ 122) (by omega), decide_eq_false (p := 65 ≤ c ∧ c ≤ 90) (by omega), Bool.false_or, Bool.false_or]
  · rw [if_neg h, decide_eq_false (p := 97 ≤ c ∧ c ≤ 122) (by omega), Bool.false_or]
    by_cases h1 : c ≥ 65
    · rw [if_pos h1]
      by_cases h2 : c ≤ 90
      · rw [if_pos h2, decide_eq_true (p := 65 ≤ c ∧ c ≤ 90) (by omega), Bool.true_or]
      · rw [if_neg h2, hb, decide_eq_false (p := 65 ≤ c ∧ c ≤ 90) (by omega), Bool.false_or]
    · rw [if_neg h1, hb, decide_eq_false (p := 65 ≤ c ∧ c ≤ 90) (by omega), Bool.false_or]
theorem within_eq (n a b : Int) : impl_within.f n a b = some (decide (a ≤ n ∧ n ≤ b)) := by
  unfold impl_within.f
  by_cases h : n ≥ a
  · rw [if_pos h]; simp [h]
  · rw [if_neg h]; simp; omega
/-- The byte at place i may stand there in a name. -/
def nameB (s : ByteArray) (i : Nat) : Bool := small (bt s i) || big (bt s i) || decide (bt s i = 95) || (!decide (i = 0) && digit (bt s i))
def isName (s : ByteArray) : Bool := Kit.allB (nameB s) 0 s.size && decide ((1 : Int) ≤ (s.size : Int) ∧ (s.size : Int) ≤ 12)
theorem ev_name_impl (s : ByteArray) (hn : s.size ≤ 9223372036854775807) : Ev (fun k => impl_NameOK.f k s) (isName s) := by
  have key : ∀ i : Nat, i ≤ s.size → Ev (fun k => impl_NameOK.l0 k s s.size i) (Kit.allB (nameB s) i s.size && decide ((1 : Int) ≤ (s.size : Int) ∧ (s.size : Int) ≤ 12)) := by
    refine Kit.down ?_ ?_
    · refine Ev.step (fun k => rfl) ?_
      refine Kit.ev_neg (by omega) ?_
      refine Kit.ev_some (within_eq _ _ _) ?_
      rw [Kit.allB_end, Bool.true_and]
      exact Ev.now _
    · intro i hi ih
      refine Ev.step (fun k => rfl) ?_
      refine Kit.ev_pos (by omega) (Kit.ev_pos (by omega) (Kit.ev_pos (by omega) ?_))
      rw [Kit.allB_step _ hi, Kit.wrap_nat hi hn]
      have yes : nameB s i = true → Ev (fun k => impl_NameOK.l0 k s s.size ((i + 1 : Nat) : Int)) (nameB s i && Kit.allB (nameB s) (i + 1) s.size && decide ((1 : Int) ≤ (s.size : Int) ∧ (s.size : Int) ≤ 12)) := fun h => by rw [h, Bool.true_and]; exact ih
      have no : nameB s i = false → Ev (fun _ : Nat => some false) (nameB s i && Kit.allB (nameB s) (i + 1) s.size && decide ((1 : Int) ≤ (s.size : Int) ∧ (s.size : Int) ≤ 12)) := fun h => by rw [h, Bool.false_and, Bool.false_and]; exact Ev.now _
      refine Kit.ev_some (isLetter_eq _) (Kit.ev_if (fun h => yes (by simp only [nameB, h, Bool.true_or])) (fun h => Kit.ev_if (fun h5 => yes ?_) (fun h5 => ?_)))
      · simp [nameB, h5]
      have h' := Bool.eq_false_iff.2 h
      refine Kit.ev_if (fun h0 => no ?_) (fun h0 => ?_)
      · simp only [nameB, h', h5, decide_false, Bool.false_or]; simp; intro h1; omega
      refine Kit.ev_some (isDigit_eq _) (Kit.ev_if (fun h1 => yes ?_) (fun h1 => no ?_))
      · simp only [nameB, h', h1, h5, decide_false, Bool.false_or, Bool.and_true]; simp; omega
      · simp only [nameB, h', h1, h5, decide_false, Bool.false_or, Bool.and_false]
  exact key 0 (by omega)
theorem ev_name_spec (s : ByteArray) (hn : s.size ≤ 9223372036854775807) : Ev (fun k => spec_NameOK.f k s) (isName s) := by
  have key : ∀ i : Nat, i ≤ s.size → 1 ≤ i → Ev (fun k => spec_l00Word.l0 k s i) (Kit.allB (nameB s) i s.size) := by
    refine Kit.down (fun _ => ?_) ?_
    · refine Ev.step (fun k => by rw [spec_l00Word.l0]) ?_
      refine Kit.ev_neg (by omega) ?_
      rw [Kit.allB_end]
      exact Ev.now _
    · intro i hi ih h1i
      have ih := ih (by omega)
      refine Ev.step (fun k => by rw [spec_l00Word.l0]) ?_
      refine Kit.ev_pos (by omega) (Kit.ev_pos (by omega) ?_)
      rw [Kit.allB_step _ hi, Kit.wrap_nat hi hn]
      have yes : nameB s i = true → Ev (fun k => spec_l00Word.l0 k s ((i + 1 : Nat) : Int)) (nameB s i && Kit.allB (nameB s) (i + 1) s.size) := fun h => by rw [h, Bool.true_and]; exact ih
      have no : nameB s i = false → Ev (fun _ : Nat => some false) (nameB s i && Kit.allB (nameB s) (i + 1) s.size) := fun h => by rw [h, Bool.false_and]; exact Ev.now _
      refine Kit.ev_some (l00Letter_eq _) (Kit.ev_if (fun h => yes (by simp only [nameB, h, Bool.true_or])) (fun h => ?_))
      have h' := Bool.eq_false_iff.2 h
      refine Kit.ev_some (l00Digit_eq _) (Kit.ev_if (fun h1 => yes ?_) (fun h1 => no ?_))
      · simp only [nameB, h', h1, Bool.false_or, Bool.and_true]; simp; omega
      · simp only [nameB, h', h1, Bool.false_or, Bool.and_false]
  have jt : Ev (fun k => spec_l00Word.j0 k s true) false := Ev.step (fun k => by rw [spec_l00Word.j0]) (Kit.ev_pos rfl (Ev.now _))
  have jf : 1 ≤ s.size → Ev (fun k => spec_l00Word.j0 k s (!true)) (Kit.allB (nameB s) (0 + 1) s.size) := fun h => by
    refine Ev.step (f := fun k => if (!true) = true then some false else spec_l00Word.l0 k s 1) (fun k => by rw [spec_l00Word.j0]) ?_
    exact Kit.ev_neg (by decide) (key 1 h (by omega))
  have main : Ev (fun k => spec_l00Word.f k s) (isName s) := by
    unfold spec_l00Word.f isName
    refine Kit.ev_if (fun h => ?_) (fun h => Kit.ev_if (fun h2 => ?_) (fun h2 => ?_))
    · rw [decide_eq_false (p := (1 : Int) ≤ (s.size : Int) ∧ (s.size : Int) ≤ 12) (by omega), Bool.and_false]; exact jt
    · rw [decide_eq_false (p := (1 : Int) ≤ (s.size : Int) ∧ (s.size : Int) ≤ 12) (by omega), Bool.and_false]; exact jt
    · refine Kit.ev_pos (by omega) ?_
      rw [decide_eq_true (p := (1 : Int) ≤ (s.size : Int) ∧ (s.size : Int) ≤ 12) (by omega), Bool.and_true, Kit.allB_step _ (by omega)]
      refine Kit.ev_some (l00Letter_eq _) ?_
      have e0 : nameB s 0 = (small (bt s 0) || big (bt s 0) || decide (bt s 0 = 95)) := by simp [nameB]
      rw [e0]
      cases hc : (small (bt s 0) || big (bt s 0) || decide (bt s 0 = 95)) with
      | false => rw [Bool.false_and]; exact jt
      | true => rw [Bool.true_and]; exact jf (by omega)
  unfold spec_NameOK.f
  exact Ev.bind main (Ev.now _)
theorem proved : laws_FnExactNameOK.Pure := by
  intro a ha
  refine Ev.rounds (g := fun k => laws_FnExactNameOK.f k a) ?_
  unfold laws_FnExactNameOK.f
  refine Kit.ev_if (fun _ => Ev.now _) (fun _ => ?_)
  exact Ev.bind (ev_name_spec a (by omega)) (Ev.bind (ev_name_impl a (by omega)) (Kit.ev_neg (by simp) (Ev.now _)))
end Go.Proofs.Ytopckofnjhelfaa.Pure.LNameOK
namespace Go.Proofs.Ytopckofnjhelfaa.Pure
theorem FnExactNameOK : PFnExactNameOK.laws_FnExactNameOK.Pure := LNameOK.proved
end Go.Proofs.Ytopckofnjhelfaa.Pure
