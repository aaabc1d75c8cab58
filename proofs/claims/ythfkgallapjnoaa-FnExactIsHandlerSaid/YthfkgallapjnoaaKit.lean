/- Small laws for the pure statements: loops that come to an answer from some number of rounds on, strings and lists of strings read by place. -/
import Derived.Test.YthfkgallapjnoaaWWords
namespace Go.Proofs.Ythfkgallapjnoaa.Kit
open Go.RowKit Go.Proofs.YthfkgallapjnoaaW.PrintWords

theorem down {n : Nat} {M : Nat → Prop} (hend : M n) (hstep : ∀ i, i < n → M (i + 1) → M i) : ∀ i, i ≤ n → M i := by
  have key : ∀ d i, i + d = n → M i := by
    intro d
    induction d with
    | zero => intro i h; rw [show i = n by omega]; exact hend
    | succ d ih => intro i h; exact hstep i (by omega) (ih (i + 1) (by omega))
  intro i hi
  exact key (n - i) i (by omega)

theorem ev_pos {α : Type} {c : Prop} [Decidable c] {f g : Nat → Option α} {r : α} (h : c) (k : Ev f r) : Ev (fun n => if c then f n else g n) r := by
  obtain ⟨K, k⟩ := k
  exact ⟨K, fun n hn => by simp only [if_pos h]; exact k n hn⟩
theorem ev_neg {α : Type} {c : Prop} [Decidable c] {f g : Nat → Option α} {r : α} (h : ¬ c) (k : Ev g r) : Ev (fun n => if c then f n else g n) r := by
  obtain ⟨K, k⟩ := k
  exact ⟨K, fun n hn => by simp only [if_neg h]; exact k n hn⟩
theorem ev_some {α β : Type} {o : Option α} {a : α} {f : Nat → α → Option β} {r : β} (h : o = some a) (k : Ev (fun n => f n a) r) : Ev (fun n => o.bind (f n)) r := by
  subst h
  exact k
theorem ev_const {α : Type} {o : Option α} {a : α} (h : o = some a) : Ev (fun _ => o) a := ⟨0, fun _ _ => h⟩
theorem ev_if {α : Type} {c : Prop} [Decidable c] {f g : Nat → Option α} {r : α} (h : c → Ev f r) (h' : ¬ c → Ev g r) : Ev (fun n => if c then f n else g n) r := by
  by_cases hc : c
  · exact ev_pos hc (h hc)
  · exact ev_neg hc (h' hc)

theorem wrap_of {i : Int} (h0 : -9223372036854775808 ≤ i) (h : i ≤ 9223372036854775807) : wrap64 i = i := by
  unfold wrap64
  omega
theorem wrap_nat {i n : Nat} (h : i < n) (hn : n ≤ 9223372036854775807) : wrap64 ((i : Int) + 1) = ((i + 1 : Nat) : Int) := by
  unfold wrap64
  omega

/-- P holds at the places i, .., n - 1. -/
def allB (P : Nat → Bool) (i n : Nat) : Bool := (List.range' i (n - i)).all P
theorem allB_end (P : Nat → Bool) (n : Nat) : allB P n n = true := by simp [allB]
theorem allB_step (P : Nat → Bool) {i n : Nat} (h : i < n) : allB P i n = (P i && allB P (i + 1) n) := by
  unfold allB
  rw [show n - i = (n - (i + 1)) + 1 by omega, List.range'_succ, List.all_cons]
theorem allB_iff (P : Nat → Bool) (i n : Nat) : allB P i n = true ↔ ∀ j, i ≤ j → j < n → P j = true := by
  unfold allB
  rw [List.all_eq_true]
  constructor
  · intro h j h0 h1
    exact h j (by rw [List.mem_range'_1]; omega)
  · intro h j hj
    rw [List.mem_range'_1] at hj
    exact h j (by omega) (by omega)
theorem allB_congr {P Q : Nat → Bool} {i n : Nat} (h : ∀ j, i ≤ j → j < n → P j = Q j) : allB P i n = allB Q i n := by
  rw [Bool.eq_iff_iff, allB_iff, allB_iff]
  exact ⟨fun k j h0 h1 => (h j h0 h1) ▸ k j h0 h1, fun k j h0 h1 => (h j h0 h1).symm ▸ k j h0 h1⟩

theorem rdOf_nat {α : Type} (d : α) (xs : List α) (i : Nat) : rdOf d xs (i : Int) = xs.getD i d := by simp [rdOf]

/-- The place of a text in a list, counted from i; -1 without it. -/
def indexOf (t : ByteArray) : List ByteArray → Nat → Int
  | [], _ => -1
  | x :: r, i => if t.toList = x.toList then (i : Int) else indexOf t r (i + 1)
def hasT (xs : List ByteArray) (t : ByteArray) : Bool := xs.any fun x => decide (t.toList = x.toList)
theorem hasT_nil (t : ByteArray) : hasT [] t = false := rfl
theorem hasT_cons (x : ByteArray) (xs : List ByteArray) (t : ByteArray) : hasT (x :: xs) t = (decide (t.toList = x.toList) || hasT xs t) := rfl
theorem indexOf_has (xs : List ByteArray) (t : ByteArray) : ∀ i, decide (0 ≤ indexOf t xs i) = hasT xs t := by
  induction xs with
  | nil => intro i; simp [indexOf, hasT]
  | cons x r ih =>
    intro i
    rw [hasT_cons, indexOf]
    by_cases h : t.toList = x.toList
    · rw [if_pos h]; simp [h]
    · rw [if_neg h, ih]; simp [h]
theorem drop_getD {α : Type} (d : α) (xs : List α) (i : Nat) (h : i < xs.length) : xs.drop i = xs.getD i d :: xs.drop (i + 1) := by
  rw [List.drop_eq_getElem_cons h]
  simp [List.getD, h]
theorem size_toList (s : ByteArray) : s.toList.length = s.size := by
  rw [ByteArray.toList_eq]
  exact data_length s
theorem lit_toList (xs : Array UInt8) : (⟨xs⟩ : ByteArray).toList = xs.toList := ByteArray.toList_eq _
/-- A long text is none of a list of short ones. -/
theorem hasT_long {xs : List ByteArray} (t : ByteArray) (h : 65536 < t.size) (hx : (xs.all fun x => decide (x.size ≤ 65536)) = true) : hasT xs t = false := by
  unfold hasT
  rw [List.any_eq_false]
  intro x hm he
  rw [List.all_eq_true] at hx
  have h1 := of_decide_eq_true (hx x hm)
  have h2 := congrArg List.length (of_decide_eq_true he)
  rw [size_toList, size_toList] at h2
  omega
end Go.Proofs.Ythfkgallapjnoaa.Kit
