/- Small laws for the pure statements: loops that come to an answer from some number of rounds on, strings and lists of strings read by place. -/
import Derived.Test.YthfkgallapjnoaaWWords
namespace Go.Proofs.Ythfkgallapjnoaa.Kit
open Go.RowKit Go.Proofs.YthfkgallapjnoaaW.PrintWords

theorem down {n : Nat} {M : Nat → Prop} (hend : M n) (hstep : ∀ i, i < n → M (i + 1) → M i) : ∀ i, i ≤ n → M i := by
  have key : ∀ d i, i + d = n → M i := by
    intro d
    induction d with
    | zero => intro i h; rw [show i = n by omega]; exact hend
    | succ d ih => intro i h; exact hstep i (by omega) (ih (i + 1) (by omega))
  intro i hi
  exact key (n - i) i (by omega)

theorem ev_pos {α : Type} {c : Prop} [Decidable c] {f g : Nat → Option α} {r : α} (h : c) (k : Ev f r) : Ev (fun n => if c then f n else g n) r := by
  obtain ⟨K, k⟩ := k
  exact ⟨K, fun n hn => by simp only [if_pos h]; exact k n hn⟩
theorem ev_neg {α : Type} {c : Prop} [Decidable c] {f g : Nat → Option α} {r : α} (h : ¬ c) (k : Ev g r) : Ev (fun n => if c then f n else g n) r := by
  obtain ⟨K, k⟩ := k
  exact ⟨K, fun n hn => by simp only [if_neg h]; exact k n hn⟩
theorem ev_some {α β : Type} {o : Option α} {a : α} {f : Nat → α → Option β} {r : β} (h : o = some a) (k : Ev (fun n => f n a) r) : Ev (fun n => o.bind (f n)) r := by
  subst h
  exact k
theorem ev_const {α : Type} {o : Option α} {a : α} (h : o = some a) : Ev (fun _ => o) a := ⟨0, fun _ _ => h⟩
theorem ev_if {α : Type} {c : Prop} [Decidable c] {f g : Nat → Option α} {r : α} (h : c → Ev f r) (h' : ¬ c → Ev g r) : Ev (fun n => if c then f n else g n) r := by
  by_cases hc : c
  · exact ev_pos hc (h hc)
  · exact ev_neg hc (h' hc)

theorem wrap_of {i : Int} (h0 : -9223372036854775808 ≤ i) (h : i ≤ 9223372036854775807) : wrap64 i = i := by
  unfold wrap64
  omega
theorem wrap_nat {i n : Nat} (h : i < n) (hn : n ≤ 9223372036854775807) : wrap64 ((i : Int) + 1) = ((i + 1 : Nat) : Int) := by
  unfold wrap64
  omega

/-- P holds at the places i, .., n - 1. -/
def allB (P : Nat → Bool) (i n : Nat) : Bool := (List.range' i (n - i)).all P
theorem allB_end (P : Nat → Bool) (n : Nat) : allB P n n = true := by simp [allB]
theorem allB_step (P : Nat → Bool) {i n : Nat} (h : i < n) : allB P i n = (P i && allB P (i + 1) n) := by
  unfold allB
  rw [show n - i = (n - (i + 1)) + 1 by omega, List.range'_succ, List.all_cons]
theorem allB_iff (P : Nat → Bool) (i n : Nat) : allB P i n = true ↔ ∀ j, i ≤ j → j < n → P j = true := by
  unfold allB
  rw [List.all_eq_true]
  constructor
  · intro h j h0 h1
    exact h j (by rw [List.mem_range'_1]; omega)
  · intro h j hj
    rw [List.mem_range'_1] at hj
    exact h j (by omega) (by omega)
theorem allB_congr {P Q : Nat → Bool} {i n : Nat} (h : ∀ j, i ≤ j → j < n → P j = Q j) : allB P i n = allB Q i n := by
  rw [Bool.eq_iff_iff, allB_iff, allB_iff]
  exact ⟨fun k j h0 h1 => (h j h0 h1) ▸ k j h0 h1, fun k j h0 h1 => (h j h0 h1).symm ▸ k j h0 h1⟩

theorem rdOf_nat {α : Type} (d : α) (xs : List α) (i : Nat) : rdOf d xs (i : Int) = xs.getD i d := by simp [rdOf]

/-- The place of a text in a list, counted from i; -1 without it. -/
def indexOf (t : ByteArray) : List ByteArray → Nat → Int
  | [], _ => -1
  | x :: r, i => if t.toList = x.toList then (i : Int) else indexOf t r (i + 1)
def hasT (xs : List ByteArray) (t : ByteArray) : Bool := xs.any fun x => decide (t.toList = x.toList)
theorem hasT_nil (t : ByteArray) : hasT [] t = false := rfl
theorem hasT_cons (x : ByteArray) (xs : List ByteArray) (t : ByteArray) : hasT (x :: xs) t = (decide (t.toList = x.toList) || hasT xs t) := rfl
theorem indexOf_has (xs : List ByteArray) (t : ByteArray) : ∀ i, decide (0 ≤ indexOf t xs i) = hasT xs t := by
  induction xs with
  | nil => intro i; simp [indexOf, hasT]
  | cons x r ih =>
    intro i
    rw [hasT_cons, indexOf]
    by_cases h : t.toList = x.toList
    · rw [if_pos h]; simp [h]
    · rw [if_neg h, ih]; simp [h]
theorem drop_getD {α : Type} (d : α) (xs : List α) (i : Nat) (h : i < xs.length) : xs.drop i = xs.getD i d :: xs.drop (i + 1) := by
  rw [List.drop_eq_getElem_cons h]
  simp [List.getD, h]
theorem size_toList (s : ByteArray) : s.toList.length = s.size := by
  rw [ByteArray.toList_eq]
  exact data_length s
theorem lit_toList (xs : Array UInt8) : (⟨xs⟩ : ByteArray).toList = xs.toList := ByteArray.toList_eq _
/-- A long text is none of a list of short ones. -/
theorem hasT_long {xs : List ByteArray} (t : ByteArray) (h : 65536 < t.size) (hx : (xs.all fun x => decide (x.size ≤ 65536)) = true) : hasT xs t = false := by
  unfold hasT
  rw [List.any_eq_false]
  intro x hm he
  rw [List.all_eq_true] at hx
  have h1 := of_decide_eq_true (hx x hm)
  have h2 := congrArg List.length (of_decide_eq_true he)
  rw [size_toList, size_toList] at h2
  omega
/- Strings as lists of numbers. -/
theorem bytesOf_mem {s : ByteArray} {x : Int} (h : x ∈ bytesOf s) : 0 ≤ x ∧ x ≤ 255 := by
  unfold bytesOf at h
  obtain ⟨b, _, rfl⟩ := List.mem_map.1 h
  have := b.toNat_lt
  omega
theorem bytesOf_strOf {xs : List Int} (h : ∀ x ∈ xs, 0 ≤ x ∧ x ≤ 255) : bytesOf (strOfNums xs) = xs := by
  unfold bytesOf
  rw [strOfNums_data, List.map_map]
  refine (List.map_congr_left (g := id) ?_).trans (List.map_id _)
  intro x hx
  have := h x hx
  simp
  omega
theorem strOf_bytesOf (s : ByteArray) : strOfNums (bytesOf s) = s := by
  unfold strOfNums bytesOf
  rw [List.map_map]
  have : (s.data.toList.map ((fun n : Int => UInt8.ofNat n.toNat) ∘ fun b : UInt8 => (b.toNat : Int))) = s.data.toList := by
    refine (List.map_congr_left (g := id) ?_).trans (List.map_id _)
    intro x _
    simp
  rw [this]
theorem bytesOf_inj {a b : ByteArray} (h : bytesOf a = bytesOf b) : a = b := by
  rw [← strOf_bytesOf a, ← strOf_bytesOf b, h]
theorem toList_inj {a b : ByteArray} (h : a.toList = b.toList) : a = b := by
  rw [ByteArray.toList_eq, ByteArray.toList_eq] at h
  cases a; cases b
  congr
  exact Array.toList_inj.1 h
theorem toList_beq (a b : ByteArray) : (a.toList == b.toList) = decide (bytesOf a = bytesOf b) := by
  rw [Bool.eq_iff_iff, beq_iff_eq, decide_eq_true_iff]
  exact ⟨fun h => by rw [toList_inj h], fun h => by rw [bytesOf_inj h]⟩
theorem toList_iff (a b : ByteArray) : a.toList = b.toList ↔ bytesOf a = bytesOf b := ⟨fun h => by rw [toList_inj h], fun h => by rw [bytesOf_inj h]⟩
theorem toList_nil (a : ByteArray) : a.toList = ([] : List UInt8) ↔ bytesOf a = [] := by
  rw [ByteArray.toList_eq]
  unfold bytesOf
  rw [List.map_eq_nil_iff]
theorem bt_rd (s : ByteArray) (i : Nat) : bt s (i : Int) = (bytesOf s).getD i 0 := by
  rw [← rd_bytesOf]
  rfl
theorem bytesOf_drop (s : ByteArray) (i : Nat) (h : i < s.size) : (bytesOf s).drop i = bt s (i : Int) :: (bytesOf s).drop (i + 1) := by
  rw [bt_rd]
  exact drop_getD 0 _ i (by rw [bytesOf_length]; exact h)
theorem bytesOf_extract (s : ByteArray) (i j : Nat) : bytesOf (s.extract i j) = ((bytesOf s).take j).drop i := by
  unfold bytesOf
  rw [ByteArray.data_extract, ← List.map_take, ← List.map_drop]
  congr 1
  simp [List.extract, List.drop_take]
theorem bytesOf_tail (s : ByteArray) (i : Nat) : bytesOf (s.extract i s.size) = (bytesOf s).drop i := by
  rw [bytesOf_extract, List.take_of_length_le (by rw [bytesOf_length]; exact Nat.le_refl _)]
theorem bytesOf_append (a b : ByteArray) : bytesOf (a ++ b) = bytesOf a ++ bytesOf b := by
  unfold bytesOf
  rw [ByteArray.data_append, Array.toList_append, List.map_append]
theorem size_eq (s : ByteArray) : s.size = (bytesOf s).length := (bytesOf_length s).symm
theorem isPrefix_take {α : Type} [BEq α] [LawfulBEq α] [DecidableEq α] (a b : List α) : (decide (b.length ≥ a.length) && decide (b.take a.length = a)) = a.isPrefixOf b := by
  rw [Bool.eq_iff_iff, Bool.and_eq_true, decide_eq_true_iff, decide_eq_true_iff, List.isPrefixOf_iff_prefix, List.prefix_iff_eq_take]
  constructor
  · rintro ⟨_, h⟩; exact h.symm
  · intro h
    refine ⟨?_, h.symm⟩
    have := congrArg List.length h
    rw [List.length_take] at this
    omega
end Go.Proofs.Ythfkgallapjnoaa.Kit
