/- Of the words of the kit's print and of this session's own, those that this law's proof names. No conditions. -/
import Derived.Test.YtophaihdibplkaaWWords
import Derived.Lib.Bytealg
namespace Go.Proofs.Ytophaihdibplkaa.Kit
open Go.RowKit Go.Proofs.YtophaihdibplkaaW.PrintWords

theorem down {n : Nat} {M : Nat → Prop} (hend : M n) (hstep : ∀ i, i < n → M (i + 1) → M i) : ∀ i, i ≤ n → M i := by
  have key : ∀ d i, i + d = n → M i := by
    intro d
    induction d with
    | zero => intro i h; rw [show i = n by omega]; exact hend
    | succ d ih => intro i h; exact hstep i (by omega) (ih (i + 1) (by omega))
  intro i hi
  exact key (n - i) i (by omega)

theorem ev_pos {α : Type} {c : Prop} [Decidable c] {f g : Nat → Option α} {r : α} (h : c) (k : Ev f r) : Ev (fun n => if c then f n else g n) r := by
  obtain ⟨K, k⟩ := k
  exact ⟨K, fun n hn => by simp only [if_pos h]; exact k n hn⟩
theorem ev_neg {α : Type} {c : Prop} [Decidable c] {f g : Nat → Option α} {r : α} (h : ¬ c) (k : Ev g r) : Ev (fun n => if c then f n else g n) r := by
  obtain ⟨K, k⟩ := k
  exact ⟨K, fun n hn => by simp only [if_neg h]; exact k n hn⟩
theorem ev_some {α β : Type} {o : Option α} {a : α} {f : Nat → α → Option β} {r : β} (h : o = some a) (k : Ev (fun n => f n a) r) : Ev (fun n => o.bind (f n)) r := by
  subst h
  exact k
theorem ev_if {α : Type} {c : Prop} [Decidable c] {f g : Nat → Option α} {r : α} (h : c → Ev f r) (h' : ¬ c → Ev g r) : Ev (fun n => if c then f n else g n) r := by
  by_cases hc : c
  · exact ev_pos hc (h hc)
  · exact ev_neg hc (h' hc)

theorem wrap_of {i : Int} (h0 : -9223372036854775808 ≤ i) (h : i ≤ 9223372036854775807) : wrap64 i = i := by
  unfold wrap64
  omega
theorem wrap_nat {i n : Nat} (h : i < n) (hn : n ≤ 9223372036854775807) : wrap64 ((i : Int) + 1) = ((i + 1 : Nat) : Int) := by
  unfold wrap64
  omega

def allB (P : Nat → Bool) (i n : Nat) : Bool := (List.range' i (n - i)).all P
theorem allB_end (P : Nat → Bool) (n : Nat) : allB P n n = true := by simp [allB]
theorem allB_step (P : Nat → Bool) {i n : Nat} (h : i < n) : allB P i n = (P i && allB P (i + 1) n) := by
  unfold allB
  rw [show n - i = (n - (i + 1)) + 1 by omega, List.range'_succ, List.all_cons]
theorem allB_iff (P : Nat → Bool) (i n : Nat) : allB P i n = true ↔ ∀ j, i ≤ j → j < n → P j = true := by
  unfold allB
  rw [List.all_eq_true]
  constructor
  · intro h j h0 h1
    exact h j (by rw [List.mem_range'_1]; omega)
  · intro h j hj
    rw [List.mem_range'_1] at hj
    exact h j (by omega) (by omega)
theorem lit_toList (xs : Array UInt8) : (⟨xs⟩ : ByteArray).toList = xs.toList := ByteArray.toList_eq _
theorem size_eq (s : ByteArray) : s.size = (bytesOf s).length := (bytesOf_length s).symm
end Go.Proofs.Ytophaihdibplkaa.Kit
