/- Of the words of the kit's print and of this session's own, those that this law's proof names. No conditions. -/
import Derived.Test.YtggjdkiheclneaaDoorWWords
import Derived.Lib.Bytealg
namespace Go.Proofs.YtggjdkiheclneaaDoor.Kit
open Go.RowKit Go.Proofs.YtggjdkiheclneaaDoorW.PrintWords

theorem down {n : Nat} {M : Nat → Prop} (hend : M n) (hstep : ∀ i, i < n → M (i + 1) → M i) : ∀ i, i ≤ n → M i := by
  have key : ∀ d i, i + d = n → M i := by
    intro d
    induction d with
    | zero => intro i h; rw [show i = n by omega]; exact hend
    | succ d ih => intro i h; exact hstep i (by omega) (ih (i + 1) (by omega))
  intro i hi
  exact key (n - i) i (by omega)

theorem ev_pos {α : Type} {c : Prop} [Decidable c] {f g : Nat → Option α} {r : α} (h : c) (k : Ev f r) : Ev (fun n => if c then f n else g n) r := by
  obtain ⟨K, k⟩ := k
  exact ⟨K, fun n hn => by simp only [if_pos h]; exact k n hn⟩
theorem ev_neg {α : Type} {c : Prop} [Decidable c] {f g : Nat → Option α} {r : α} (h : ¬ c) (k : Ev g r) : Ev (fun n => if c then f n else g n) r := by
  obtain ⟨K, k⟩ := k
  exact ⟨K, fun n hn => by simp only [if_neg h]; exact k n hn⟩
theorem ev_some {α β : Type} {o : Option α} {a : α} {f : Nat → α → Option β} {r : β} (h : o = some a) (k : Ev (fun n => f n a) r) : Ev (fun n => o.bind (f n)) r := by
  subst h
  exact k
theorem ev_const {α : Type} {o : Option α} {a : α} (h : o = some a) : Ev (fun _ => o) a := ⟨0, fun _ _ => h⟩
theorem ev_if {α : Type} {c : Prop} [Decidable c] {f g : Nat → Option α} {r : α} (h : c → Ev f r) (h' : ¬ c → Ev g r) : Ev (fun n => if c then f n else g n) r := by
  by_cases hc : c
  · exact ev_pos hc (h hc)
  · exact ev_neg hc (h' hc)

theorem wrap_of {i : Int} (h0 : -9223372036854775808 ≤ i) (h : i ≤ 9223372036854775807) : wrap64 i = i := by
  unfold wrap64
  omega
theorem wrap_nat {i n : Nat} (h : i < n) (hn : n ≤ 9223372036854775807) : wrap64 ((i : Int) + 1) = ((i + 1 : Nat) : Int) := by
  unfold wrap64
  omega

def small (c : Int) : Bool := decide (97 ≤ c ∧ c ≤ 122)
def big (c : Int) : Bool := decide (65 ≤ c ∧ c ≤ 90)
end Go.Proofs.YtggjdkiheclneaaDoor.Kit
