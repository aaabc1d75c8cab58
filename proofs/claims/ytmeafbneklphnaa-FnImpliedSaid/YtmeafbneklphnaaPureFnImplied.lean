/- The pure statement of FnImplied: for every two codes the law tells true. No conditions. -/
import Derived.Test.YtmeafbneklphnaaKit
import Derived.Test.YtmeafbneklphnaaPFnImpliedx
namespace Go.Proofs.Ytmeafbneklphnaa.Pure.LFnImplied
open Go.RowKit Go.Proofs.Ytmeafbneklphnaa.PFnImplied Go.Proofs.YtmeafbneklphnaaW.PrintWords
theorem rdO_nat (xs : List S39) (i : Nat) : rd_T39 xs (i : Int) = xs.getD i z39 := by simp [rd_T39]
theorem ev_l05Open (o : S39) (hs : o.f0.size ≤ 9223372036854775807) : Ev (fun k => spec_l05Open.f k o.f0 o.f1) (!badOpen o) := by
  have hb : (!badOpen o) = (Kit.isTag o.f0 && decide (0 ≤ o.f1 ∧ o.f1 ≤ 2)) := by unfold badOpen; cases Kit.isTag o.f0 <;> simp
  rw [hb]
  unfold spec_l05Open.f
  refine Ev.bind (ev_tag_spec _ hs) (Kit.ev_if (fun h => ?_) (fun h => ?_))
  · rw [h, Bool.true_and]; exact Kit.ev_some (l01In_eq _ _ _) (Ev.now _)
  · rw [Bool.eq_false_iff.2 h, Bool.false_and]; exact Ev.now _
theorem ev_l05Ask (xs : List S39) (t : ByteArray) (hn : xs.length ≤ 1048576) (hs : ∀ o ∈ xs, o.f0.size ≤ 9223372036854775807) (ht : t.size ≤ 9223372036854775807) : Ev (fun k => spec_l05Ask.f k xs t) (openFault xs t) := by
  have loop : ∀ i, i ≤ xs.length → Ev (fun k => spec_l05Ask.l0 k xs t i) (if (xs.drop i).any badOpen then 1 else if !Kit.isTag t then 10 else 0) := by
    refine Kit.down ?_ ?_
    · rw [List.drop_length]
      refine Ev.step (fun k => by rw [spec_l05Ask.l0]) (Kit.ev_neg (by omega) (Ev.bind (ev_tag_spec t ht) (Kit.ev_if (fun h => ?_) (fun h => ?_))))
      · rw [h]; exact Ev.now _
      · rw [Bool.eq_false_iff.2 h]; exact Ev.now _
    · intro i hi ih
      refine Ev.step (fun k => by rw [spec_l05Ask.l0]) (Kit.ev_pos (by omega) (Kit.ev_pos (by omega) ?_))
      rw [rdO_nat, Kit.wrap_nat hi (by omega), Kit.drop_getD z39 xs i hi, List.any_cons]
      refine Ev.bind (ev_l05Open _ (hs _ (Kit.getD_mem _ hi))) (Kit.ev_if (fun h => ?_) (fun h => ?_))
      · rw [show badOpen (xs.getD i z39) = false by simpa using h, Bool.false_or]; exact ih
      · rw [show badOpen (xs.getD i z39) = true by simpa using h, Bool.true_or]; exact Ev.now _
  unfold spec_l05Ask.f
  refine Kit.ev_if (fun h => ?_) (fun h => ?_)
  · rw [show openFault xs t = 2 from if_pos (.inl (by omega))]
    exact Ev.step (fun k => by rw [spec_l05Ask.j0]) (Kit.ev_pos rfl (Ev.now _))
  · by_cases h2 : (t.size : Int) > 65536
    · rw [decide_eq_true h2, show openFault xs t = 2 from if_pos (.inr (by omega))]
      exact Ev.step (fun k => by rw [spec_l05Ask.j0]) (Kit.ev_pos rfl (Ev.now _))
    · rw [decide_eq_false h2]
      refine Ev.step (f := fun k => spec_l05Ask.l0 k xs t 0) (fun k => by rw [spec_l05Ask.j0, if_neg Bool.false_ne_true]) ?_
      have e : openFault xs t = if xs.any badOpen then 1 else if !Kit.isTag t then 10 else 0 := if_neg (by omega)
      rw [e]
      exact loop 0 (by omega)
def breakL : List ByteArray := [(⟨#[112]⟩ : ByteArray), (⟨#[100, 105, 118]⟩ : ByteArray), (⟨#[98]⟩ : ByteArray), (⟨#[105]⟩ : ByteArray), (⟨#[98, 114]⟩ : ByteArray), (⟨#[105, 109, 103]⟩ : ByteArray), (⟨#[117, 108]⟩ : ByteArray), (⟨#[108, 105]⟩ : ByteArray), (⟨#[116, 97, 98, 108, 101]⟩ : ByteArray), (⟨#[104, 49]⟩ : ByteArray)]
def endsL : List ByteArray := [(⟨#[112]⟩ : ByteArray), (⟨#[100, 105, 118]⟩ : ByteArray), (⟨#[117, 108]⟩ : ByteArray), (⟨#[116, 97, 98, 108, 101]⟩ : ByteArray), (⟨#[104, 49]⟩ : ByteArray)]
def at1 (xs : List S39) (n : Nat) : S39 := xs.getD (n - 1) z39
/-- The innermost ones that are not of the first space end. -/
def out1 (xs : List S39) (b : Bool) : Nat → Nat
  | 0 => 0
  | n + 1 => if b = true ∧ ¬ (at1 xs (n + 1)).f1 = 0 then out1 xs b n else n + 1
def out2 (xs : List S39) (t : ByteArray) (n : Nat) : Nat :=
  if 0 < n ∧ (at1 xs n).f0.toList = ([112] : List UInt8) ∧ (at1 xs n).f1 = 0 ∧ Kit.hasT endsL t = true then n - 1 else n
def out3 (xs : List S39) (t : ByteArray) (n : Nat) : Nat :=
  if 0 < n ∧ (at1 xs n).f0.toList = ([108, 105] : List UInt8) ∧ (at1 xs n).f1 = 0 ∧ t.toList = ([108, 105] : List UInt8) then n - 1 else n
/-- How many stay open. -/
def stay (xs : List S39) (t : ByteArray) : Nat := out3 xs t (out2 xs t (out1 xs (Kit.hasT breakL t) xs.length))
theorem out1_le (xs : List S39) (b : Bool) (n : Nat) : out1 xs b n ≤ n := by
  induction n with
  | zero => exact Nat.le_refl _
  | succ n ih =>
    rw [out1]
    split
    · omega
    · exact Nat.le_refl _
theorem out2_le (xs : List S39) (t : ByteArray) (n : Nat) : out2 xs t n ≤ n := by unfold out2; split <;> omega
theorem out3_le (xs : List S39) (t : ByteArray) (n : Nat) : out3 xs t n ≤ n := by unfold out3; split <;> omega
theorem stay_le (xs : List S39) (t : ByteArray) : stay xs t ≤ xs.length := Nat.le_trans (out3_le _ _ _) (Nat.le_trans (out2_le _ _ _) (out1_le _ _ _))
def spaceS (t : ByteArray) : Int := if t.toList = ([115, 118, 103] : List UInt8) then 1 else if t.toList = ([109, 97, 116, 104] : List UInt8) then 2 else 0
def spaceAt (xs : List S39) (t : ByteArray) (n : Nat) : Int := if spaceS t = 0 then (if 0 < n then (at1 xs n).f1 else 0) else spaceS t
theorem wrap_pred {n : Nat} (h : 0 < n) (hn : n ≤ 1048576) : wrap64 ((n : Int) - 1) = ((n - 1 : Nat) : Int) := by
  rw [Kit.wrap_of (by omega) (by omega)]
  omega
theorem SpaceOf_eq (t : ByteArray) : impl_SpaceOf.f t = some (spaceS t) := by
  unfold impl_SpaceOf.f spaceS
  by_cases h : t.toList = ([115, 118, 103] : List UInt8)
  · rw [if_pos h, if_pos h]
  · rw [if_neg h, if_neg h]
    by_cases h2 : t.toList = ([109, 97, 116, 104] : List UInt8)
    · rw [if_pos h2, if_pos h2]
    · rw [if_neg h2, if_neg h2]
theorem ev_implied (xs : List S39) (t : ByteArray) (hn : xs.length ≤ 1048576) : Ev (fun k => impl_implied.f k xs t) ((stay xs t : Int), spaceAt xs t (stay xs t)) := by
  -- behind all: the space
  have hspace : ∀ n : Nat, n ≤ xs.length → ∀ m : Int, m = (n : Int) → Ev (fun k => (impl_SpaceOf.f t).bind fun t166 => (if t166 = 0 then (if m > 0 then (if 0 ≤ (wrap64 (m - 1)) then (if (wrap64 (m - 1)) < (xs.length : Int) then (some (m, (rd_T39 xs (wrap64 (m - 1))).f1)) else (none)) else (none)) else (some (m, t166))) else (some (m, t166)))) ((n : Int), spaceAt xs t n) := by
    intro n hle m hm
    subst hm
    refine Kit.ev_some (SpaceOf_eq t) ?_
    unfold spaceAt
    refine Kit.ev_if (fun h => ?_) (fun h => ?_)
    · rw [if_pos h]
      refine Kit.ev_if (fun h2 => ?_) (fun h2 => ?_)
      · have h3 : 0 < n := by omega
        rw [wrap_pred h3 (by omega), if_pos h3]
        refine Kit.ev_pos (by omega) (Kit.ev_pos (by omega) ?_)
        rw [rdO_nat]
        exact Ev.now _
      · rw [if_neg (by omega), h]; exact Ev.now _
    · rw [if_neg h]; exact Ev.now _
  have hj4 : ∀ n : Nat, n ≤ xs.length → ∀ b : Bool, (b = true → 0 < n) → Ev (fun k => impl_implied.j4 k xs t n b) (((if b = true then n - 1 else n : Nat) : Int), spaceAt xs t (if b = true then n - 1 else n)) := by
    intro n hle b hb
    refine Ev.step (fun k => by rw [impl_implied.j4]) ?_
    refine Kit.ev_if (fun h => ?_) (fun h => ?_)
    · rw [if_pos h]
      exact hspace (n - 1) (by omega) _ (wrap_pred (hb h) (by omega))
    · rw [if_neg h]
      exact hspace n hle _ rfl
  have hj3 : ∀ n : Nat, n ≤ xs.length → Ev (fun k => impl_implied.j3 k xs t n) ((out3 xs t n : Int), spaceAt xs t (out3 xs t n)) := by
    intro n hle
    refine Ev.step (fun k => by rw [impl_implied.j3]) ?_
    have e : out3 xs t n = if decide (0 < n ∧ (at1 xs n).f0.toList = ([108, 105] : List UInt8) ∧ (at1 xs n).f1 = 0 ∧ t.toList = ([108, 105] : List UInt8)) = true then n - 1 else n := by
      unfold out3
      by_cases h : 0 < n ∧ (at1 xs n).f0.toList = ([108, 105] : List UInt8) ∧ (at1 xs n).f1 = 0 ∧ t.toList = ([108, 105] : List UInt8)
      · rw [if_pos h, if_pos (decide_eq_true h)]
      · rw [if_neg h, if_neg (by simpa using h)]
    rw [e]
    refine Kit.ev_if (fun h => ?_) (fun h => ?_)
    · have h3 : 0 < n := by omega
      rw [wrap_pred h3 (by omega)]
      refine Kit.ev_pos (by omega) (Kit.ev_pos (by omega) ?_)
      rw [rdO_nat]
      refine Kit.ev_if (fun h4 => ?_) (fun h4 => ?_)
      · rw [Bool.and_eq_true, beq_iff_eq, beq_iff_eq] at h4
        have e2 : decide (0 < n ∧ (at1 xs n).f0.toList = ([108, 105] : List UInt8) ∧ (at1 xs n).f1 = 0 ∧ t.toList = ([108, 105] : List UInt8)) = (t.toList == ([108, 105] : List UInt8)) := by
          rw [Bool.eq_iff_iff, decide_eq_true_iff, beq_iff_eq]
          exact ⟨fun h => h.2.2.2, fun h => ⟨h3, h4.1, h4.2, h⟩⟩
        rw [e2]
        exact hj4 n hle _ (fun _ => h3)
      · rw [Bool.and_eq_true, beq_iff_eq, beq_iff_eq] at h4
        rw [decide_eq_false (fun h => h4 ⟨h.2.1, h.2.2.1⟩)]
        exact hj4 n hle false (fun h => absurd h (by decide))
    · rw [decide_eq_false (fun h5 => h (by omega))]
      exact hj4 n hle false (fun h => absurd h (by decide))
  have hj2 : ∀ n : Nat, n ≤ xs.length → ∀ b : Bool, (b = true → 0 < n) → Ev (fun k => impl_implied.j2 k xs t n b) ((out3 xs t (if b = true then n - 1 else n) : Int), spaceAt xs t (out3 xs t (if b = true then n - 1 else n))) := by
    intro n hle b hb
    refine Ev.step (fun k => by rw [impl_implied.j2]) ?_
    refine Kit.ev_if (fun h => ?_) (fun h => ?_)
    · rw [if_pos h, wrap_pred (hb h) (by omega)]
      exact hj3 (n - 1) (by omega)
    · rw [if_neg h]
      exact hj3 n hle
  have hj1 : ∀ n : Nat, n ≤ xs.length → Ev (fun k => impl_implied.j1 k xs t n) ((out3 xs t (out2 xs t n) : Int), spaceAt xs t (out3 xs t (out2 xs t n))) := by
    intro n hle
    refine Ev.step (fun k => by rw [impl_implied.j1]) ?_
    have e : out2 xs t n = if decide (0 < n ∧ (at1 xs n).f0.toList = ([112] : List UInt8) ∧ (at1 xs n).f1 = 0 ∧ Kit.hasT endsL t = true) = true then n - 1 else n := by
      unfold out2
      by_cases h : 0 < n ∧ (at1 xs n).f0.toList = ([112] : List UInt8) ∧ (at1 xs n).f1 = 0 ∧ Kit.hasT endsL t = true
      · rw [if_pos h, if_pos (decide_eq_true h)]
      · rw [if_neg h, if_neg (by simpa using h)]
    rw [e]
    refine Kit.ev_if (fun h => ?_) (fun h => ?_)
    · have h3 : 0 < n := by omega
      rw [wrap_pred h3 (by omega)]
      refine Kit.ev_pos (by omega) (Kit.ev_pos (by omega) ?_)
      rw [rdO_nat]
      refine Kit.ev_if (fun h4 => ?_) (fun h4 => ?_)
      · rw [Bool.and_eq_true, beq_iff_eq, beq_iff_eq] at h4
        have e2 : decide (0 < n ∧ (at1 xs n).f0.toList = ([112] : List UInt8) ∧ (at1 xs n).f1 = 0 ∧ Kit.hasT endsL t = true) = Kit.hasT endsL t := by
          rw [Bool.eq_iff_iff, decide_eq_true_iff]
          exact ⟨fun h => h.2.2.2, fun h => ⟨h3, h4.1, h4.2, h⟩⟩
        rw [e2]
        exact Ev.bind (ev_slices_Contains endsL t (by decide)) (hj2 n hle _ (fun _ => h3))
      · rw [Bool.and_eq_true, beq_iff_eq, beq_iff_eq] at h4
        rw [decide_eq_false (fun h => h4 ⟨h.2.1, h.2.2.1⟩)]
        exact hj2 n hle false (fun h => absurd h (by decide))
    · rw [decide_eq_false (fun h5 => h (by omega))]
      exact hj2 n hle false (fun h => absurd h (by decide))
  have hb : Ev (fun k => impl_BreaksOut.f k t) (Kit.hasT breakL t) := Ev.bind (ev_slices_Contains breakL t (by decide)) (Ev.now _)
  have main : ∀ n : Nat, n ≤ xs.length → Ev (fun k => impl_implied.l0 k xs t n) ((out3 xs t (out2 xs t (out1 xs (Kit.hasT breakL t) n)) : Int), spaceAt xs t (out3 xs t (out2 xs t (out1 xs (Kit.hasT breakL t) n)))) := by
    intro n
    induction n with
    | zero =>
      intro _
      refine Ev.step (fun k => by rw [impl_implied.l0]) (Ev.bind hb ?_)
      refine Kit.ev_if (fun _ => ?_) (fun _ => hj1 0 (Nat.zero_le _))
      exact Kit.ev_neg (by omega) (hj1 0 (Nat.zero_le _))
    | succ n ih =>
      intro hle
      refine Ev.step (fun k => by rw [impl_implied.l0]) (Ev.bind hb ?_)
      rw [out1]
      refine Kit.ev_if (fun h => ?_) (fun h => ?_)
      · refine Kit.ev_pos (by omega) ?_
        rw [wrap_pred (Nat.succ_pos n) (by omega)]
        refine Kit.ev_pos (by omega) (Kit.ev_pos (by omega) ?_)
        rw [rdO_nat]
        refine Kit.ev_if (fun h2 => ?_) (fun h2 => ?_)
        · rw [if_neg (fun h3 => h3.2 h2)]
          exact hj1 (n + 1) hle
        · rw [if_pos ⟨h, h2⟩]
          exact ih (by omega)
      · rw [if_neg (fun h3 => h h3.1)]
        exact hj1 (n + 1) hle
  exact main xs.length (Nat.le_refl _)
theorem wrap_sub {a n : Nat} (h : n ≤ a) (ha : a ≤ 1048576) : wrap64 ((a : Int) - (n : Int)) = ((a - n : Nat) : Int) := by
  rw [Kit.wrap_of (by omega) (by omega)]
  omega
theorem ev_l05Implied (xs : List S39) (t : ByteArray) (hn : xs.length ≤ 1048576) : Ev (fun k => spec_l05Implied.f k xs t) ((xs.length - stay xs t : Nat) : Int) := by
  have fin : ∀ n : Nat, n ≤ xs.length → ∀ m : Int, m = (n : Int) → Ev (fun _ : Nat => some (wrap64 ((xs.length : Int) - m))) ((xs.length - n : Nat) : Int) := by
    intro n hle m hm
    subst hm
    rw [wrap_sub hle hn]
    exact Ev.now _
  have h3 : ∀ n : Nat, n ≤ xs.length → ∀ m : Int, m = (n : Int) → Ev (fun k => (if m > 0 then (if 0 ≤ (wrap64 (m - 1)) then (if (wrap64 (m - 1)) < (xs.length : Int) then (if ((rd_T39 xs (wrap64 (m - 1))).f1) = 0 then (if ((rd_T39 xs (wrap64 (m - 1))).f0).toList = ([108, 105] : List UInt8) then (if t.toList = ([108, 105] : List UInt8) then (some (wrap64 ((xs.length : Int) - (wrap64 (m - 1))))) else (some (wrap64 ((xs.length : Int) - m)))) else (some (wrap64 ((xs.length : Int) - m)))) else (some (wrap64 ((xs.length : Int) - m)))) else (none)) else (none)) else (some (wrap64 ((xs.length : Int) - m))))) ((xs.length - out3 xs t n : Nat) : Int) := by
    intro n hle m hm
    subst hm
    unfold out3
    refine Kit.ev_if (fun h => ?_) (fun h => ?_)
    · have hp : 0 < n := by omega
      rw [wrap_pred hp (by omega)]
      refine Kit.ev_pos (by omega) (Kit.ev_pos (by omega) ?_)
      rw [rdO_nat]
      refine Kit.ev_if (fun ha => Kit.ev_if (fun hb => Kit.ev_if (fun hc => ?_) (fun hc => ?_)) (fun hb => ?_)) (fun ha => ?_)
      · rw [if_pos ⟨hp, hb, ha, hc⟩]; exact fin (n - 1) (by omega) _ rfl
      · rw [if_neg (fun h => hc h.2.2.2)]; exact fin n hle _ rfl
      · rw [if_neg (fun h => hb h.2.1)]; exact fin n hle _ rfl
      · rw [if_neg (fun h => ha h.2.2.1)]; exact fin n hle _ rfl
    · rw [if_neg (fun h2 => h (by omega))]; exact fin n hle _ rfl
  have hj3 : ∀ n : Nat, n ≤ xs.length → ∀ b : Bool, (b = true → 0 < n) → Ev (fun k => spec_l05Implied.j3 k xs t xs.length n b) ((xs.length - out3 xs t (if b = true then n - 1 else n) : Nat) : Int) := by
    intro n hle b hb
    refine Ev.step (fun k => by rw [spec_l05Implied.j3]) ?_
    refine Kit.ev_if (fun h => ?_) (fun h => ?_)
    · rw [if_pos h]
      exact h3 (n - 1) (by omega) _ (wrap_pred (hb h) (by omega))
    · rw [if_neg h]
      exact h3 n hle _ rfl
  have hj2 : ∀ n : Nat, n ≤ xs.length → ∀ b : Bool, b = decide (0 < n ∧ ¬ (at1 xs n).f1 = 0) → Ev (fun k => spec_l05Implied.j2 k xs t xs.length n b) ((xs.length - out3 xs t (out2 xs t n) : Nat) : Int) := by
    intro n hle b hb
    refine Ev.step (fun k => by rw [spec_l05Implied.j2]) ?_
    refine Kit.ev_if (fun h => ?_) (fun h => ?_)
    · rw [hb, decide_eq_true_iff] at h
      have e2 : out2 xs t n = n := if_neg (fun h2 => h.2 h2.2.2.1)
      have e3 : out3 xs t n = n := if_neg (fun h2 => h.2 h2.2.2.1)
      rw [e2, e3]
      exact fin n hle _ rfl
    · have hz : 0 < n → (at1 xs n).f1 = 0 := fun hp => by
        apply Classical.byContradiction
        intro h2
        exact h (by rw [hb, decide_eq_true_iff]; exact ⟨hp, h2⟩)
      have e : out2 xs t n = if decide (0 < n ∧ (at1 xs n).f0.toList = ([112] : List UInt8) ∧ Kit.hasT endsL t = true) = true then n - 1 else n := by
        unfold out2
        by_cases h : 0 < n ∧ (at1 xs n).f0.toList = ([112] : List UInt8) ∧ Kit.hasT endsL t = true
        · rw [if_pos ⟨h.1, h.2.1, hz h.1, h.2.2⟩, if_pos (decide_eq_true h)]
        · rw [if_neg (fun h2 => h ⟨h2.1, h2.2.1, h2.2.2.2⟩), if_neg (by simpa using h)]
      rw [e]
      refine Kit.ev_if (fun h => ?_) (fun h => ?_)
      · have hp : 0 < n := by omega
        rw [wrap_pred hp (by omega)]
        refine Kit.ev_pos (by omega) (Kit.ev_pos (by omega) ?_)
        rw [rdO_nat]
        refine Kit.ev_if (fun ha => ?_) (fun ha => ?_)
        · have e2 : decide (0 < n ∧ (at1 xs n).f0.toList = ([112] : List UInt8) ∧ Kit.hasT endsL t = true) = Kit.hasT endsL t := by
            rw [Bool.eq_iff_iff, decide_eq_true_iff]
            exact ⟨fun h => h.2.2, fun h => ⟨hp, ha, h⟩⟩
          rw [e2]
          exact Ev.bind (ev_l01Has endsL t (by decide)) (hj3 n hle _ (fun _ => hp))
        · rw [decide_eq_false (fun h => ha h.2.1)]
          exact hj3 n hle false (fun h => absurd h (by decide))
      · rw [decide_eq_false (fun h5 => h (by omega))]
        exact hj3 n hle false (fun h => absurd h (by decide))
  have hj1 : ∀ n : Nat, n ≤ xs.length → Ev (fun k => spec_l05Implied.j1 k xs t xs.length n) ((xs.length - out3 xs t (out2 xs t n) : Nat) : Int) := by
    intro n hle
    refine Ev.step (fun k => by rw [spec_l05Implied.j1]) ?_
    refine Kit.ev_if (fun h => ?_) (fun h => ?_)
    · have hp : 0 < n := by omega
      rw [wrap_pred hp (by omega)]
      refine Kit.ev_pos (by omega) (Kit.ev_pos (by omega) ?_)
      rw [rdO_nat]
      refine hj2 n hle _ ?_
      rw [Bool.eq_iff_iff, decide_eq_true_iff, bne_iff_ne]
      exact ⟨fun h => ⟨hp, h⟩, fun h => h.2⟩
    · refine hj2 n hle false ?_
      rw [decide_eq_false (fun h5 => h (by omega))]
  have hb : Ev (fun k => spec_l01Out.f k t) (Kit.hasT breakL t) := Ev.bind (ev_l01Has breakL t (by decide)) (Ev.now _)
  have main : ∀ n : Nat, n ≤ xs.length → Ev (fun k => spec_l05Implied.l0 k xs t xs.length n) ((xs.length - out3 xs t (out2 xs t (out1 xs (Kit.hasT breakL t) n)) : Nat) : Int) := by
    intro n
    induction n with
    | zero =>
      intro _
      exact Ev.step (fun k => by rw [spec_l05Implied.l0]) (Kit.ev_neg (by omega) (hj1 0 (by omega)))
    | succ n ih =>
      intro hle
      refine Ev.step (fun k => by rw [spec_l05Implied.l0]) (Kit.ev_pos (by omega) ?_)
      rw [wrap_pred (Nat.succ_pos n) (by omega), out1]
      refine Kit.ev_pos (by omega) (Kit.ev_pos (by omega) ?_)
      rw [rdO_nat]
      refine Kit.ev_if (fun h2 => ?_) (fun h2 => Ev.bind hb (Kit.ev_if (fun h => ?_) (fun h => ?_)))
      · rw [if_neg (fun h3 => h3.2 h2)]
        exact hj1 (n + 1) hle
      · rw [if_pos ⟨h, h2⟩]
        exact ih (by omega)
      · rw [if_neg (fun h3 => h h3.1)]
        exact hj1 (n + 1) hle
  exact main xs.length (Nat.le_refl _)
theorem l01Space_eq (t : ByteArray) : spec_l01Space.f t = some (spaceS t) := by
  unfold spec_l01Space.f spaceS
  by_cases h : t.toList = ([115, 118, 103] : List UInt8)
  · rw [if_pos h, if_pos h]
  · rw [if_neg h, if_neg h]
    by_cases h2 : t.toList = ([109, 97, 116, 104] : List UInt8)
    · rw [if_pos h2, if_pos h2]
    · rw [if_neg h2, if_neg h2]
theorem space_spec (xs : List S39) (t : ByteArray) (n : Nat) (hle : n ≤ xs.length) (hn : xs.length ≤ 1048576) : spec_l05Space.f (xs.take n) t = some (spaceAt xs t n) := by
  have hl : (xs.take n).length = n := by rw [List.length_take]; omega
  unfold spec_l05Space.f spaceAt
  rw [l01Space_eq, Option.bind_some, hl]
  by_cases h : spaceS t = 0
  · rw [if_pos h, if_pos h]
    by_cases h0 : 0 < n
    · rw [if_neg (by omega), wrap_pred h0 (by omega), if_pos (by omega), if_pos (by omega), if_pos h0, rdO_nat]
      unfold at1
      congr 2
      rw [List.getD_eq_getElem?_getD, List.getD_eq_getElem?_getD, List.getElem?_take, if_pos (by omega)]
    · rw [if_pos (by omega), if_neg h0]
  · rw [if_neg h, if_neg h]
theorem ev_l05Close (xs : List S39) (t : ByteArray) (hn : xs.length ≤ 1048576) : Ev (fun k => spec_l05Close.f k xs t) (lastAt xs t) := by
  have loop : ∀ i, i ≤ xs.length → Ev (fun k => spec_l05Close.l0 k xs t ((i : Int) - 1)) (Back.lastI (fun j => ((xs.getD j z39).f0, (xs.getD j z39).f1)) t i) := by
    intro i
    induction i with
    | zero => intro _; exact Ev.step (f := fun k => some (-1)) (fun k => by rw [spec_l05Close.l0, if_neg (by omega)]) (Ev.now _)
    | succ i ih =>
      intro hi
      rw [show (((i + 1 : Nat) : Int) - 1) = (i : Int) by omega, Back.lastI]
      refine Ev.step (fun k => by rw [spec_l05Close.l0]) (Kit.ev_pos (by omega) (Kit.ev_pos (by omega) (Kit.ev_pos (by omega) ?_)))
      rw [rdO_nat, Kit.wrap_of (i := (i : Int) - 1) (by omega) (by omega)]
      refine Kit.ev_if (fun h => ?_) (fun h => ?_)
      · rw [if_pos (Kit.toList_inj h)]; exact Ev.now _
      · rw [if_neg (fun e => h (congrArg ByteArray.toList e))]; exact ih (by omega)
  unfold spec_l05Close.f lastAt
  rw [Kit.wrap_of (i := (xs.length : Int) - 1) (by omega) (by omega)]
  exact loop xs.length (Nat.le_refl _)
theorem lastAt_hit (xs : List S39) (t : ByteArray) (h : ¬ lastAt xs t < 0) : ∃ j : Nat, j < xs.length ∧ lastAt xs t = (j : Int) ∧ (xs.getD j z39).f0 = t := by
  have key : ∀ n, ¬ Back.lastI (fun j => ((xs.getD j z39).f0, (xs.getD j z39).f1)) t n < 0 → ∃ j : Nat, j < n ∧ Back.lastI (fun j => ((xs.getD j z39).f0, (xs.getD j z39).f1)) t n = (j : Int) ∧ (xs.getD j z39).f0 = t := by
    intro n
    induction n with
    | zero => intro h; exact absurd (show Back.lastI _ t 0 < 0 from by rw [Back.lastI]; omega) h
    | succ n ih =>
      intro h
      rw [Back.lastI] at h ⊢
      by_cases e : (xs.getD n z39).f0 = t
      · rw [if_pos e]; exact ⟨n, Nat.lt_succ_self _, rfl, e⟩
      · rw [if_neg e] at h ⊢
        obtain ⟨j, hj, r⟩ := ih h
        exact ⟨j, by omega, r⟩
  exact key xs.length h
/- What is drawn of a source: bytes, places, texts of a list. -/
def Bytes (l : List Int) : Prop := ∀ x ∈ l, 0 ≤ x ∧ x ≤ 255
/-- The source stands at a place not past n, with a seed in its bounds. -/
def St (n a sd : Int) : Prop := 0 ≤ a ∧ a ≤ n ∧ 0 ≤ sd ∧ sd < 2147483648
theorem draw_byte {l : List Int} (hl : Bytes l) {n a sd : Int} (hn : n < 4611686018427387904) (h : St n a sd) : ∃ b a' sd', spec_l00Src_byte.f l a sd = some (b, a', sd') ∧ (0 ≤ b ∧ b ≤ 255) ∧ St (n + 1) a' sd' := by
  obtain ⟨h0, h1, h2, h3⟩ := h
  unfold spec_l00Src_byte.f
  rw [if_pos ⟨h0, by omega, h2, h3⟩]
  by_cases c : a < (l.length : Int)
  · have hb : 0 ≤ rd l a ∧ rd l a ≤ 255 := by
      have e : rd l a = l.getD a.toNat 0 := rfl
      rw [e]
      exact hl _ (Kit.getD_mem (d := 0) (by omega))
    rw [if_pos c, if_pos hb]
    exact ⟨_, _, _, rfl, hb, by omega, by omega, Int.emod_nonneg _ (by omega), Int.emod_lt_of_pos _ (by omega)⟩
  · rw [if_neg c]
    by_cases c2 : a + 1 > 3000
    · rw [if_pos c2]; exact ⟨_, _, _, rfl, by omega, by omega, by omega, h2, h3⟩
    · rw [if_neg c2]
      exact ⟨_, _, _, rfl, by omega, by omega, by omega, Int.emod_nonneg _ (by omega), Int.emod_lt_of_pos _ (by omega)⟩
theorem draw_next {l : List Int} (hl : Bytes l) {n a sd m : Int} (hn : n < 4611686018427387904) (h : St n a sd) (h1 : 1 ≤ m) (h2 : m ≤ 256) : ∃ v a' sd', spec_l00Src_next.f l a sd m = some (v, a', sd') ∧ (0 ≤ v ∧ v < m) ∧ St (n + 1) a' sd' := by
  unfold spec_l00Src_next.f
  by_cases c : m ≤ 1
  · rw [if_pos c]
    obtain ⟨h0, h3, h4, h5⟩ := h
    exact ⟨_, _, _, rfl, by omega, h0, by omega, h4, h5⟩
  · rw [if_neg c, if_pos h2]
    obtain ⟨b, a', sd', e, hb, hs⟩ := draw_byte hl hn h
    rw [e, Option.bind_some, if_neg (by omega)]
    refine ⟨_, _, _, rfl, ?_, hs⟩
    rw [Int.tmod_eq_emod_of_nonneg hb.1]
    exact ⟨Int.emod_nonneg _ (by omega), Int.emod_lt_of_pos _ (by omega)⟩
theorem draw_pick {l : List Int} (hl : Bytes l) {n a sd : Int} (hn : n < 4611686018427387904) (h : St n a sd) (xs : List ByteArray) (h1 : 1 ≤ xs.length) (h2 : xs.length ≤ 256) : ∃ t a' sd', spec_l00Src_pick.f l a sd xs = some (t, a', sd') ∧ t ∈ xs ∧ St (n + 1) a' sd' := by
  unfold spec_l00Src_pick.f
  rw [if_neg (by omega)]
  obtain ⟨v, a', sd', e, hv, hs⟩ := draw_next hl hn h (m := (xs.length : Int)) (by omega) (by omega)
  rw [e, Option.bind_some, if_pos hv.1, if_pos hv.2]
  refine ⟨_, _, _, rfl, ?_, hs⟩
  have e : rdOf ByteArray.empty xs v = xs.getD v.toNat ByteArray.empty := rfl
  rw [e]
  exact Kit.getD_mem (d := ByteArray.empty) (by omega)
theorem St.source (l : List Int) : St 0 0 ((l.length : Int) % 1000) := ⟨Int.le_refl _, Int.le_refl _, Int.emod_nonneg _ (by omega), by have := Int.emod_lt_of_pos (l.length : Int) (show (0 : Int) < 1000 by omega); omega⟩
theorem Bytes.of (l : List Int) (h : ∀ x ∈ l, (Lit.int .u8 x).wf = true) : Bytes l := fun x hx => by
  have := h x hx
  simpa [Lit.wf, IntKind.min, IntKind.max, IntKind.signed, IntKind.bits] using this
/-- The names that a source draws for tags. -/
def tagsD : List ByteArray := [(⟨#[112]⟩ : ByteArray), (⟨#[100, 105, 118]⟩ : ByteArray), (⟨#[98]⟩ : ByteArray), (⟨#[105]⟩ : ByteArray), (⟨#[97]⟩ : ByteArray), (⟨#[117, 108]⟩ : ByteArray), (⟨#[108, 105]⟩ : ByteArray), (⟨#[105, 109, 103]⟩ : ByteArray), (⟨#[98, 114]⟩ : ByteArray), (⟨#[115, 118, 103]⟩ : ByteArray), (⟨#[109, 97, 116, 104]⟩ : ByteArray), (⟨#[115, 116, 121, 108, 101]⟩ : ByteArray), (⟨#[116, 105, 116, 108, 101]⟩ : ByteArray), (⟨#[115, 99, 114, 105, 112, 116]⟩ : ByteArray), (⟨#[105, 102, 114, 97, 109, 101]⟩ : ByteArray), (⟨#[117, 115, 101]⟩ : ByteArray), (⟨#[116, 101, 109, 112, 108, 97, 116, 101]⟩ : ByteArray), (⟨#[116, 97, 98, 108, 101]⟩ : ByteArray), (⟨#[104, 49]⟩ : ByteArray), (⟨#[120, 45, 121]⟩ : ByteArray), (⟨#[111, 98, 106, 101, 99, 116]⟩ : ByteArray), (⟨#[120, 109, 112]⟩ : ByteArray)]
theorem tagsD_ok : ∀ t ∈ tagsD, Kit.isTag t = true ∧ t.size ≤ 100 := by
  have h : tagsD.all (fun t => Kit.isTag t && decide (t.size ≤ 100)) = true := by kernel_rfl
  intro t ht
  have := List.all_eq_true.1 h t ht
  simpa using this
theorem draw_tag {l : List Int} (hl : Bytes l) {n a sd : Int} (hn : n < 4611686018427387904) (h : St n a sd) : ∃ t a' sd', spec_l00Src_tag.f l a sd = some (t, a', sd') ∧ t ∈ tagsD ∧ St (n + 1) a' sd' := by
  obtain ⟨t, a', sd', e, ht, hs⟩ := draw_pick hl hn h tagsD (by decide) (by decide)
  refine ⟨t, a', sd', ?_, ht, hs⟩
  show (spec_l00Src_pick.f l a sd tagsD).bind _ = _
  rw [e]
  rfl
/-- The drawn list of open elements: few, of short names. -/
theorem draw_list {l : List Int} (hl : Bytes l) {a sd : Int} (h : St 0 a sd) : ∃ xs a' sd', Ev (fun k => spec_l00Src_openList.f k l a sd) (xs, a', sd') ∧ xs.length ≤ 1000 ∧ ∀ o ∈ xs, o.f0.size ≤ 1000 := by
  have loop : ∀ i : Nat, i ≤ 5 → ∀ (acc : List S39) (n a sd : Int), n + 4 * i < 1000000 → St n a sd → acc.length + i ≤ 900 → (∀ o ∈ acc, o.f0.size ≤ 1000) →
      ∃ xs a' sd', Ev (fun k => spec_l00Src_openList.l0 k acc (i : Int) l a sd) (xs, a', sd') ∧ xs.length ≤ 1000 ∧ ∀ o ∈ xs, o.f0.size ≤ 1000 := by
    intro i
    induction i with
    | zero =>
      intro _ acc n a sd hn hs hlen hacc
      have key : ∃ xs a' sd', Ev (fun k : Nat => (spec_l00Src_chance.f l a sd 10).bind fun bt150 => (if bt150.1 = true then ((spec_l00Src_pick.f l bt150.2.1 bt150.2.2 (([(⟨#[]⟩ : ByteArray), (⟨#[65]⟩ : ByteArray), (⟨#[112]⟩ : ByteArray)] : List ByteArray))).bind fun bt156 => ((spec_l00Src_next.f l bt156.2.1 bt156.2.2 5).bind fun bt159 => (if acc.length < 5864062014805 then (some ((acc ++ [(⟨bt156.1, wrap64 (bt159.1 - 1)⟩ : S39)]), bt159.2.1, bt159.2.2)) else (none)))) else (some (acc, bt150.2.1, bt150.2.2)))) (xs, a', sd') ∧ xs.length ≤ 1000 ∧ ∀ o ∈ xs, o.f0.size ≤ 1000 := by
        obtain ⟨v, a1, s1, e1, _, h1⟩ := draw_next hl (m := 10) (by omega) hs (by omega) (by omega)
        have ec : spec_l00Src_chance.f l a sd 10 = some ((v == wrap64 (10 - 1)), a1, s1) := by unfold spec_l00Src_chance.f; rw [e1]; rfl
        cases hb : v == wrap64 (10 - 1) with
        | false => exact ⟨_, _, _, Kit.ev_some ec (Kit.ev_neg (by rw [hb]; exact Bool.false_ne_true) (Ev.now _)), by omega, hacc⟩
        | true =>
          obtain ⟨t, a2, s2, e2, ht, h2⟩ := draw_pick hl (by omega) h1 [(⟨#[]⟩ : ByteArray), (⟨#[65]⟩ : ByteArray), (⟨#[112]⟩ : ByteArray)] (by decide) (by decide)
          obtain ⟨u, a3, s3, e3, _, h3⟩ := draw_next hl (m := 5) (by omega) h2 (by omega) (by omega)
          have hts : t.size ≤ 1000 := by
            have h9 : ∀ t ∈ [(⟨#[]⟩ : ByteArray), (⟨#[65]⟩ : ByteArray), (⟨#[112]⟩ : ByteArray)], t.size ≤ 1000 := by decide
            exact h9 t ht
          refine ⟨_, _, _, Kit.ev_some ec (Kit.ev_pos hb (Kit.ev_some e2 (Kit.ev_some e3 (Kit.ev_pos (by omega) (Ev.now _))))), by simp; omega, ?_⟩
          intro o ho
          rcases List.mem_append.1 ho with ho | ho
          · exact hacc o ho
          · simp at ho; subst ho; exact hts
      obtain ⟨xs, a', sd', he, hr⟩ := key
      exact ⟨xs, a', sd', Ev.step (fun k => by rw [spec_l00Src_openList.l0, if_neg (by omega)]) he, hr⟩
    | succ i ih =>
      intro hi acc n a sd hn hs hlen hacc
      obtain ⟨t, a1, s1, e1, ht, h1⟩ := draw_tag hl (by omega) hs
      obtain ⟨u, a2, s2, e2, _, h2⟩ := draw_next hl (m := 3) (by omega) h1 (by omega) (by omega)
      obtain ⟨v, a3, s3, e3, hv, h3⟩ := draw_next hl (m := 3) (by omega) h2 (by omega) (by omega)
      obtain ⟨xs, a', sd', he, hr⟩ := ih (by omega) (acc ++ [(⟨t, rd [spaceS t, 0, u] v⟩ : S39)]) (n + 1 + 1 + 1) a3 s3 (by omega) h3 (by simp; omega) (fun o ho => by
        rcases List.mem_append.1 ho with ho | ho
        · exact hacc o ho
        · simp at ho; subst ho; have := (tagsD_ok t ht).2; show t.size ≤ 1000; omega)
      refine ⟨xs, a', sd', ?_, hr⟩
      have ew : wrap64 (((i + 1 : Nat) : Int) - 1) = (i : Int) := by rw [Kit.wrap_of (by omega) (by omega)]; omega
      refine Ev.step (fun k => by rw [spec_l00Src_openList.l0, if_pos (by omega)]) (Kit.ev_some e1 (Kit.ev_some (l01Space_eq t) (Kit.ev_some e2 (Kit.ev_some rfl (Kit.ev_some e3 ?_)))))
      show Ev (fun n => if 0 ≤ v then (if v < 3 then (if acc.length < 5864062014805 then spec_l00Src_openList.l0 n (acc ++ [⟨t, rd [spaceS t, 0, u] v⟩]) (wrap64 (((i + 1 : Nat) : Int) - 1)) l a3 s3 else none) else none) else none) _
      rw [ew]
      exact Kit.ev_pos hv.1 (Kit.ev_pos hv.2 (Kit.ev_pos (by omega) he))
  unfold spec_l00Src_openList.f
  obtain ⟨v, a1, s1, e1, hv, h1⟩ := draw_next hl (m := 5) (by omega) h (by omega) (by omega)
  obtain ⟨xs, a', sd', he, hr⟩ := loop v.toNat (by omega) [] (0 + 1) a1 s1 (by omega) h1 (by simp; omega) (fun o ho => by cases ho)
  refine ⟨xs, a', sd', Kit.ev_some e1 ?_, hr⟩
  rw [Int.toNat_of_nonneg hv.1] at he
  exact he
/-- The drawn stack: few elements, all right. -/
theorem draw_stack {l : List Int} (hl : Bytes l) : ∃ xs, Ev (fun k => spec_StackDrawn.f k l) xs ∧ xs.length ≤ 1000 ∧ (∀ o ∈ xs, o.f0.size ≤ 1000) ∧ ∀ o ∈ xs, badOpen o = false := by
  obtain ⟨ys, a', sd', he, hlen, hs⟩ := draw_list hl (St.source l)
  have loop : ∀ i, i ≤ ys.length → ∀ acc : List S39, acc.length ≤ i → (∀ o ∈ acc, o.f0.size ≤ 1000 ∧ badOpen o = false) → ∃ xs, Ev (fun k => spec_StackDrawn.l0 k ys acc (i : Int)) xs ∧ xs.length ≤ ys.length ∧ ∀ o ∈ xs, o.f0.size ≤ 1000 ∧ badOpen o = false := by
    refine Kit.down ?_ ?_
    · intro acc hl hacc
      exact ⟨acc, Ev.step (f := fun _ => some acc) (fun k => by rw [spec_StackDrawn.l0, if_neg (by omega)]) (Ev.now _), hl, hacc⟩
    · intro i hi ih acc hal hacc
      have hm := Kit.getD_mem z39 hi
      have hz := hs _ hm
      have h5 := ev_l05Open (ys.getD i z39) (by omega)
      cases hb : badOpen (ys.getD i z39) with
      | true =>
        obtain ⟨xs, hx, hr⟩ := ih acc (by omega) hacc
        refine ⟨xs, Ev.step (fun k => by rw [spec_StackDrawn.l0, if_pos (by omega), if_pos (by omega)]) ?_, hr⟩
        rw [rdO_nat, Kit.wrap_nat hi (by omega)]
        exact Ev.bind h5 (Kit.ev_neg (by rw [hb]; decide) hx)
      | false =>
        obtain ⟨xs, hx, hr⟩ := ih (acc ++ [ys.getD i z39]) (by simp; omega) (fun o ho => by
          rcases List.mem_append.1 ho with ho | ho
          · exact hacc o ho
          · simp at ho; subst ho; exact ⟨by first | exact hz | simpa using hz, by first | exact hb | simpa using hb⟩)
        refine ⟨xs, Ev.step (fun k => by rw [spec_StackDrawn.l0, if_pos (by omega), if_pos (by omega)]) ?_, hr⟩
        rw [rdO_nat, Kit.wrap_nat hi (by omega)]
        exact Ev.bind h5 (Kit.ev_pos (by rw [hb]; decide) (Kit.ev_pos (by omega) hx))
  obtain ⟨xs, hx, hl2, hr⟩ := loop 0 (Nat.zero_le _) [] (Nat.le_refl _) (fun o ho => by cases ho)
  exact ⟨xs, by unfold spec_StackDrawn.f; exact Kit.ev_some rfl (Ev.bind he hx), by omega, fun o ho => (hr o ho).1, fun o ho => (hr o ho).2⟩
theorem proved : laws_FnImplied.Pure := by
  intro code more h1 _ hw h2 _ hw2
  refine Ev.rounds (g := fun k => laws_FnImplied.f k code more) ?_
  have hj : ∀ b, Ev (fun k => laws_FnImplied.j0 k code more b) true := by
    intro b
    cases b with
    | true => exact Ev.step (fun k => by rw [laws_FnImplied.j0]) (Kit.ev_pos rfl (Ev.now _))
    | false =>
      obtain ⟨xs, hxs, hlen, hsz, hok⟩ := draw_stack (Bytes.of code hw)
      obtain ⟨t, a', sd', e, htm, _⟩ := draw_tag (Bytes.of more hw2) (by omega) (St.source more)
      have ht := tagsD_ok t htm
      have htd : spec_TagDrawn.f more = some t := by unfold spec_TagDrawn.f; rw [show spec_l00Source.f more = some (more, 0, (more.length : Int) % 1000) from rfl, Option.bind_some]; show (spec_l00Src_tag.f more 0 _).bind _ = _; rw [e]; rfl
      have hs : ∀ o ∈ xs, o.f0.size ≤ 9223372036854775807 := fun o ho => by have := hsz o ho; omega
      have hf : openFault xs t = 0 := by
        unfold openFault
        have hany : xs.any badOpen = false := by
          rw [Bool.eq_false_iff]
          intro h
          obtain ⟨o, ho, hb⟩ := List.any_eq_true.1 h
          rw [hok o ho] at hb
          cases hb
        rw [if_neg (by have := ht.2; omega), hany, if_neg Bool.false_ne_true, ht.1, if_neg (by decide)]
      have hn : xs.length ≤ 1048576 := by omega
      have htz : t.size ≤ 9223372036854775807 := by have := ht.2; omega
      have i1 : Ev (fun k => impl_Implied.f k xs t) (((xs.length - stay xs t : Nat) : Int), 0) := by
        unfold impl_Implied.f
        refine Kit.ev_some (a := openFault xs t) (by unfold impl_faultOpen.f; rw [if_pos ⟨hs, htz⟩]) (Kit.ev_pos hf ?_)
        refine Ev.bind (ev_implied xs t hn) ?_
        rw [wrap_sub (stay_le xs t) hn]
        exact Ev.now _
      have s1 : Ev (fun k => spec_Implied.f k xs t) (((xs.length - stay xs t : Nat) : Int), 0) := by
        unfold spec_Implied.f
        refine Kit.ev_neg (by omega) ?_
        rw [decide_eq_false (by have := ht.2; omega)]
        refine Ev.step (fun k => by rw [spec_Implied.j0]) (Kit.ev_neg Bool.false_ne_true (Ev.bind (ev_l05Ask xs t hn hs htz) (Kit.ev_pos hf ?_)))
        exact Ev.bind (ev_l05Implied xs t hn) (Ev.now _)
      have i2 : Ev (fun k => impl_PlaceOf.f k xs t) ((stay xs t : Int), spaceAt xs t (stay xs t), 0) := by
        unfold impl_PlaceOf.f
        exact Kit.ev_some (a := openFault xs t) (by unfold impl_faultOpen.f; rw [if_pos ⟨hs, htz⟩]) (Kit.ev_pos hf (Ev.bind (ev_implied xs t hn) (Ev.now _)))
      have s2 : Ev (fun k => spec_PlaceOf.f k xs t) ((stay xs t : Int), spaceAt xs t (stay xs t), 0) := by
        unfold spec_PlaceOf.f
        refine Kit.ev_neg (by omega) ?_
        rw [decide_eq_false (by have := ht.2; omega)]
        refine Ev.step (fun k => by rw [spec_PlaceOf.j0]) (Kit.ev_neg Bool.false_ne_true (Ev.bind (ev_l05Ask xs t hn hs htz) (Kit.ev_pos hf (Ev.bind (ev_l05Implied xs t hn) ?_))))
        have hle := stay_le xs t
        have e1 : wrap64 ((xs.length : Int) - ((xs.length - stay xs t : Nat) : Int)) = (stay xs t : Int) := by
          rw [wrap_sub (by omega) hn]
          omega
        rw [e1]
        refine Kit.ev_pos (by omega) (Kit.ev_pos (by omega) ?_)
        rw [Int.toNat_natCast]
        exact Kit.ev_some (space_spec xs t _ hle hn) (Ev.now _)
      have i3 : Ev (fun k : Nat => impl_CloseAt.f xs t) (if lastAt xs t < 0 then ((0, 5) : Int × Int) else (lastAt xs t, 0)) := by
        unfold impl_CloseAt.f
        refine Kit.ev_some (a := openFault xs t) (by unfold impl_faultOpen.f; rw [if_pos ⟨hs, htz⟩]) (Kit.ev_pos hf ?_)
        refine Kit.ev_some (a := lastAt xs t) rfl (Kit.ev_if (fun h4 => ?_) (fun h4 => ?_))
        · rw [if_pos h4]; exact Ev.now _
        · rw [if_neg h4]; exact Ev.now _
      have s3 : Ev (fun k => spec_CloseAt.f k xs t) (if lastAt xs t < 0 then ((0, 5) : Int × Int) else (lastAt xs t, 0)) := by
        unfold spec_CloseAt.f
        refine Kit.ev_neg (by omega) ?_
        rw [decide_eq_false (by have := ht.2; omega)]
        refine Ev.step (fun k => by rw [spec_CloseAt.j0]) (Kit.ev_neg Bool.false_ne_true (Ev.bind (ev_l05Ask xs t hn hs htz) (Kit.ev_pos hf ?_)))
        refine Ev.bind (ev_l05Close xs t hn) (Kit.ev_if (fun h4 => ?_) (fun h4 => ?_))
        · rw [if_pos h4]; exact Ev.now _
        · rw [if_neg h4]; exact Ev.now _
      have hle := stay_le xs t
      have e1 : wrap64 ((xs.length : Int) - ((xs.length - stay xs t : Nat) : Int)) = (stay xs t : Int) := by
        rw [wrap_sub (by omega) hn]
        omega
      refine Ev.step (fun k => by rw [laws_FnImplied.j0, if_neg Bool.false_ne_true]) ?_
      refine Ev.bind hxs (Kit.ev_some htd (Ev.bind i1 (Ev.bind s1 (Ev.bind i2 (Ev.bind s2 (Ev.bind i3 (Ev.bind s3 ?_)))))))
      refine Kit.ev_pos rfl (Kit.ev_pos rfl (Kit.ev_pos rfl (Kit.ev_pos rfl (Kit.ev_pos rfl (Kit.ev_pos rfl (Kit.ev_pos e1.symm (Kit.ev_pos rfl (Kit.ev_pos rfl ?_))))))))
      by_cases h4 : lastAt xs t < 0
      · rw [if_pos h4]; exact Kit.ev_neg (by decide) (Ev.now _)
      · rw [if_neg h4]
        obtain ⟨j, hj, ej, hn2⟩ := lastAt_hit xs t h4
        rw [ej]
        refine Kit.ev_pos rfl (Kit.ev_pos (by omega) (Kit.ev_pos (by omega) ?_))
        rw [rdO_nat, hn2]
        have : (t.toList == t.toList) = true := by simp
        rw [this]
        exact Ev.now _
  unfold laws_FnImplied.f
  exact Kit.ev_if (fun _ => hj _) (fun _ => hj _)
end Go.Proofs.Ytmeafbneklphnaa.Pure.LFnImplied
namespace Go.Proofs.Ytmeafbneklphnaa.Pure
theorem FnImplied : PFnImplied.laws_FnImplied.Pure := LFnImplied.proved
end Go.Proofs.Ytmeafbneklphnaa.Pure
