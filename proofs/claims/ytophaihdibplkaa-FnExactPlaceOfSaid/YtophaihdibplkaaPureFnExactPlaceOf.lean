/- The pure statement of FnExactPlaceOf: for every stack and name both functions tell the same. No conditions. -/
import Derived.Test.YtophaihdibplkaaKit
import Derived.Test.YtophaihdibplkaaOpensFnExactPlaceOf
namespace Go.Proofs.Ytophaihdibplkaa.Pure.LPlaceOf
open Go.RowKit Go.Proofs.Ytophaihdibplkaa.PFnExactPlaceOf Go.Proofs.YtophaihdibplkaaW.PrintWords
/- Lists of open elements. -/
def toO (a : S94) : S96 := ⟨a.f0, a.f1⟩
theorem rdLO_nat (xs : List S94) (i : Nat) : rd_T94 xs (i : Int) = xs.getD i z94 := by simp [rd_T94]
theorem rdO_nat (xs : List S96) (i : Nat) : rd_T96 xs (i : Int) = xs.getD i z96 := by simp [rd_T96]
def szO (a : S94) (l : Int) : Int := if l - (a.f0.size : Int) < 0 then -1 else l - (a.f0.size : Int)
def FitO (a : S94) : Prop := a.f0.size ≤ 1048576
theorem szOpen_eq (a : S94) (l : Int) (h0 : 0 ≤ l) (h1 : l ≤ 1048576) (hg : G94 a) : laws_szOpen.f a.f0 a.f1 l = some (szO a l) := by
  have s0 : a.f0.size ≤ 9223372036854775807 := hg.1
  unfold laws_szOpen.f szO
  have hw : wrap64 (l - (a.f0.size : Int)) = l - (a.f0.size : Int) := Kit.wrap_of (by omega) (by omega)
  rw [hw]
  by_cases h : l - (a.f0.size : Int) < 0
  · rw [if_pos h, if_pos h]
  · rw [if_neg h, if_neg h]
theorem szO_fit (a : S94) (l : Int) (h0 : 0 ≤ l) (h1 : l ≤ 1048576) : szO a l ≤ l ∧ (0 ≤ szO a l → FitO a) := by
  unfold szO FitO
  by_cases h : l - (a.f0.size : Int) < 0
  · rw [if_pos h]; exact ⟨by omega, fun h => absurd h (by omega)⟩
  · rw [if_neg h]; exact ⟨by omega, fun _ => by omega⟩
theorem ev_szOpenS (xs : List S94) (left : Int) (h0 : 0 ≤ left) (h1 : left ≤ 1048576) (hx : Open.Few G94 xs) :
    ∃ t, Ev (fun k => laws_szOpenS.f k xs left) t ∧ t ≤ left ∧ (0 ≤ t → xs.length ≤ 1048576 ∧ ∀ x ∈ xs, FitO x) := by
  have hn := hx.1
  have hw : wrap64 (left - (xs.length : Int)) = left - (xs.length : Int) := Kit.wrap_of (by omega) (by omega)
  unfold laws_szOpenS.f
  rw [hw]
  by_cases hneg : left - (xs.length : Int) < 0
  · exact ⟨-1, Kit.ev_pos hneg (Ev.now _), by omega, fun h => absurd h (by omega)⟩
  · obtain ⟨t, ht, htl, hg⟩ := Kit.ev_size z94 (xs := xs) (P := FitO) (E := szO) (L := fun k l i => laws_szOpenS.l0 k xs l i) (fun a _ l a0 a1 => szO_fit a l a0 a1)
      (fun l => Ev.step (fun k => rfl) (Kit.ev_neg (by omega) (Ev.now _)))
      (fun i hi l a0 a1 hE => Ev.step (fun k => rfl) (Kit.ev_pos (by omega) (Kit.ev_pos (by omega) (by rw [rdLO_nat]; exact Kit.ev_some (szOpen_eq _ l a0 a1 (hx.2 _ (Kit.getD_mem _ hi))) (Kit.ev_pos hE (Ev.now _))))))
      (fun i hi l r a0 a1 hE ih => Ev.step (fun k => rfl) (Kit.ev_pos (by omega) (Kit.ev_pos (by omega) (by rw [rdLO_nat, Kit.wrap_nat hi (by omega)]; exact Kit.ev_some (szOpen_eq _ l a0 a1 (hx.2 _ (Kit.getD_mem _ hi))) (Kit.ev_neg (by omega) ih)))))
      (left - (xs.length : Int)) (by omega) (by omega)
    exact ⟨t, Kit.ev_neg hneg ht, by omega, fun h => ⟨by omega, hg h⟩⟩
theorem ev_toOpenS (xs : List S94) (hn : xs.length ≤ 1048576) : Ev (fun k => laws_toOpenS.f k xs) (xs.map toO) := by
  unfold laws_toOpenS.f
  refine Kit.ev_pos (by omega) (Kit.ev_pos (by omega) ?_)
  rw [Int.toNat_natCast]
  refine Kit.ev_conv z94 (L := fun k acc i => laws_toOpenS.l0 k xs acc i) (fun acc hl => Ev.step (fun k => rfl) (Kit.ev_neg (by omega) (Ev.now _))) ?_ _ (by rw [List.length_replicate])
  intro i hi acc r hl ih
  refine Ev.step (fun k => rfl) (Kit.ev_pos (by omega) (Kit.ev_pos (by omega) ?_))
  rw [rdLO_nat, Kit.wrap_nat hi (by omega), Int.toNat_natCast]
  exact Kit.ev_some rfl (Kit.ev_pos (by omega) ih)
theorem ev_eqOpenS (xs : List S96) (hn : xs.length ≤ 1048576) : Ev (fun k => laws_eqOpenS.f k xs xs) true := by
  unfold laws_eqOpenS.f
  refine Kit.ev_pos rfl (Kit.ev_refl (n := xs.length) (L := fun k i => laws_eqOpenS.l0 k xs xs i) (Ev.step (fun k => rfl) (Kit.ev_neg (by omega) (Ev.now _))) ?_)
  intro i hi ih
  refine Ev.step (fun k => rfl) (Kit.ev_pos (by omega) (Kit.ev_pos (by omega) (Kit.ev_pos (by omega) ?_)))
  rw [Kit.wrap_nat hi (by omega)]
  refine Kit.ev_some (a := true) ?_ (Kit.ev_pos rfl ih)
  unfold laws_eqOpen.f
  rw [if_pos rfl, if_pos rfl]
theorem ev_l05Open (o : S96) (hs : o.f0.size ≤ 9223372036854775807) : Ev (fun k => spec_l05Open.f k o.f0 o.f1) (!badOpen o) := by
  have hb : (!badOpen o) = (Kit.isTag o.f0 && decide (0 ≤ o.f1 ∧ o.f1 ≤ 2)) := by unfold badOpen; cases Kit.isTag o.f0 <;> simp
  rw [hb]
  unfold spec_l05Open.f
  refine Ev.bind (ev_tag_spec _ hs) (Kit.ev_if (fun h => ?_) (fun h => ?_))
  · rw [h, Bool.true_and]; exact Kit.ev_some (l01In_eq _ _ _) (Ev.now _)
  · rw [Bool.eq_false_iff.2 h, Bool.false_and]; exact Ev.now _
theorem ev_l05Ask (xs : List S96) (t : ByteArray) (hn : xs.length ≤ 1048576) (hs : ∀ o ∈ xs, o.f0.size ≤ 9223372036854775807) (ht : t.size ≤ 9223372036854775807) : Ev (fun k => spec_l05Ask.f k xs t) (openFault xs t) := by
  have loop : ∀ i, i ≤ xs.length → Ev (fun k => spec_l05Ask.l0 k xs t i) (if (xs.drop i).any badOpen then 1 else if !Kit.isTag t then 10 else 0) := by
    refine Kit.down ?_ ?_
    · rw [List.drop_length]
      refine Ev.step (fun k => by rw [spec_l05Ask.l0]) (Kit.ev_neg (by omega) (Ev.bind (ev_tag_spec t ht) (Kit.ev_if (fun h => ?_) (fun h => ?_))))
      · rw [h]; exact Ev.now _
      · rw [Bool.eq_false_iff.2 h]; exact Ev.now _
    · intro i hi ih
      refine Ev.step (fun k => by rw [spec_l05Ask.l0]) (Kit.ev_pos (by omega) (Kit.ev_pos (by omega) ?_))
      rw [rdO_nat, Kit.wrap_nat hi (by omega), Kit.drop_getD z96 xs i hi, List.any_cons]
      refine Ev.bind (ev_l05Open _ (hs _ (Kit.getD_mem _ hi))) (Kit.ev_if (fun h => ?_) (fun h => ?_))
      · rw [show badOpen (xs.getD i z96) = false by simpa using h, Bool.false_or]; exact ih
      · rw [show badOpen (xs.getD i z96) = true by simpa using h, Bool.true_or]; exact Ev.now _
  unfold spec_l05Ask.f
  refine Kit.ev_if (fun h => ?_) (fun h => ?_)
  · rw [show openFault xs t = 2 from if_pos (.inl (by omega))]
    exact Ev.step (fun k => by rw [spec_l05Ask.j0]) (Kit.ev_pos rfl (Ev.now _))
  · by_cases h2 : (t.size : Int) > 65536
    · rw [decide_eq_true h2, show openFault xs t = 2 from if_pos (.inr (by omega))]
      exact Ev.step (fun k => by rw [spec_l05Ask.j0]) (Kit.ev_pos rfl (Ev.now _))
    · rw [decide_eq_false h2]
      refine Ev.step (f := fun k => spec_l05Ask.l0 k xs t 0) (fun k => by rw [spec_l05Ask.j0, if_neg Bool.false_ne_true]) ?_
      have e : openFault xs t = if xs.any badOpen then 1 else if !Kit.isTag t then 10 else 0 := if_neg (by omega)
      rw [e]
      exact loop 0 (by omega)
def breakL : List ByteArray := [(⟨#[112]⟩ : ByteArray), (⟨#[100, 105, 118]⟩ : ByteArray), (⟨#[98]⟩ : ByteArray), (⟨#[105]⟩ : ByteArray), (⟨#[98, 114]⟩ : ByteArray), (⟨#[105, 109, 103]⟩ : ByteArray), (⟨#[117, 108]⟩ : ByteArray), (⟨#[108, 105]⟩ : ByteArray), (⟨#[116, 97, 98, 108, 101]⟩ : ByteArray), (⟨#[104, 49]⟩ : ByteArray)]
def endsL : List ByteArray := [(⟨#[112]⟩ : ByteArray), (⟨#[100, 105, 118]⟩ : ByteArray), (⟨#[117, 108]⟩ : ByteArray), (⟨#[116, 97, 98, 108, 101]⟩ : ByteArray), (⟨#[104, 49]⟩ : ByteArray)]
def at1 (xs : List S96) (n : Nat) : S96 := xs.getD (n - 1) z96
/-- The innermost ones that are not of the first space end. -/
def out1 (xs : List S96) (b : Bool) : Nat → Nat
  | 0 => 0
  | n + 1 => if b = true ∧ ¬ (at1 xs (n + 1)).f1 = 0 then out1 xs b n else n + 1
def out2 (xs : List S96) (t : ByteArray) (n : Nat) : Nat :=
  if 0 < n ∧ (at1 xs n).f0.toList = ([112] : List UInt8) ∧ (at1 xs n).f1 = 0 ∧ Kit.hasT endsL t = true then n - 1 else n
def out3 (xs : List S96) (t : ByteArray) (n : Nat) : Nat :=
  if 0 < n ∧ (at1 xs n).f0.toList = ([108, 105] : List UInt8) ∧ (at1 xs n).f1 = 0 ∧ t.toList = ([108, 105] : List UInt8) then n - 1 else n
/-- How many stay open. -/
def stay (xs : List S96) (t : ByteArray) : Nat := out3 xs t (out2 xs t (out1 xs (Kit.hasT breakL t) xs.length))
theorem out1_le (xs : List S96) (b : Bool) (n : Nat) : out1 xs b n ≤ n := by
  induction n with
  | zero => exact Nat.le_refl _
  | succ n ih =>
    rw [out1]
    split
    · omega
    · exact Nat.le_refl _
theorem out2_le (xs : List S96) (t : ByteArray) (n : Nat) : out2 xs t n ≤ n := by unfold out2; split <;> omega
theorem out3_le (xs : List S96) (t : ByteArray) (n : Nat) : out3 xs t n ≤ n := by unfold out3; split <;> omega
theorem stay_le (xs : List S96) (t : ByteArray) : stay xs t ≤ xs.length := Nat.le_trans (out3_le _ _ _) (Nat.le_trans (out2_le _ _ _) (out1_le _ _ _))
def spaceS (t : ByteArray) : Int := if t.toList = ([115, 118, 103] : List UInt8) then 1 else if t.toList = ([109, 97, 116, 104] : List UInt8) then 2 else 0
def spaceAt (xs : List S96) (t : ByteArray) (n : Nat) : Int := if spaceS t = 0 then (if 0 < n then (at1 xs n).f1 else 0) else spaceS t
theorem wrap_pred {n : Nat} (h : 0 < n) (hn : n ≤ 1048576) : wrap64 ((n : Int) - 1) = ((n - 1 : Nat) : Int) := by
  rw [Kit.wrap_of (by omega) (by omega)]
  omega
theorem SpaceOf_eq (t : ByteArray) : impl_SpaceOf.f t = some (spaceS t) := by
  unfold impl_SpaceOf.f spaceS
  by_cases h : t.toList = ([115, 118, 103] : List UInt8)
  · rw [if_pos h, if_pos h]
  · rw [if_neg h, if_neg h]
    by_cases h2 : t.toList = ([109, 97, 116, 104] : List UInt8)
    · rw [if_pos h2, if_pos h2]
    · rw [if_neg h2, if_neg h2]
theorem ev_implied (xs : List S96) (t : ByteArray) (hn : xs.length ≤ 1048576) : Ev (fun k => impl_implied.f k xs t) ((stay xs t : Int), spaceAt xs t (stay xs t)) := by
  -- behind all: the space
  have hspace : ∀ n : Nat, n ≤ xs.length → ∀ m : Int, m = (n : Int) → Ev (fun k => (impl_SpaceOf.f t).bind fun t166 => (if t166 = 0 then (if m > 0 then (if 0 ≤ (wrap64 (m - 1)) then (if (wrap64 (m - 1)) < (xs.length : Int) then (some (m, (rd_T96 xs (wrap64 (m - 1))).f1)) else (none)) else (none)) else (some (m, t166))) else (some (m, t166)))) ((n : Int), spaceAt xs t n) := by
    intro n hle m hm
    subst hm
    refine Kit.ev_some (SpaceOf_eq t) ?_
    unfold spaceAt
    refine Kit.ev_if (fun h => ?_) (fun h => ?_)
    · rw [if_pos h]
      refine Kit.ev_if (fun h2 => ?_) (fun h2 => ?_)
      · have h3 : 0 < n := by omega
        rw [wrap_pred h3 (by omega), if_pos h3]
        refine Kit.ev_pos (by omega) (Kit.ev_pos (by omega) ?_)
        rw [rdO_nat]
        exact Ev.now _
      · rw [if_neg (by omega), h]; exact Ev.now _
    · rw [if_neg h]; exact Ev.now _
  have hj4 : ∀ n : Nat, n ≤ xs.length → ∀ b : Bool, (b = true → 0 < n) → Ev (fun k => impl_implied.j4 k xs t n b) (((if b = true then n - 1 else n : Nat) : Int), spaceAt xs t (if b = true then n - 1 else n)) := by
    intro n hle b hb
    refine Ev.step (fun k => by rw [impl_implied.j4]) ?_
    refine Kit.ev_if (fun h => ?_) (fun h => ?_)
    · rw [if_pos h]
      exact hspace (n - 1) (by omega) _ (wrap_pred (hb h) (by omega))
    · rw [if_neg h]
      exact hspace n hle _ rfl
  have hj3 : ∀ n : Nat, n ≤ xs.length → Ev (fun k => impl_implied.j3 k xs t n) ((out3 xs t n : Int), spaceAt xs t (out3 xs t n)) := by
    intro n hle
    refine Ev.step (fun k => by rw [impl_implied.j3]) ?_
    have e : out3 xs t n = if decide (0 < n ∧ (at1 xs n).f0.toList = ([108, 105] : List UInt8) ∧ (at1 xs n).f1 = 0 ∧ t.toList = ([108, 105] : List UInt8)) = true then n - 1 else n := by
      unfold out3
      by_cases h : 0 < n ∧ (at1 xs n).f0.toList = ([108, 105] : List UInt8) ∧ (at1 xs n).f1 = 0 ∧ t.toList = ([108, 105] : List UInt8)
      · rw [if_pos h, if_pos (decide_eq_true h)]
      · rw [if_neg h, if_neg (by simpa using h)]
    rw [e]
    refine Kit.ev_if (fun h => ?_) (fun h => ?_)
    · have h3 : 0 < n := by omega
      rw [wrap_pred h3 (by omega)]
      refine Kit.ev_pos (by omega) (Kit.ev_pos (by omega) ?_)
      rw [rdO_nat]
      refine Kit.ev_if (fun h4 => ?_) (fun h4 => ?_)
      · rw [Bool.and_eq_true, beq_iff_eq, beq_iff_eq] at h4
        have e2 : decide (0 < n ∧ (at1 xs n).f0.toList = ([108, 105] : List UInt8) ∧ (at1 xs n).f1 = 0 ∧ t.toList = ([108, 105] : List UInt8)) = (t.toList == ([108, 105] : List UInt8)) := by
          rw [Bool.eq_iff_iff, decide_eq_true_iff, beq_iff_eq]
          exact ⟨fun h => h.2.2.2, fun h => ⟨h3, h4.1, h4.2, h⟩⟩
        rw [e2]
        exact hj4 n hle _ (fun _ => h3)
      · rw [Bool.and_eq_true, beq_iff_eq, beq_iff_eq] at h4
        rw [decide_eq_false (fun h => h4 ⟨h.2.1, h.2.2.1⟩)]
        exact hj4 n hle false (fun h => absurd h (by decide))
    · rw [decide_eq_false (fun h5 => h (by omega))]
      exact hj4 n hle false (fun h => absurd h (by decide))
  have hj2 : ∀ n : Nat, n ≤ xs.length → ∀ b : Bool, (b = true → 0 < n) → Ev (fun k => impl_implied.j2 k xs t n b) ((out3 xs t (if b = true then n - 1 else n) : Int), spaceAt xs t (out3 xs t (if b = true then n - 1 else n))) := by
    intro n hle b hb
    refine Ev.step (fun k => by rw [impl_implied.j2]) ?_
    refine Kit.ev_if (fun h => ?_) (fun h => ?_)
    · rw [if_pos h, wrap_pred (hb h) (by omega)]
      exact hj3 (n - 1) (by omega)
    · rw [if_neg h]
      exact hj3 n hle
  have hj1 : ∀ n : Nat, n ≤ xs.length → Ev (fun k => impl_implied.j1 k xs t n) ((out3 xs t (out2 xs t n) : Int), spaceAt xs t (out3 xs t (out2 xs t n))) := by
    intro n hle
    refine Ev.step (fun k => by rw [impl_implied.j1]) ?_
    have e : out2 xs t n = if decide (0 < n ∧ (at1 xs n).f0.toList = ([112] : List UInt8) ∧ (at1 xs n).f1 = 0 ∧ Kit.hasT endsL t = true) = true then n - 1 else n := by
      unfold out2
      by_cases h : 0 < n ∧ (at1 xs n).f0.toList = ([112] : List UInt8) ∧ (at1 xs n).f1 = 0 ∧ Kit.hasT endsL t = true
      · rw [if_pos h, if_pos (decide_eq_true h)]
      · rw [if_neg h, if_neg (by simpa using h)]
    rw [e]
    refine Kit.ev_if (fun h => ?_) (fun h => ?_)
    · have h3 : 0 < n := by omega
      rw [wrap_pred h3 (by omega)]
      refine Kit.ev_pos (by omega) (Kit.ev_pos (by omega) ?_)
      rw [rdO_nat]
      refine Kit.ev_if (fun h4 => ?_) (fun h4 => ?_)
      · rw [Bool.and_eq_true, beq_iff_eq, beq_iff_eq] at h4
        have e2 : decide (0 < n ∧ (at1 xs n).f0.toList = ([112] : List UInt8) ∧ (at1 xs n).f1 = 0 ∧ Kit.hasT endsL t = true) = Kit.hasT endsL t := by
          rw [Bool.eq_iff_iff, decide_eq_true_iff]
          exact ⟨fun h => h.2.2.2, fun h => ⟨h3, h4.1, h4.2, h⟩⟩
        rw [e2]
        exact Ev.bind (ev_slices_Contains endsL t (by decide)) (hj2 n hle _ (fun _ => h3))
      · rw [Bool.and_eq_true, beq_iff_eq, beq_iff_eq] at h4
        rw [decide_eq_false (fun h => h4 ⟨h.2.1, h.2.2.1⟩)]
        exact hj2 n hle false (fun h => absurd h (by decide))
    · rw [decide_eq_false (fun h5 => h (by omega))]
      exact hj2 n hle false (fun h => absurd h (by decide))
  have hb : Ev (fun k => impl_BreaksOut.f k t) (Kit.hasT breakL t) := Ev.bind (ev_slices_Contains breakL t (by decide)) (Ev.now _)
  have main : ∀ n : Nat, n ≤ xs.length → Ev (fun k => impl_implied.l0 k xs t n) ((out3 xs t (out2 xs t (out1 xs (Kit.hasT breakL t) n)) : Int), spaceAt xs t (out3 xs t (out2 xs t (out1 xs (Kit.hasT breakL t) n)))) := by
    intro n
    induction n with
    | zero =>
      intro _
      refine Ev.step (fun k => by rw [impl_implied.l0]) (Ev.bind hb ?_)
      refine Kit.ev_if (fun _ => ?_) (fun _ => hj1 0 (Nat.zero_le _))
      exact Kit.ev_neg (by omega) (hj1 0 (Nat.zero_le _))
    | succ n ih =>
      intro hle
      refine Ev.step (fun k => by rw [impl_implied.l0]) (Ev.bind hb ?_)
      rw [out1]
      refine Kit.ev_if (fun h => ?_) (fun h => ?_)
      · refine Kit.ev_pos (by omega) ?_
        rw [wrap_pred (Nat.succ_pos n) (by omega)]
        refine Kit.ev_pos (by omega) (Kit.ev_pos (by omega) ?_)
        rw [rdO_nat]
        refine Kit.ev_if (fun h2 => ?_) (fun h2 => ?_)
        · rw [if_neg (fun h3 => h3.2 h2)]
          exact hj1 (n + 1) hle
        · rw [if_pos ⟨h, h2⟩]
          exact ih (by omega)
      · rw [if_neg (fun h3 => h h3.1)]
        exact hj1 (n + 1) hle
  exact main xs.length (Nat.le_refl _)
theorem wrap_sub {a n : Nat} (h : n ≤ a) (ha : a ≤ 1048576) : wrap64 ((a : Int) - (n : Int)) = ((a - n : Nat) : Int) := by
  rw [Kit.wrap_of (by omega) (by omega)]
  omega
theorem ev_l05Implied (xs : List S96) (t : ByteArray) (hn : xs.length ≤ 1048576) : Ev (fun k => spec_l05Implied.f k xs t) ((xs.length - stay xs t : Nat) : Int) := by
  have fin : ∀ n : Nat, n ≤ xs.length → ∀ m : Int, m = (n : Int) → Ev (fun _ : Nat => some (wrap64 ((xs.length : Int) - m))) ((xs.length - n : Nat) : Int) := by
    intro n hle m hm
    subst hm
    rw [wrap_sub hle hn]
    exact Ev.now _
  have h3 : ∀ n : Nat, n ≤ xs.length → ∀ m : Int, m = (n : Int) → Ev (fun k => (if m > 0 then (if 0 ≤ (wrap64 (m - 1)) then (if (wrap64 (m - 1)) < (xs.length : Int) then (if ((rd_T96 xs (wrap64 (m - 1))).f1) = 0 then (if ((rd_T96 xs (wrap64 (m - 1))).f0).toList = ([108, 105] : List UInt8) then (if t.toList = ([108, 105] : List UInt8) then (some (wrap64 ((xs.length : Int) - (wrap64 (m - 1))))) else (some (wrap64 ((xs.length : Int) - m)))) else (some (wrap64 ((xs.length : Int) - m)))) else (some (wrap64 ((xs.length : Int) - m)))) else (none)) else (none)) else (some (wrap64 ((xs.length : Int) - m))))) ((xs.length - out3 xs t n : Nat) : Int) := by
    intro n hle m hm
    subst hm
    unfold out3
    refine Kit.ev_if (fun h => ?_) (fun h => ?_)
    · have hp : 0 < n := by omega
      rw [wrap_pred hp (by omega)]
      refine Kit.ev_pos (by omega) (Kit.ev_pos (by omega) ?_)
      rw [rdO_nat]
      refine Kit.ev_if (fun ha => Kit.ev_if (fun hb => Kit.ev_if (fun hc => ?_) (fun hc => ?_)) (fun hb => ?_)) (fun ha => ?_)
      · rw [if_pos ⟨hp, hb, ha, hc⟩]; exact fin (n - 1) (by omega) _ rfl
      · rw [if_neg (fun h => hc h.2.2.2)]; exact fin n hle _ rfl
      · rw [if_neg (fun h => hb h.2.1)]; exact fin n hle _ rfl
      · rw [if_neg (fun h => ha h.2.2.1)]; exact fin n hle _ rfl
    · rw [if_neg (fun h2 => h (by omega))]; exact fin n hle _ rfl
  have hj3 : ∀ n : Nat, n ≤ xs.length → ∀ b : Bool, (b = true → 0 < n) → Ev (fun k => spec_l05Implied.j3 k xs t xs.length n b) ((xs.length - out3 xs t (if b = true then n - 1 else n) : Nat) : Int) := by
    intro n hle b hb
    refine Ev.step (fun k => by rw [spec_l05Implied.j3]) ?_
    refine Kit.ev_if (fun h => ?_) (fun h => ?_)
    · rw [if_pos h]
      exact h3 (n - 1) (by omega) _ (wrap_pred (hb h) (by omega))
    · rw [if_neg h]
      exact h3 n hle _ rfl
  have hj2 : ∀ n : Nat, n ≤ xs.length → ∀ b : Bool, b = decide (0 < n ∧ ¬ (at1 xs n).f1 = 0) → Ev (fun k => spec_l05Implied.j2 k xs t xs.length n b) ((xs.length - out3 xs t (out2 xs t n) : Nat) : Int) := by
    intro n hle b hb
    refine Ev.step (fun k => by rw [spec_l05Implied.j2]) ?_
    refine Kit.ev_if (fun h => ?_) (fun h => ?_)
    · rw [hb, decide_eq_true_iff] at h
      have e2 : out2 xs t n = n := if_neg (fun h2 => h.2 h2.2.2.1)
      have e3 : out3 xs t n = n := if_neg (fun h2 => h.2 h2.2.2.1)
      rw [e2, e3]
      exact fin n hle _ rfl
    · have hz : 0 < n → (at1 xs n).f1 = 0 := fun hp => by
        apply Classical.byContradiction
        intro h2
        exact h (by rw [hb, decide_eq_true_iff]; exact ⟨hp, h2⟩)
      have e : out2 xs t n = if decide (0 < n ∧ (at1 xs n).f0.toList = ([112] : List UInt8) ∧ Kit.hasT endsL t = true) = true then n - 1 else n := by
        unfold out2
        by_cases h : 0 < n ∧ (at1 xs n).f0.toList = ([112] : List UInt8) ∧ Kit.hasT endsL t = true
        · rw [if_pos ⟨h.1, h.2.1, hz h.1, h.2.2⟩, if_pos (decide_eq_true h)]
        · rw [if_neg (fun h2 => h ⟨h2.1, h2.2.1, h2.2.2.2⟩), if_neg (by simpa using h)]
      rw [e]
      refine Kit.ev_if (fun h => ?_) (fun h => ?_)
      · have hp : 0 < n := by omega
        rw [wrap_pred hp (by omega)]
        refine Kit.ev_pos (by omega) (Kit.ev_pos (by omega) ?_)
        rw [rdO_nat]
        refine Kit.ev_if (fun ha => ?_) (fun ha => ?_)
        · have e2 : decide (0 < n ∧ (at1 xs n).f0.toList = ([112] : List UInt8) ∧ Kit.hasT endsL t = true) = Kit.hasT endsL t := by
            rw [Bool.eq_iff_iff, decide_eq_true_iff]
            exact ⟨fun h => h.2.2, fun h => ⟨hp, ha, h⟩⟩
          rw [e2]
          exact Ev.bind (ev_l01Has endsL t (by decide)) (hj3 n hle _ (fun _ => hp))
        · rw [decide_eq_false (fun h => ha h.2.1)]
          exact hj3 n hle false (fun h => absurd h (by decide))
      · rw [decide_eq_false (fun h5 => h (by omega))]
        exact hj3 n hle false (fun h => absurd h (by decide))
  have hj1 : ∀ n : Nat, n ≤ xs.length → Ev (fun k => spec_l05Implied.j1 k xs t xs.length n) ((xs.length - out3 xs t (out2 xs t n) : Nat) : Int) := by
    intro n hle
    refine Ev.step (fun k => by rw [spec_l05Implied.j1]) ?_
    refine Kit.ev_if (fun h => ?_) (fun h => ?_)
    · have hp : 0 < n := by omega
      rw [wrap_pred hp (by omega)]
      refine Kit.ev_pos (by omega) (Kit.ev_pos (by omega) ?_)
      rw [rdO_nat]
      refine hj2 n hle _ ?_
      rw [Bool.eq_iff_iff, decide_eq_true_iff, bne_iff_ne]
      exact ⟨fun h => ⟨hp, h⟩, fun h => h.2⟩
    · refine hj2 n hle false ?_
      rw [decide_eq_false (fun h5 => h (by omega))]
  have hb : Ev (fun k => spec_l01Out.f k t) (Kit.hasT breakL t) := Ev.bind (ev_l01Has breakL t (by decide)) (Ev.now _)
  have main : ∀ n : Nat, n ≤ xs.length → Ev (fun k => spec_l05Implied.l0 k xs t xs.length n) ((xs.length - out3 xs t (out2 xs t (out1 xs (Kit.hasT breakL t) n)) : Nat) : Int) := by
    intro n
    induction n with
    | zero =>
      intro _
      exact Ev.step (fun k => by rw [spec_l05Implied.l0]) (Kit.ev_neg (by omega) (hj1 0 (by omega)))
    | succ n ih =>
      intro hle
      refine Ev.step (fun k => by rw [spec_l05Implied.l0]) (Kit.ev_pos (by omega) ?_)
      rw [wrap_pred (Nat.succ_pos n) (by omega), out1]
      refine Kit.ev_pos (by omega) (Kit.ev_pos (by omega) ?_)
      rw [rdO_nat]
      refine Kit.ev_if (fun h2 => ?_) (fun h2 => Ev.bind hb (Kit.ev_if (fun h => ?_) (fun h => ?_)))
      · rw [if_neg (fun h3 => h3.2 h2)]
        exact hj1 (n + 1) hle
      · rw [if_pos ⟨h, h2⟩]
        exact ih (by omega)
      · rw [if_neg (fun h3 => h h3.1)]
        exact hj1 (n + 1) hle
  exact main xs.length (Nat.le_refl _)
theorem l01Space_eq (t : ByteArray) : spec_l01Space.f t = some (spaceS t) := by
  unfold spec_l01Space.f spaceS
  by_cases h : t.toList = ([115, 118, 103] : List UInt8)
  · rw [if_pos h, if_pos h]
  · rw [if_neg h, if_neg h]
    by_cases h2 : t.toList = ([109, 97, 116, 104] : List UInt8)
    · rw [if_pos h2, if_pos h2]
    · rw [if_neg h2, if_neg h2]
theorem space_spec (xs : List S96) (t : ByteArray) (n : Nat) (hle : n ≤ xs.length) (hn : xs.length ≤ 1048576) : spec_l05Space.f (xs.take n) t = some (spaceAt xs t n) := by
  have hl : (xs.take n).length = n := by rw [List.length_take]; omega
  unfold spec_l05Space.f spaceAt
  rw [l01Space_eq, Option.bind_some, hl]
  by_cases h : spaceS t = 0
  · rw [if_pos h, if_pos h]
    by_cases h0 : 0 < n
    · rw [if_neg (by omega), wrap_pred h0 (by omega), if_pos (by omega), if_pos (by omega), if_pos h0, rdO_nat]
      unfold at1
      congr 2
      rw [List.getD_eq_getElem?_getD, List.getD_eq_getElem?_getD, List.getElem?_take, if_pos (by omega)]
    · rw [if_pos (by omega), if_neg h0]
  · rw [if_neg h, if_neg h]
theorem proved : laws_FnExactPlaceOf.PureS := by
  intro l t hl ht
  have ht' : t.size ≤ 9223372036854775807 := ht
  refine Ev.rounds (g := fun k => laws_FnExactPlaceOf.f k l t) ?_
  unfold laws_FnExactPlaceOf.f
  refine Kit.ev_if (fun _ => Ev.now _) (fun hts => ?_)
  obtain ⟨u, hu, hul, hug⟩ := ev_szOpenS l 1048576 (by omega) (by omega) hl
  refine Ev.bind hu (Kit.ev_if (fun _ => Ev.now _) (fun hn => ?_))
  obtain ⟨hlen, hfit⟩ := hug (by omega)
  have hto := ev_toOpenS l hlen
  have hlen2 : (l.map toO).length ≤ 1048576 := by rw [List.length_map]; exact hlen
  have hs : ∀ o ∈ l.map toO, o.f0.size ≤ 9223372036854775807 := by
    intro o ho
    obtain ⟨a, ha, rfl⟩ := List.mem_map.1 ho
    have : a.f0.size ≤ 1048576 := hfit a ha
    show a.f0.size ≤ _
    omega
  generalize l.map toO = xs at hto hlen2 hs
  -- what both tell
  have hv : ∃ v : Int × Int × Int, Ev (fun k => spec_PlaceOf.f k xs t) v ∧ Ev (fun k => impl_PlaceOf.f k xs t) v := by
    refine ⟨if openFault xs t = 0 then ((stay xs t : Int), spaceAt xs t (stay xs t), 0) else (0, 0, openFault xs t), ?_, ?_⟩
    · unfold spec_PlaceOf.f
      have hlong : Ev (fun k => spec_PlaceOf.j0 k xs t true) (0, 0, 2) := Ev.step (fun k => by rw [spec_PlaceOf.j0]) (Kit.ev_pos rfl (Ev.now _))
      refine Kit.ev_if (fun h => ?_) (fun h => ?_)
      · have e : openFault xs t = 2 := if_pos (.inl (by omega))
        rw [e]; exact hlong
      · by_cases h2 : (t.size : Int) > 65536
        · have e : openFault xs t = 2 := if_pos (.inr (by omega))
          rw [e, decide_eq_true h2]; exact hlong
        · rw [decide_eq_false h2]
          refine Ev.step (fun k => by rw [spec_PlaceOf.j0]) (Kit.ev_neg Bool.false_ne_true (Ev.bind (ev_l05Ask xs t hlen2 hs ht') (Kit.ev_if (fun h3 => ?_) (fun h3 => ?_))))
          · rw [if_pos h3]
            refine Ev.bind (ev_l05Implied xs t hlen2) ?_
            have hle := stay_le xs t
            have e1 : wrap64 ((xs.length : Int) - ((xs.length - stay xs t : Nat) : Int)) = (stay xs t : Int) := by
              rw [wrap_sub (by omega) hlen2]
              omega
            rw [e1]
            refine Kit.ev_pos (by omega) (Kit.ev_pos (by omega) ?_)
            rw [Int.toNat_natCast]
            exact Kit.ev_some (space_spec xs t _ hle hlen2) (Ev.now _)
          · rw [if_neg h3]; exact Ev.now _
    · unfold impl_PlaceOf.f
      refine Kit.ev_some (a := openFault xs t) (by unfold impl_faultOpen.f; rw [if_pos ⟨hs, ht'⟩]) (Kit.ev_if (fun h3 => ?_) (fun h3 => ?_))
      · rw [if_pos h3]
        exact Ev.bind (ev_implied xs t hlen2) (Ev.now _)
      · rw [if_neg h3]; exact Ev.now _
  obtain ⟨v, hvs, hvi⟩ := hv
  have heq := ev_eqOpenS xs hlen2
  refine Ev.bind hto (Ev.bind hvs (Ev.bind hto (Ev.bind hvi (Kit.ev_pos rfl (Kit.ev_pos rfl ?_)))))
  have : (v.2.2 != v.2.2) = false := by simp
  rw [this]
  exact Ev.step (fun k => by rw [laws_FnExactPlaceOf.j0]) (Kit.ev_neg Bool.false_ne_true (Ev.bind hto (Ev.bind heq (Kit.ev_pos rfl (Ev.now _)))))
end Go.Proofs.Ytophaihdibplkaa.Pure.LPlaceOf
namespace Go.Proofs.Ytophaihdibplkaa.Pure
theorem FnExactPlaceOf : PFnExactPlaceOf.laws_FnExactPlaceOf.PureS := LPlaceOf.proved
end Go.Proofs.Ytophaihdibplkaa.Pure
