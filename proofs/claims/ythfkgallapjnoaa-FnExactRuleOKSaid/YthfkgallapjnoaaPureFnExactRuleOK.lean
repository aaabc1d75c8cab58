/- The pure statement of FnExactRuleOK: for every rule both functions tell the same. No conditions. -/
import Derived.Test.YthfkgallapjnoaaKit
import Derived.Test.YthfkgallapjnoaaOpensFnExactRuleOK
namespace Go.Proofs.Ythfkgallapjnoaa.Pure.LRuleOK
open Go.RowKit Go.Proofs.Ythfkgallapjnoaa.PFnExactRuleOK Go.Proofs.YthfkgallapjnoaaW.PrintWords
open Go.Proofs.Ythfkgallapjnoaa.Kit (small digit big pos_eq neg_eq tagB isTag nameB isName lowC lowS lowS_bytes handler wantJ wantJ_eq keepC badL badFrom badFrom_zero badFrom_full badFrom_nil badFrom_skip badFrom_take indexByte_any markB namesAt namesOK)
/-- What the size of a list of texts leaves: if it is no negative number, all is short. -/
theorem ev_szStringS (xs : List ByteArray) (left : Int) (h0 : 0 ≤ left) (h1 : left ≤ 1048576) (hx : Open.Few Open.Short xs) :
    ∃ t, Ev (fun k => laws_szStringS.f k xs left) t ∧ t ≤ left ∧ (0 ≤ t → (xs.length : Int) ≤ left ∧ ∀ x ∈ xs, (x.size : Int) ≤ left) := by
  have hn := hx.1
  have key : ∀ i, i ≤ xs.length → ∀ l : Int, 0 ≤ l → l ≤ left → ∃ t, Ev (fun k => laws_szStringS.l0 k xs l i) t ∧ t ≤ l ∧ (0 ≤ t → ∀ x ∈ xs.drop i, (x.size : Int) ≤ left) := by
    refine Kit.down ?_ ?_
    · intro l _ _
      exact ⟨l, Ev.step (fun k => rfl) (Kit.ev_neg (by omega) (Ev.now _)), Int.le_refl _, fun _ x hx => by rw [List.drop_length] at hx; exact absurd hx List.not_mem_nil⟩
    · intro i hi ih l hl0 hl1
      have hs : (xs.getD i ByteArray.empty).size ≤ 9223372036854775807 := hx.2 _ (by rw [List.getD_eq_getElem?_getD, List.getElem?_eq_getElem hi]; exact List.getElem_mem hi)
      have hw : wrap64 (l - ((xs.getD i ByteArray.empty).size : Int)) = l - ((xs.getD i ByteArray.empty).size : Int) := Kit.wrap_of (by omega) (by omega)
      by_cases hneg : l - ((xs.getD i ByteArray.empty).size : Int) < 0
      · refine ⟨-1, Ev.step (fun k => rfl) (Kit.ev_pos (by omega) (Kit.ev_pos (by omega) ?_)), by omega, fun h => absurd h (by omega)⟩
        rw [Kit.rdOf_nat, hw]
        exact Kit.ev_pos hneg (Ev.now _)
      · obtain ⟨t, ht, htl, hg⟩ := ih (l - ((xs.getD i ByteArray.empty).size : Int)) (by omega) (by omega)
        refine ⟨t, Ev.step (fun k => rfl) (Kit.ev_pos (by omega) (Kit.ev_pos (by omega) ?_)), by omega, fun h x hx => ?_⟩
        · rw [Kit.rdOf_nat, hw, Kit.wrap_nat hi (by omega)]
          exact Kit.ev_neg hneg ht
        · rw [Kit.drop_getD ByteArray.empty xs i hi] at hx
          rcases List.mem_cons.1 hx with rfl | hx
          · omega
          · exact hg h x hx
  have hw : wrap64 (left - (xs.length : Int)) = left - (xs.length : Int) := Kit.wrap_of (by omega) (by omega)
  unfold laws_szStringS.f
  rw [hw]
  by_cases hneg : left - (xs.length : Int) < 0
  · exact ⟨-1, Kit.ev_pos hneg (Ev.now _), by omega, fun h => absurd h (by omega)⟩
  · obtain ⟨t, ht, htl, hg⟩ := key 0 (Nat.zero_le _) (left - (xs.length : Int)) (by omega) (by omega)
    exact ⟨t, Kit.ev_neg hneg ht, by omega, fun h => ⟨by omega, by simpa using hg h⟩⟩
theorem ev_toStringS (xs : List ByteArray) (hn : xs.length ≤ 1048576) : Ev (fun k => laws_toStringS.f k xs) xs := by
  have key : ∀ i, i ≤ xs.length → ∀ acc : List ByteArray, acc.length = xs.length → acc.take i = xs.take i → Ev (fun k => laws_toStringS.l0 k xs acc i) xs := by
    refine Kit.down ?_ ?_
    · intro acc hl ht
      rw [← hl, List.take_length, hl, List.take_length] at ht
      rw [ht]
      exact Ev.step (fun k => rfl) (Kit.ev_neg (by omega) (Ev.now _))
    · intro i hi ih acc hl ht
      refine Ev.step (fun k => rfl) (Kit.ev_pos (by omega) (Kit.ev_pos (by omega) (Kit.ev_pos (by omega) ?_)))
      rw [Kit.rdOf_nat, Kit.wrap_nat hi (by omega), Int.toNat_natCast]
      refine ih _ (by rw [List.length_set]; exact hl) ?_
      exact Kit.take_set_getD ByteArray.empty hl ht hi
  unfold laws_toStringS.f
  refine Kit.ev_pos (by omega) (Kit.ev_pos (by omega) ?_)
  rw [Int.toNat_natCast]
  exact key 0 (by omega) _ (by rw [List.length_replicate]) (by simp)
theorem ev_eqStringS (xs : List ByteArray) (hn : xs.length ≤ 1048576) : Ev (fun k => laws_eqStringS.f k xs xs) true := by
  have key : ∀ i, i ≤ xs.length → Ev (fun k => laws_eqStringS.l0 k xs xs i) true := by
    refine Kit.down ?_ ?_
    · exact Ev.step (fun k => rfl) (Kit.ev_neg (by omega) (Ev.now _))
    · intro i hi ih
      refine Ev.step (fun k => rfl) (Kit.ev_pos (by omega) (Kit.ev_pos (by omega) (Kit.ev_pos (by omega) (Kit.ev_pos rfl ?_))))
      rw [Kit.wrap_nat hi (by omega)]
      exact ih
  unfold laws_eqStringS.f
  exact Kit.ev_pos rfl (key 0 (by omega))
theorem within_eq2 (n a b : Int) : impl_within.f n a b = some (decide (a ≤ n ∧ n ≤ b)) := by
  unfold impl_within.f
  by_cases h : n ≥ a
  · rw [if_pos h]; simp [h]
  · rw [if_neg h]; simp; omega
theorem l01In_eq2 (n a b : Int) : spec_l01In.f n a b = some (decide (a ≤ n ∧ n ≤ b)) := by
  unfold spec_l01In.f
  by_cases h : n ≥ a
  · rw [if_pos h]; simp [h]
  · rw [if_neg h]; simp; omega
/-- A rule: its space, its name, its names. -/
def ruleB (s : Int) (n : ByteArray) (xs : List ByteArray) : Bool := decide (0 ≤ s ∧ s ≤ 2) && (isTag n && namesOK xs)
theorem ev_l07Rule (s : Int) (n : ByteArray) (xs : List ByteArray) (hn : n.size ≤ 9223372036854775807) (hx : ∀ x ∈ xs, x.size ≤ 9223372036854775807) : Ev (fun k => spec_l07Rule.f k s n xs) (ruleB s n xs) := by
  unfold spec_l07Rule.f ruleB
  refine Kit.ev_some (l01In_eq2 _ _ _) (Kit.ev_if (fun h => ?_) (fun h => ?_))
  · rw [h, Bool.true_and]
    refine Ev.bind (ev_tag_spec n hn) (Kit.ev_if (fun h => ?_) (fun h => ?_))
    · rw [h, Bool.true_and]
      exact Kit.ev_const (by rw [spec_l07Names.f, if_pos hx]; rfl)
    · rw [Bool.eq_false_iff.2 h, Bool.false_and]; exact Ev.now _
  · rw [Bool.eq_false_iff.2 h, Bool.false_and]; exact Ev.now _
theorem ev_RuleOK (s : Int) (n : ByteArray) (xs : List ByteArray) (hn : n.size ≤ 9223372036854775807) (hx : ∀ x ∈ xs, x.size ≤ 9223372036854775807) : Ev (fun k => impl_RuleOK.f k s n xs) (ruleB s n xs) := by
  unfold impl_RuleOK.f ruleB
  refine Kit.ev_some (within_eq2 _ _ _) (Kit.ev_if (fun h => ?_) (fun h => ?_))
  · rw [h, Bool.true_and]
    refine Ev.bind (ev_tag_impl n hn) (Kit.ev_if (fun h => ?_) (fun h => ?_))
    · rw [h, Bool.true_and]
      exact Kit.ev_const (by rw [impl_areNames.f, if_pos hx]; rfl)
    · rw [Bool.eq_false_iff.2 h, Bool.false_and]; exact Ev.now _
  · rw [Bool.eq_false_iff.2 h, Bool.false_and]; exact Ev.now _
theorem proved : laws_FnExactRuleOK.PureS := by
  intro x hg
  obtain ⟨g0, g1, g2⟩ := hg
  refine Ev.rounds (g := fun k => laws_FnExactRuleOK.f k x.f0 x.f1 x.f2) ?_
  unfold laws_FnExactRuleOK.f
  have hsz : x.f1.size ≤ 9223372036854775807 := g1
  have hw : wrap64 (1048576 - (x.f1.size : Int)) = 1048576 - (x.f1.size : Int) := Kit.wrap_of (by omega) (by omega)
  by_cases hneg : (1048576 : Int) - (x.f1.size : Int) < 0
  · have hs : Ev (fun k => laws_szRule.f k x.f0 x.f1 x.f2 1048576) (-1) := by
      unfold laws_szRule.f
      rw [hw]
      exact Kit.ev_pos hneg (Ev.now _)
    exact Ev.bind hs (Kit.ev_pos (by omega) (Ev.now _))
  · obtain ⟨t, ht, htl, htg⟩ := ev_szStringS x.f2 (1048576 - (x.f1.size : Int)) (by omega) (by omega) g2
    by_cases htn : t < 0
    · have hs : Ev (fun k => laws_szRule.f k x.f0 x.f1 x.f2 1048576) (-1) := by
        unfold laws_szRule.f
        rw [hw]
        exact Kit.ev_neg hneg (Ev.bind ht (Kit.ev_pos htn (Ev.now _)))
      exact Ev.bind hs (Kit.ev_pos (by omega) (Ev.now _))
    · have hs : Ev (fun k => laws_szRule.f k x.f0 x.f1 x.f2 1048576) t := by
        unfold laws_szRule.f
        rw [hw]
        exact Kit.ev_neg hneg (Ev.bind ht (Kit.ev_neg htn (Ev.now _)))
      obtain ⟨hl, hx⟩ := htg (by omega)
      have hto : Ev (fun k => laws_toRule.f k x.f0 x.f1 x.f2) (x.f0, x.f1, x.f2) := by
        unfold laws_toRule.f
        exact Ev.bind (ev_toStringS x.f2 (by omega)) (Ev.now _)
      have hx2 : ∀ y ∈ x.f2, y.size ≤ 9223372036854775807 := fun y hy => by have := hx y hy; omega
      have hspec : Ev (fun k => spec_RuleOK.f k x.f0 x.f1 x.f2) (ruleB x.f0 x.f1 x.f2) := by
        unfold spec_RuleOK.f
        exact Ev.bind (ev_l07Rule x.f0 x.f1 x.f2 hsz hx2) (Ev.now _)
      have heq : Ev (fun k => laws_eqRule.f k x.f0 x.f1 x.f2 x.f0 x.f1 x.f2) true := by
        unfold laws_eqRule.f
        exact Kit.ev_pos rfl (Kit.ev_pos rfl (Ev.bind (ev_eqStringS x.f2 (by omega)) (Kit.ev_pos rfl (Ev.now _))))
      exact Ev.bind hs (Kit.ev_neg htn (Ev.bind hto (Ev.bind hspec (Ev.bind hto (Ev.bind (ev_RuleOK x.f0 x.f1 x.f2 hsz hx2) (Kit.ev_neg (by simp) (Ev.bind hto (Ev.bind heq (Kit.ev_pos rfl (Ev.now _))))))))))
end Go.Proofs.Ythfkgallapjnoaa.Pure.LRuleOK
namespace Go.Proofs.Ythfkgallapjnoaa.Pure
theorem FnExactRuleOK : PFnExactRuleOK.laws_FnExactRuleOK.PureS := LRuleOK.proved
end Go.Proofs.Ythfkgallapjnoaa.Pure
