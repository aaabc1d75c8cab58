/- The pure statement of FnExactCommentOK: for every text both functions tell the same. No conditions. -/
import Derived.Test.YtophaihdibplkaaKit
import Derived.Test.YtophaihdibplkaaOpensFnExactCommentOK
namespace Go.Proofs.Ytophaihdibplkaa.Pure.LCommentOK
open Go.RowKit Go.Proofs.Ytophaihdibplkaa.PFnExactCommentOK Go.Proofs.YtophaihdibplkaaW.PrintWords
theorem hasPrefix_eq (a b : ByteArray) : strings_HasPrefix.f a b = some (decide (a.size ≥ b.size) && ((a.extract 0 b.size).toList == b.toList)) := by
  unfold strings_HasPrefix.f stringslite_HasPrefix.f
  by_cases h : (a.size : Int) ≥ (b.size : Int)
  · rw [if_pos h, if_pos (by omega), if_pos h, decide_eq_true (p := a.size ≥ b.size) (by omega)]
    rfl
  · rw [if_neg h, decide_eq_false (p := a.size ≥ b.size) (by omega)]
    rfl
/-- The byte at place i does no harm in a comment. -/
def cmtB (a : ByteArray) (i : Nat) : Bool := !decide (bt a i = 60) && (!decide (bt a i = 62) && (!decide (bt a i = 45) || (!decide (i = 0) && (!decide (i + 1 = a.size) && !decide (bt a ((i : Int) - 1) = 45)))))
def cmtOK (a : ByteArray) : Bool := Kit.allB (cmtB a) 0 a.size
theorem ev_l02Comment (a : ByteArray) (hn : a.size ≤ 1048576) : Ev (fun k => spec_l02Comment.f k a) (cmtOK a) := by
  have key : ∀ i : Nat, i ≤ a.size → Ev (fun k => spec_l02Comment.l0 k a i) (Kit.allB (cmtB a) i a.size) := by
    refine Kit.down ?_ ?_
    · rw [Kit.allB_end]
      exact Ev.step (fun k => rfl) (Kit.ev_neg (by omega) (Ev.now _))
    · intro i hi ih
      rw [Kit.allB_step _ hi]
      refine Ev.step (fun k => rfl) (Kit.ev_pos (by omega) (Kit.ev_pos (by omega) ?_))
      have w1 : wrap64 ((a.size : Int) - 1) = (a.size : Int) - 1 := Kit.wrap_of (by omega) (by omega)
      have w2 : wrap64 ((i : Int) - 1) = (i : Int) - 1 := Kit.wrap_of (by omega) (by omega)
      rw [w1, w2, Kit.wrap_nat hi (by omega)]
      by_cases h60 : bt a (i : Int) = 60
      · refine Kit.ev_pos h60 ?_
        rw [show cmtB a i = false by unfold cmtB; rw [decide_eq_true h60]; rfl]
        exact Ev.now _
      refine Kit.ev_neg h60 ?_
      by_cases h62 : bt a (i : Int) = 62
      · refine Kit.ev_pos h62 ?_
        rw [show cmtB a i = false by unfold cmtB; rw [decide_eq_true h62]; simp]
        exact Ev.now _
      refine Kit.ev_neg h62 ?_
      by_cases h45 : bt a (i : Int) = 45
      case neg =>
        refine Kit.ev_neg h45 ?_
        rw [show cmtB a i = true by unfold cmtB; rw [decide_eq_false h60, decide_eq_false h62, decide_eq_false h45]; rfl]
        exact ih
      refine Kit.ev_pos h45 ?_
      by_cases h0 : i = 0
      · refine Kit.ev_pos (by omega) ?_
        rw [show cmtB a i = false by unfold cmtB; rw [decide_eq_true h45, decide_eq_true h0]; simp]
        exact Ev.now _
      refine Kit.ev_neg (by omega) ?_
      by_cases h1 : i + 1 = a.size
      · refine Kit.ev_pos (by omega) ?_
        rw [show cmtB a i = false by unfold cmtB; rw [decide_eq_true h45, decide_eq_true h1]; simp]
        exact Ev.now _
      refine Kit.ev_neg (by omega) (Kit.ev_pos (by omega) (Kit.ev_pos (by omega) ?_))
      by_cases h2 : bt a ((i : Int) - 1) = 45
      · refine Kit.ev_pos h2 ?_
        rw [show cmtB a i = false by unfold cmtB; rw [decide_eq_true h45, decide_eq_true h2]; simp]
        exact Ev.now _
      refine Kit.ev_neg h2 ?_
      rw [show cmtB a i = true by unfold cmtB; rw [decide_eq_false h60, decide_eq_false h62, decide_eq_false h0, decide_eq_false h1, decide_eq_false h2]; simp]
      exact ih
  exact key 0 (by omega)
theorem list_at (a : ByteArray) (i : Nat) (h : i < a.size) : ∃ x : UInt8, a.data.toList[i]? = some x ∧ bt a i = (x.toNat : Int) := by
  refine ⟨a[i], Lib.data_getElem? a i h, ?_⟩
  unfold bt
  rw [dif_pos (by simpa using h)]
  rfl
theorem u8_iff (x : UInt8) (n : Nat) (hn : n < 256) : x = UInt8.ofNat n ↔ (x.toNat : Int) = n := by
  constructor
  · rintro rfl; simp; omega
  · intro h
    apply UInt8.toNat_inj.1
    simp
    omega
theorem containsAny_iff (a : ByteArray) : Lib.containsAny a.data.toList [60, 62] = true ↔ ∃ i, i < a.size ∧ (bt a (i : Int) = 60 ∨ bt a (i : Int) = 62) := by
  have h1 : Lib.containsAny a.data.toList [60, 62] = true ↔ ∃ (i : Nat) (x : UInt8), a.data.toList[i]? = some x ∧ ([60, 62] : List UInt8).contains x = true := by
    constructor
    · intro h
      apply Classical.byContradiction
      intro hn
      have hno : Lib.NoAny a.data.toList [60, 62] a.data.toList.length := fun j b _ hb => Bool.eq_false_iff.2 (fun hc => hn ⟨j, b, hb, hc⟩)
      unfold Lib.containsAny at h
      rw [Lib.indexAny_none hno] at h
      exact absurd h (by decide)
    · rintro ⟨i, x, hx, hc⟩
      have : ∀ l : List UInt8, x ∈ l → 0 ≤ Lib.indexAny l [60, 62] := by
        intro l
        induction l with
        | nil => intro h; cases h
        | cons b l ih =>
          intro h
          rw [Lib.indexAny]
          by_cases hb : ([60, 62] : List UInt8).contains b = true
          · rw [if_pos hb]; exact Int.le_refl _
          · rw [if_neg hb]
            rcases List.mem_cons.1 h with rfl | h
            · exact absurd hc hb
            · have := ih h
              rw [if_neg (by intro e; have := beq_iff_eq.1 e; omega)]
              omega
      unfold Lib.containsAny
      exact decide_eq_true (this _ (List.mem_of_getElem? hx))
  rw [h1]
  constructor
  · rintro ⟨i, x, hx, hc⟩
    have hl : i < a.size := by
      have := (List.getElem?_eq_some_iff.1 hx).1
      simpa using this
    obtain ⟨y, hy, hb⟩ := list_at a i hl
    rw [hx] at hy
    obtain rfl := Option.some.inj hy
    refine ⟨i, hl, ?_⟩
    simp at hc
    rcases hc with rfl | rfl
    · left; rw [hb]; rfl
    · right; rw [hb]; rfl
  · rintro ⟨i, hl, h⟩
    obtain ⟨x, hx, hb⟩ := list_at a i hl
    refine ⟨i, x, hx, ?_⟩
    rw [hb] at h
    rcases h with h | h
    · rw [(u8_iff x 60 (by decide)).2 h]; rfl
    · rw [(u8_iff x 62 (by decide)).2 h]; rfl
theorem contains2_iff (a : ByteArray) : Lib.contains a.data.toList [45, 45] = true ↔ ∃ i : Nat, i + 1 < a.size ∧ bt a (i : Int) = 45 ∧ bt a ((i + 1 : Nat) : Int) = 45 := by
  have hocc : ∀ j, Lib.occAt a.data.toList [45, 45] j = true ↔ j + 1 < a.size ∧ bt a (j : Int) = 45 ∧ bt a ((j + 1 : Nat) : Int) = 45 := by
    intro j
    unfold Lib.occAt
    have hlen : a.data.toList.length = a.size := by simp
    constructor
    · intro h
      rw [List.isPrefixOf_iff_prefix] at h
      obtain ⟨r, hr⟩ := h
      have hl := congrArg List.length hr
      simp only [List.length_append, List.length_cons, List.length_nil, List.length_drop, hlen] at hl
      have g0 := congrArg (fun l => l[0]?) hr
      have g1 := congrArg (fun l => l[1]?) hr
      simp only [List.getElem?_drop, List.cons_append, List.nil_append, List.getElem?_cons_zero, List.getElem?_cons_succ, Nat.add_zero] at g0 g1
      obtain ⟨x, hx, hb⟩ := list_at a j (by omega)
      obtain ⟨y, hy, hc⟩ := list_at a (j + 1) (by omega)
      rw [hx] at g0
      rw [hy] at g1
      obtain rfl := Option.some.inj g0
      obtain rfl := Option.some.inj g1
      exact ⟨by omega, hb, hc⟩
    · rintro ⟨h0, h1, h2⟩
      obtain ⟨x, hx, hb⟩ := list_at a j (by omega)
      obtain ⟨y, hy, hc⟩ := list_at a (j + 1) h0
      rw [h1] at hb
      rw [h2] at hc
      have ex := (u8_iff x 45 (by decide)).2 hb.symm
      have ey := (u8_iff y 45 (by decide)).2 hc.symm
      obtain ⟨l0, e0⟩ := List.getElem?_eq_some_iff.1 hx
      obtain ⟨l1, e1⟩ := List.getElem?_eq_some_iff.1 hy
      rw [List.drop_eq_getElem_cons l0, List.drop_eq_getElem_cons l1, e0, e1, ex, ey]
      rfl
  unfold Lib.contains
  rw [decide_eq_true_iff]
  rcases Lib.index_spec a.data.toList [45, 45] with ⟨h, hno⟩ | ⟨i, h, hl, ho, _⟩
  · rw [h]
    constructor
    · intro h0; exact absurd h0 (by decide)
    · rintro ⟨i, hi⟩
      have := hno i (by have : a.data.toList.length = a.size := by simp
                        omega)
      rw [(hocc i).2 hi] at this
      cases this
  · rw [h]
    exact ⟨fun _ => ⟨i, (hocc i).1 ho⟩, fun _ => by omega⟩
theorem prefix_stroke (a : ByteArray) : strings_HasPrefix.f a ⟨#[45]⟩ = some (decide (0 < a.size ∧ bt a 0 = 45)) := by
  rw [hasPrefix_eq]
  congr 1
  by_cases h : 0 < a.size
  · obtain ⟨x, hx, hb⟩ := list_at a 0 h
    have h1 : (a.extract 0 (⟨#[45]⟩ : ByteArray).size).toList = [x] := by
      show (a.extract 0 1).toList = [x]
      rw [ByteArray.toList_eq, ByteArray.data_extract, Array.toList_extract]
      obtain ⟨l0, e0⟩ := List.getElem?_eq_some_iff.1 hx
      rw [List.extract, List.drop_zero]
      rcases hl : a.data.toList with _ | ⟨y, r⟩
      · rw [hl] at l0; exact absurd l0 (Nat.not_lt_zero _)
      · rw [hl] at hx
        obtain rfl : y = x := by simpa using hx
        rfl
    rw [h1, decide_eq_true (show a.size ≥ (⟨#[45]⟩ : ByteArray).size from h), Bool.true_and, Bool.eq_iff_iff, beq_iff_eq, decide_eq_true_iff]
    rw [show (⟨#[45]⟩ : ByteArray).toList = [45] from Kit.lit_toList #[45]]
    have hb0 : bt a 0 = (x.toNat : Int) := hb
    rw [hb0]
    constructor
    · intro h2; injection h2 with h2; exact ⟨h, by rw [h2]; rfl⟩
    · rintro ⟨_, h2⟩; rw [(u8_iff x 45 (by decide)).2 h2]; rfl
  · rw [decide_eq_false (show ¬ a.size ≥ (⟨#[45]⟩ : ByteArray).size from h), Bool.false_and, decide_eq_false (fun h2 => h h2.1)]
theorem suffix_stroke (a : ByteArray) (hn : a.size ≤ 1048576) : strings_HasSuffix.f a ⟨#[45]⟩ = some (decide (0 < a.size ∧ bt a ((a.size - 1 : Nat) : Int) = 45)) := by
  unfold strings_HasSuffix.f stringslite_HasSuffix.f
  have hs : ((⟨#[45]⟩ : ByteArray).size : Int) = 1 := rfl
  rw [hs]
  by_cases h : 0 < a.size
  · have w1 : wrap64 ((a.size : Int) - 1) = ((a.size - 1 : Nat) : Int) := by rw [Kit.wrap_of (by omega) (by omega)]; omega
    rw [if_pos (by omega), w1, if_pos (by omega), if_pos (by omega), Option.bind_some]
    congr 1
    obtain ⟨x, hx, hb⟩ := list_at a (a.size - 1) (by omega)
    have h1 : (a.extract (((a.size - 1 : Nat) : Int)).toNat a.size).toList = [x] := by
      rw [Int.toNat_natCast, ByteArray.toList_eq, ByteArray.data_extract, Array.toList_extract, List.extract]
      obtain ⟨l0, e0⟩ := List.getElem?_eq_some_iff.1 hx
      rw [List.drop_eq_getElem_cons l0, e0, List.drop_of_length_le (by simp; omega), show a.size - (a.size - 1) = 1 by omega]
      rfl
    rw [h1, Bool.eq_iff_iff, beq_iff_eq, decide_eq_true_iff, hb]
    rw [show (⟨#[45]⟩ : ByteArray).toList = [45] from Kit.lit_toList #[45]]
    constructor
    · intro h2; injection h2 with h2; exact ⟨h, by rw [h2]; rfl⟩
    · rintro ⟨_, h2⟩; rw [(u8_iff x 45 (by decide)).2 h2]; rfl
  · rw [if_neg (by omega), Option.bind_some, decide_eq_false (fun h2 => h h2.1)]
theorem cmt_iff (a : ByteArray) : cmtOK a = (!Lib.containsAny a.data.toList [60, 62] && (!Lib.contains a.data.toList [45, 45] && (!decide (0 < a.size ∧ bt a 0 = 45) && !decide (0 < a.size ∧ bt a ((a.size - 1 : Nat) : Int) = 45)))) := by
  rw [Bool.eq_iff_iff]
  unfold cmtOK
  rw [Kit.allB_iff]
  simp only [Bool.and_eq_true, Bool.not_eq_true', decide_eq_false_iff_not]
  rw [Bool.eq_false_iff, Bool.eq_false_iff, ne_eq, ne_eq, containsAny_iff, contains2_iff]
  have hc : ∀ j, cmtB a j = true ↔ bt a (j : Int) ≠ 60 ∧ bt a (j : Int) ≠ 62 ∧ (bt a (j : Int) = 45 → j ≠ 0 ∧ j + 1 ≠ a.size ∧ bt a ((j : Int) - 1) ≠ 45) := by
    intro j
    unfold cmtB
    by_cases h : bt a (j : Int) = 45 <;> simp [h]
  constructor
  · intro h
    refine ⟨?_, ?_, ?_, ?_⟩
    · rintro ⟨i, hi, h2⟩
      have := (hc i).1 (h i (Nat.zero_le _) hi)
      rcases h2 with h2 | h2
      · exact this.1 h2
      · exact this.2.1 h2
    · rintro ⟨i, hi, h1, h2⟩
      have := ((hc (i + 1)).1 (h (i + 1) (Nat.zero_le _) hi)).2.2 h2
      refine this.2.2 ?_
      rw [show (((i + 1 : Nat) : Int) - 1) = (i : Int) by omega]
      exact h1
    · rintro ⟨h0, h1⟩
      exact (((hc 0).1 (h 0 (Nat.le_refl _) h0)).2.2 h1).1 rfl
    · rintro ⟨h0, h1⟩
      exact (((hc (a.size - 1)).1 (h _ (Nat.zero_le _) (by omega))).2.2 h1).2.1 (by omega)
  · rintro ⟨h1, h2, h3, h4⟩ j _ hj
    refine (hc j).2 ⟨fun e => h1 ⟨j, hj, .inl e⟩, fun e => h1 ⟨j, hj, .inr e⟩, fun e => ⟨fun e0 => ?_, fun e1 => ?_, fun e2 => ?_⟩⟩
    · subst e0; exact h3 ⟨hj, e⟩
    · exact h4 ⟨by omega, by rw [show a.size - 1 = j by omega]; exact e⟩
    · by_cases e0 : j = 0
      · subst e0; exact h3 ⟨hj, e⟩
      · refine h2 ⟨j - 1, by omega, ?_, ?_⟩
        · rw [show ((j - 1 : Nat) : Int) = (j : Int) - 1 by omega]; exact e2
        · rw [show j - 1 + 1 = j by omega]; exact e
theorem proved : laws_FnExactCommentOK.PureS := by
  intro a _
  refine Ev.rounds (g := fun k => laws_FnExactCommentOK.f k a) ?_
  unfold laws_FnExactCommentOK.f
  refine Kit.ev_if (fun _ => Ev.now _) (fun hn => ?_)
  have hs : Ev (fun k => spec_CommentOK.f k a) (!decide (65536 < (a.size : Int)) && cmtOK a) := by
    unfold spec_CommentOK.f
    refine Kit.ev_if (fun h => ?_) (fun h => ?_)
    · rw [decide_eq_true h]; exact Ev.now _
    · rw [decide_eq_false h]; exact Kit.ev_pos (by omega) (Ev.bind (ev_l02Comment a (by omega)) (Ev.now _))
  refine Ev.bind hs (Kit.ev_some (prefix_stroke a) (Kit.ev_some (suffix_stroke a (by omega)) (Kit.ev_pos ?_ (Ev.now _))))
  rw [cmt_iff]
  rfl
end Go.Proofs.Ytophaihdibplkaa.Pure.LCommentOK
namespace Go.Proofs.Ytophaihdibplkaa.Pure
theorem FnExactCommentOK : PFnExactCommentOK.laws_FnExactCommentOK.PureS := LCommentOK.proved
end Go.Proofs.Ytophaihdibplkaa.Pure
