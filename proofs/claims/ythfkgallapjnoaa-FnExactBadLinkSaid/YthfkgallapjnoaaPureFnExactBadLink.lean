/- The pure statement of FnExactBadLink: for every text both functions tell the same. No conditions. -/
import Derived.Test.YthfkgallapjnoaaKit
import Derived.Test.YthfkgallapjnoaaPFnExactBadLinkx2
namespace Go.Proofs.Ythfkgallapjnoaa.Pure.LBadLink
open Go.RowKit Go.Proofs.Ythfkgallapjnoaa.PFnExactBadLink Go.Proofs.YthfkgallapjnoaaW.PrintWords
theorem isLong1 (a : ByteArray) : impl_isLong.f [a] = some (decide (65536 < (a.size : Int))) := by
  unfold impl_isLong.f
  rw [if_pos (by simp)]
  simp
theorem lowS_bytes (s : ByteArray) : bytesOf (lowS s) = (bytesOf s).map lowC := by
  unfold lowS
  have hx : ((List.range s.size).map fun (i : Nat) => lowC (bt s (i : Int))) = (bytesOf s).map lowC := by
    apply List.ext_getElem
    · simp [bytesOf_length]
    · intro i h1 h2
      simp only [List.length_map, List.length_range] at h1
      simp only [List.getElem_map, List.getElem_range]
      rw [Kit.bt_rd]
      have : i < (bytesOf s).length := by rw [bytesOf_length]; exact h1
      simp [List.getD, this]
  rw [hx]
  apply Kit.bytesOf_strOf
  intro x hx
  obtain ⟨y, hy, rfl⟩ := List.mem_map.1 hx
  have := Kit.bytesOf_mem hy
  unfold lowC
  by_cases h : 65 ≤ y ∧ y ≤ 90
  · rw [if_pos h]; omega
  · rw [if_neg h]; omega
theorem lower_eq (s : ByteArray) (h : s.size ≤ 9223372036854775807) : impl_lower.f s = some (lowS s) := if_pos h
theorem hasPrefix_eq (a b : ByteArray) : strings_HasPrefix.f a b = some (decide (a.size ≥ b.size) && ((a.extract 0 b.size).toList == b.toList)) := by
  unfold strings_HasPrefix.f stringslite_HasPrefix.f
  by_cases h : (a.size : Int) ≥ (b.size : Int)
  · rw [if_pos h, if_pos (by omega), if_pos h, decide_eq_true (p := a.size ≥ b.size) (by omega)]
    rfl
  · rw [if_neg h, decide_eq_false (p := a.size ≥ b.size) (by omega)]
    rfl
def wantJ : List Int := [106, 97, 118, 97, 115, 99, 114, 105, 112, 116, 58]
theorem wantJ_eq : bytesOf (⟨#[106, 97, 118, 97, 115, 99, 114, 105, 112, 116, 58]⟩ : ByteArray) = wantJ := rfl
def keepC (c : Int) : Bool := !decide (c = 9) && (!decide (c = 10) && !decide (c = 13))
/-- Without the bytes up to 32 ahead, and without 9, 10, 13, in small letters: does it begin so? -/
def badL (l : List Int) : Bool := wantJ.isPrefixOf (((l.dropWhile fun c => decide (c ≤ 32)).filter keepC).map lowC)
def badFrom (k : Nat) (l : List Int) : Bool := (wantJ.drop k).isPrefixOf ((if k = 0 then (l.dropWhile fun c => decide (c ≤ 32)).filter keepC else l.filter keepC).map lowC)
theorem badFrom_zero (l : List Int) : badFrom 0 l = badL l := rfl
theorem badFrom_full (l : List Int) : badFrom 11 l = true := rfl
theorem badFrom_nil (k : Nat) (h : k < 11) : badFrom k [] = false := by
  unfold badFrom
  have : (if k = 0 then (([] : List Int).dropWhile fun c => decide (c ≤ 32)).filter keepC else ([] : List Int).filter keepC) = [] := by split <;> rfl
  rw [this]
  rcases hw : wantJ.drop k with _ | ⟨x, r⟩
  · have := congrArg List.length hw
    simp [wantJ] at this
    omega
  · rfl
theorem badFrom_skip (k : Nat) (c : Int) (l : List Int) (h : c = 9 ∨ c = 10 ∨ c = 13 ∨ (k = 0 ∧ c ≤ 32)) : badFrom k (c :: l) = badFrom k l := by
  unfold badFrom
  by_cases hk : k = 0
  · rw [if_pos hk, if_pos hk, List.dropWhile_cons, if_pos (decide_eq_true (by omega))]
  · rw [if_neg hk, if_neg hk, List.filter_cons, if_neg ?_]
    unfold keepC
    rcases h with h | h | h | h
    · simp [h]
    · simp [h]
    · simp [h]
    · exact absurd h.1 hk
theorem badFrom_take (k : Nat) (c : Int) (l : List Int) (hk : k < 11) (h9 : ¬ c = 9) (h10 : ¬ c = 10) (h13 : ¬ c = 13) (h32 : k = 0 → ¬ c ≤ 32) : badFrom k (c :: l) = (decide (lowC c = wantJ.getD k 0) && badFrom (k + 1) l) := by
  have hkeep : keepC c = true := by simp [keepC, h9, h10, h13]
  have e : (if k = 0 then ((c :: l).dropWhile fun c => decide (c ≤ 32)).filter keepC else (c :: l).filter keepC) = c :: l.filter keepC := by
    by_cases h : k = 0
    · rw [if_pos h, List.dropWhile_cons, if_neg (by simpa using h32 h), List.filter_cons, if_pos hkeep]
    · rw [if_neg h, List.filter_cons, if_pos hkeep]
  unfold badFrom
  rw [e, if_neg (by omega), Kit.drop_getD 0 wantJ k hk, List.map_cons, List.isPrefixOf]
  congr 1
  rw [Bool.eq_iff_iff, beq_iff_eq, decide_eq_true_iff]
  exact eq_comm
theorem ev_l01Bad (s : ByteArray) (hn : s.size ≤ 140737488351232) : Ev (fun k => spec_l01Bad.f k s) (badL (bytesOf s)) := by
  have key : ∀ i : Nat, i ≤ s.size → ∀ m : Nat, m ≤ 11 → Ev (fun k => spec_l01Bad.l0 k s (⟨#[106, 97, 118, 97, 115, 99, 114, 105, 112, 116, 58]⟩ : ByteArray) m i) (badFrom m ((bytesOf s).drop i)) := by
    have stop : ∀ (i m : Nat), m = 11 ∨ (i = s.size ∧ m < 11) → Ev (fun k => spec_l01Bad.j1 k s (⟨#[106, 97, 118, 97, 115, 99, 114, 105, 112, 116, 58]⟩ : ByteArray) m i false) (badFrom m ((bytesOf s).drop i)) := by
      intro i m h
      refine Ev.step (f := fun _ => some ((m : Int) == (((⟨#[106, 97, 118, 97, 115, 99, 114, 105, 112, 116, 58]⟩ : ByteArray).size : Nat) : Int))) (fun k => by rw [spec_l01Bad.j1, if_neg Bool.false_ne_true]) (Kit.ev_const ?_)
      rcases h with rfl | ⟨rfl, h⟩
      · rw [badFrom_full]; rfl
      · rw [List.drop_of_length_le (by rw [bytesOf_length]; exact Nat.le_refl _), badFrom_nil m h]
        congr 1
        show ((m : Int) == (11 : Int)) = false
        simp; omega
    refine Kit.down ?_ ?_
    · intro m hm
      refine Ev.step (fun k => by rw [spec_l01Bad.l0]) (Kit.ev_neg (by omega) ?_)
      by_cases h : m = 11
      · exact stop _ m (.inl h)
      · exact stop _ m (.inr ⟨rfl, by omega⟩)
    · intro i hi ih m hm
      refine Ev.step (fun k => by rw [spec_l01Bad.l0]) (Kit.ev_pos (by omega) ?_)
      by_cases hm11 : m = 11
      · subst hm11
        exact stop i 11 (.inl rfl)
      · have hlt : decide ((m : Int) < (((⟨#[106, 97, 118, 97, 115, 99, 114, 105, 112, 116, 58]⟩ : ByteArray).size : Nat) : Int)) = true := by
          show decide ((m : Int) < (11 : Int)) = true
          exact decide_eq_true (by omega)
        rw [hlt]
        refine Ev.step (fun k => by rw [spec_l01Bad.j1]) (Kit.ev_pos rfl (Kit.ev_pos (by omega) (Kit.ev_pos (by omega) ?_)))
        rw [Kit.bytesOf_drop s i hi]
        have hb := bt_range s (i : Int)
        generalize bt s (i : Int) = c at hb ⊢
        have skip : (c = 9 ∨ c = 10 ∨ c = 13 ∨ (m = 0 ∧ c ≤ 32)) → Ev (fun k => spec_l01Bad.j2 k s (⟨#[106, 97, 118, 97, 115, 99, 114, 105, 112, 116, 58]⟩ : ByteArray) m i c true) (badFrom m (c :: (bytesOf s).drop (i + 1))) := by
          intro h
          rw [badFrom_skip m c _ h]
          refine Ev.step (fun k => by rw [spec_l01Bad.j2]) (Kit.ev_pos rfl ?_)
          rw [Kit.wrap_nat hi (by omega)]
          exact ih m hm
        have take : ¬ c = 9 → ¬ c = 10 → ¬ c = 13 → (m = 0 → ¬ c ≤ 32) → Ev (fun k => spec_l01Bad.j2 k s (⟨#[106, 97, 118, 97, 115, 99, 114, 105, 112, 116, 58]⟩ : ByteArray) m i c false) (badFrom m (c :: (bytesOf s).drop (i + 1))) := by
          intro h9 h10 h13 h32
          have hw : bt (⟨#[106, 97, 118, 97, 115, 99, 114, 105, 112, 116, 58]⟩ : ByteArray) (m : Int) = wantJ.getD m 0 := by rw [Kit.bt_rd, wantJ_eq]
          have hw1 : wrap64 ((m : Int) + 1) = ((m + 1 : Nat) : Int) := Kit.wrap_nat (n := 11) (by omega) (by omega)
          have hs : (m : Int) < (((⟨#[106, 97, 118, 97, 115, 99, 114, 105, 112, 116, 58]⟩ : ByteArray).size : Nat) : Int) := of_decide_eq_true hlt
          rw [badFrom_take m c _ (by omega) h9 h10 h13 h32]
          have fin : ∀ x, x = lowC c → Ev (fun k => if x = bt (⟨#[106, 97, 118, 97, 115, 99, 114, 105, 112, 116, 58]⟩ : ByteArray) (m : Int) then spec_l01Bad.l0 k s (⟨#[106, 97, 118, 97, 115, 99, 114, 105, 112, 116, 58]⟩ : ByteArray) (wrap64 ((m : Int) + 1)) (wrap64 ((i : Int) + 1)) else some false) (decide (lowC c = wantJ.getD m 0) && badFrom (m + 1) ((bytesOf s).drop (i + 1))) := by
            intro x hx
            rw [hw, hw1, Kit.wrap_nat hi (by omega), hx]
            refine Kit.ev_if (fun h => ?_) (fun h => ?_)
            · rw [decide_eq_true h, Bool.true_and]; exact ih (m + 1) (by omega)
            · rw [decide_eq_false h, Bool.false_and]; exact Ev.now _
          refine Ev.step (fun k => by rw [spec_l01Bad.j2]) (Kit.ev_neg (by decide) ?_)
          have j3 : ∀ b : Bool, b = decide (65 ≤ c ∧ c ≤ 90) → Ev (fun k => spec_l01Bad.j3 k s (⟨#[106, 97, 118, 97, 115, 99, 114, 105, 112, 116, 58]⟩ : ByteArray) m i c b) (decide (lowC c = wantJ.getD m 0) && badFrom (m + 1) ((bytesOf s).drop (i + 1))) := by
            intro b hb2
            refine Ev.step (fun k => by rw [spec_l01Bad.j3]) ?_
            by_cases h : 65 ≤ c ∧ c ≤ 90
            · refine Kit.ev_pos (by rw [hb2, decide_eq_true h]) (Kit.ev_pos (by omega) (Kit.ev_pos hs (fin _ ?_)))
              unfold lowC; rw [if_pos h]; omega
            · refine Kit.ev_neg (by rw [hb2, decide_eq_false h]; decide) (Kit.ev_pos (by omega) (Kit.ev_pos hs (fin _ ?_)))
              unfold lowC; rw [if_neg h]
          refine Kit.ev_if (fun h => j3 _ ?_) (fun h => j3 _ ?_)
          · rw [decide_eq_decide]; omega
          · rw [decide_eq_false]; omega
        refine Kit.ev_if (fun h => skip (by omega)) (fun h9 => Kit.ev_if (fun h => skip (by omega)) (fun h10 => Kit.ev_if (fun h => skip (by omega)) (fun h13 => Kit.ev_if (fun h0 => ?_) (fun h0 => ?_))))
        · by_cases h32 : c ≤ 32
          · rw [decide_eq_true h32]; exact skip (by omega)
          · rw [decide_eq_false h32]; exact take h9 h10 h13 (fun _ => h32)
        · exact take h9 h10 h13 (fun h => by omega)
  have := key 0 (by omega) 0 (by omega)
  rw [badFrom_zero, List.drop_zero] at this
  exact this
theorem ev_BadLink_l1 (s : ByteArray) (hn : s.size ≤ 140737488351232) : Ev (fun k => impl_BadLink.l1 k s ([] : List Int) s.size 0) (wantJ.isPrefixOf (((bytesOf s).filter keepC).map lowC)) := by
  have key : ∀ i : Nat, i ≤ s.size → ∀ acc : List Int, acc = ((bytesOf s).take i).filter keepC → Ev (fun k => impl_BadLink.l1 k s acc s.size i) (wantJ.isPrefixOf (((bytesOf s).filter keepC).map lowC)) := by
    refine Kit.down ?_ ?_
    · intro acc ha
      rw [List.take_of_length_le (by rw [bytesOf_length]; exact Nat.le_refl _)] at ha
      have hlen : acc.length ≤ s.size := by rw [ha, ← bytesOf_length s]; exact List.length_filter_le _ _
      refine Ev.step (fun k => by rw [impl_BadLink.l1]) (Kit.ev_neg (by omega) (Kit.ev_const ?_))
      rw [lower_eq _ (by rw [strOfNums_size]; omega), Option.bind_some, hasPrefix_eq, Option.bind_some]
      congr 1
      have hb : bytesOf (strOfNums acc) = acc := Kit.bytesOf_strOf (fun x hx => by rw [ha] at hx; exact Kit.bytesOf_mem ((List.mem_filter.1 hx).1))
      rw [Kit.toList_beq, Kit.bytesOf_extract, lowS_bytes, hb, wantJ_eq, ← ha]
      have := Kit.isPrefix_take wantJ (acc.map lowC)
      rw [← this]
      have e1 : (lowS (strOfNums acc)).size = (acc.map lowC).length := by rw [Kit.size_eq, lowS_bytes, hb]
      rw [e1]
      rfl
    · intro i hi ih acc ha
      have hl : acc.length < 140737488355328 := by
        have h1 : acc.length ≤ i := by
          rw [ha]
          refine Nat.le_trans (List.length_filter_le _ _) ?_
          rw [List.length_take]; omega
        omega
      have ht : (bytesOf s).take (i + 1) = (bytesOf s).take i ++ [bt s (i : Int)] := by
        rw [List.take_add_one, Kit.bt_rd]
        have : i < (bytesOf s).length := by rw [bytesOf_length]; exact hi
        simp [List.getD, this]
      have hskip : keepC (bt s (i : Int)) = false → Ev (fun k => impl_BadLink.l1 k s acc s.size (wrap64 ((i : Int) + 1))) (wantJ.isPrefixOf (((bytesOf s).filter keepC).map lowC)) := by
        intro h
        rw [Kit.wrap_nat hi (by omega)]
        refine ih _ ?_
        rw [ha, ht, List.filter_append, List.filter_cons, if_neg (by rw [h]; decide), List.filter_nil, List.append_nil]
      refine Ev.step (fun k => by rw [impl_BadLink.l1]) (Kit.ev_pos (by omega) (Kit.ev_pos (by omega) (Kit.ev_pos (by omega) ?_)))
      refine Kit.ev_if (fun h => hskip (by simp [keepC, h])) (fun h9 => Kit.ev_if (fun h => hskip (by simp [keepC, h])) (fun h10 => Kit.ev_if (fun h => hskip (by simp [keepC, h])) (fun h13 => Kit.ev_pos hl ?_)))
      rw [Kit.wrap_nat hi (by omega)]
      refine ih _ ?_
      have : keepC (bt s (i : Int)) = true := by simp [keepC, h9, h10, h13]
      rw [ha, ht, List.filter_append, List.filter_cons, if_pos this, List.filter_nil]
  exact key 0 (by omega) [] (by simp)
theorem ev_BadLink_l0 : ∀ (n : Nat) (s : ByteArray), s.size = n → s.size ≤ 140737488351232 → Ev (fun k => impl_BadLink.l0 k s) (badL (bytesOf s)) := by
  intro n
  induction n with
  | zero =>
    intro s hs hn
    have he : bytesOf s = [] := List.eq_nil_of_length_eq_zero (by rw [bytesOf_length]; exact hs)
    refine Ev.step (fun k => by rw [impl_BadLink.l0]) (Kit.ev_pos ((Kit.toList_nil s).2 he) ?_)
    refine Ev.step (fun k => by rw [impl_BadLink.j1]) ?_
    have := ev_BadLink_l1 s hn
    rw [he] at this ⊢
    exact this
  | succ n ih =>
    intro s hs hn
    have hd : bytesOf s = bt s 0 :: (bytesOf s).drop 1 := Kit.bytesOf_drop s 0 (by omega)
    refine Ev.step (fun k => by rw [impl_BadLink.l0]) (Kit.ev_neg (fun h => ?_) (Kit.ev_pos (by omega) (Kit.ev_if (fun h => ?_) (fun h => ?_))))
    · rw [(Kit.toList_nil s).1 h] at hd; cases hd
    · refine Kit.ev_pos (by omega) ?_
      have hx : bytesOf (s.extract 1 s.size) = (bytesOf s).drop 1 := Kit.bytesOf_tail s 1
      have hz : (s.extract 1 s.size).size = n := by rw [Kit.size_eq, hx, List.length_drop, bytesOf_length]; omega
      have := ih (s.extract 1 s.size) hz (by omega)
      rw [hx] at this
      have e : badL (bytesOf s) = badL ((bytesOf s).drop 1) := by
        rw [← badFrom_zero, hd, badFrom_skip 0 _ _ (.inr (.inr (.inr ⟨rfl, h⟩))), badFrom_zero]
        rfl
      rw [e]
      exact this
    · refine Ev.step (fun k => by rw [impl_BadLink.j1]) ?_
      have := ev_BadLink_l1 s hn
      have e : badL (bytesOf s) = wantJ.isPrefixOf (((bytesOf s).filter keepC).map lowC) := by
        unfold badL
        have h2 : (bytesOf s).dropWhile (fun c => decide (c ≤ 32)) = bytesOf s := by
          rw [hd, List.dropWhile_cons, if_neg (by simpa using h)]
        rw [h2]
      rw [e]
      exact this
theorem ev_BadLink_impl (a : ByteArray) (ha : a.size ≤ 140737488351232) : Ev (fun k => impl_BadLink.f k a) (!decide (65536 < (a.size : Int)) && badL (bytesOf a)) := by
  unfold impl_BadLink.f
  refine Kit.ev_some (isLong1 a) (Kit.ev_if (fun h => ?_) (fun h => ?_))
  · rw [h]; exact Ev.now _
  · rw [Bool.eq_false_iff.2 h]; exact ev_BadLink_l0 a.size a rfl ha
theorem proved : laws_FnExactBadLink.Pure := by
  intro a ha
  refine Ev.rounds (g := fun k => laws_FnExactBadLink.f k a) ?_
  unfold laws_FnExactBadLink.f
  refine Kit.ev_if (fun _ => Ev.now _) (fun _ => ?_)
  have hs : Ev (fun k => spec_BadLink.f k a) (!decide (65536 < (a.size : Int)) && badL (bytesOf a)) := by
    unfold spec_BadLink.f
    refine Kit.ev_if (fun h => ?_) (fun h => ?_)
    · rw [decide_eq_true h]; exact Ev.now _
    · rw [decide_eq_false h]; exact Ev.bind (ev_l01Bad a ha) (Ev.now _)
  exact Ev.bind hs (Ev.bind (ev_BadLink_impl a ha) (Kit.ev_neg (by simp) (Ev.now _)))
end Go.Proofs.Ythfkgallapjnoaa.Pure.LBadLink
namespace Go.Proofs.Ythfkgallapjnoaa.Pure
theorem FnExactBadLink : PFnExactBadLink.laws_FnExactBadLink.Pure := LBadLink.proved
end Go.Proofs.Ythfkgallapjnoaa.Pure
