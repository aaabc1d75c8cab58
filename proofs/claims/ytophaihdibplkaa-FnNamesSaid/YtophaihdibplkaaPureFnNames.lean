/- The pure statement of FnNames: for every two codes the law tells true. No conditions. -/
import Derived.Test.YtophaihdibplkaaKit
import Derived.Test.YtophaihdibplkaaPFnNamesx
namespace Go.Proofs.Ytophaihdibplkaa.Pure.LFnNames
open Go.RowKit Go.Proofs.Ytophaihdibplkaa.PFnNames Go.Proofs.YtophaihdibplkaaW.PrintWords
open Go.Proofs.Ytophaihdibplkaa.Kit (isTag small digit tagB lowS lowC)
open Go.Proofs.Ytophaihdibplkaa.Kit (small digit big pos_eq neg_eq tagB isTag nameB isName lowC lowS lowS_bytes handler wantJ wantJ_eq keepC badL badFrom badFrom_zero badFrom_full badFrom_nil badFrom_skip badFrom_take indexByte_any markB namesAt namesOK)
theorem isSmall_eq (c : Int) : impl_isSmall.f c = some (small c) := by
  unfold impl_isSmall.f small
  by_cases h : c ≥ 97
  · rw [if_pos h]; simp [h]
  · rw [if_neg h]; simp; omega
theorem isDigit_eq (c : Int) : impl_isDigit.f c = some (digit c) := by
  unfold impl_isDigit.f digit
  by_cases h : c ≥ 48
  · rw [if_pos h]; simp [h]
  · rw [if_neg h]; simp; omega
theorem within_eq (n a b : Int) : impl_within.f n a b = some (decide (a ≤ n ∧ n ≤ b)) := by
  unfold impl_within.f
  by_cases h : n ≥ a
  · rw [if_pos h]; simp [h]
  · rw [if_neg h]; simp; omega
theorem ev_tag_impl (s : ByteArray) (hn : s.size ≤ 9223372036854775807) : Ev (fun k => impl_TagOK.f k s) (isTag s) := by
  have key : ∀ i : Nat, i ≤ s.size → Ev (fun k => impl_TagOK.l0 k s s.size i) (Kit.allB (tagB s) i s.size && decide ((1 : Int) ≤ (s.size : Int) ∧ (s.size : Int) ≤ 12)) := by
    refine Kit.down ?_ ?_
    · refine Ev.step (fun k => rfl) ?_
      refine Kit.ev_neg (by omega) ?_
      refine Kit.ev_some (within_eq _ _ _) ?_
      rw [Kit.allB_end, Bool.true_and]
      exact Ev.now _
    · intro i hi ih
      refine Ev.step (fun k => rfl) ?_
      refine Kit.ev_pos (by omega) (Kit.ev_pos (by omega) (Kit.ev_pos (by omega) ?_))
      rw [Kit.allB_step _ hi, Kit.wrap_nat hi hn]
      have yes : tagB s i = true → Ev (fun k => impl_TagOK.l0 k s s.size ((i + 1 : Nat) : Int)) (tagB s i && Kit.allB (tagB s) (i + 1) s.size && decide ((1 : Int) ≤ (s.size : Int) ∧ (s.size : Int) ≤ 12)) := fun h => by rw [h, Bool.true_and]; exact ih
      have no : tagB s i = false → Ev (fun _ : Nat => some false) (tagB s i && Kit.allB (tagB s) (i + 1) s.size && decide ((1 : Int) ≤ (s.size : Int) ∧ (s.size : Int) ≤ 12)) := fun h => by rw [h, Bool.false_and, Bool.false_and]; exact Ev.now _
      refine Kit.ev_some (isSmall_eq _) (Kit.ev_if (fun h => yes (by simp [tagB, h])) (fun h => ?_))
      refine Kit.ev_if (fun h0 => no ?_) (fun h0 => ?_)
      · simp [tagB, h]; intro h1; omega
      refine Kit.ev_some (isDigit_eq _) (Kit.ev_if (fun h1 => yes ?_) (fun h1 => Kit.ev_if (fun h2 => yes ?_) (fun h2 => no ?_)))
      · simp [tagB, h1]; omega
      · simp [tagB, h2]; omega
      · simp [tagB, h, h1, h2]
  exact key 0 (by omega)
theorem ev_slices_Index (xs : List ByteArray) (t : ByteArray) (hn : xs.length ≤ 9223372036854775807) : Ev (fun k => slices_Index_string_string.f k xs t) (Kit.indexOf t xs 0) := by
  have key : ∀ i, i ≤ xs.length → Ev (fun k => slices_Index_string_string.l0 k xs t xs.length i) (Kit.indexOf t (xs.drop i) i) := by
    refine Kit.down ?_ ?_
    · refine Ev.step (fun k => rfl) ?_
      refine Kit.ev_neg (by omega) ?_
      rw [List.drop_length]
      exact Ev.now _
    · intro i hi ih
      refine Ev.step (fun k => rfl) ?_
      refine Kit.ev_pos (by omega) (Kit.ev_pos (by omega) (Kit.ev_pos (by omega) ?_))
      rw [Kit.drop_getD ByteArray.empty xs i hi, Kit.indexOf, Kit.rdOf_nat, Kit.wrap_nat hi hn]
      refine Kit.ev_if (fun h => ?_) (fun h => ?_)
      · rw [if_pos h]; exact Ev.now _
      · rw [if_neg h]; exact ih
  exact key 0 (by omega)
theorem ev_slices_Contains (xs : List ByteArray) (t : ByteArray) (hn : xs.length ≤ 9223372036854775807) : Ev (fun k => slices_Contains_string_string.f k xs t) (Kit.hasT xs t) := by
  unfold slices_Contains_string_string.f
  refine Ev.bind (ev_slices_Index xs t hn) ?_
  rw [← Kit.indexOf_has xs t 0]
  exact Ev.now _
theorem ev_l01Has (xs : List ByteArray) (t : ByteArray) (hn : xs.length ≤ 9223372036854775807) : Ev (fun k => spec_l01Has.f k xs t) (Kit.hasT xs t) := by
  have key : ∀ i, i ≤ xs.length → Ev (fun k => spec_l01Has.l0 k xs t i) (Kit.hasT (xs.drop i) t) := by
    refine Kit.down ?_ ?_
    · refine Ev.step (fun k => rfl) ?_
      refine Kit.ev_neg (by omega) ?_
      rw [List.drop_length]
      exact Ev.now _
    · intro i hi ih
      refine Ev.step (fun k => rfl) ?_
      refine Kit.ev_pos (by omega) (Kit.ev_pos (by omega) ?_)
      rw [Kit.drop_getD ByteArray.empty xs i hi, Kit.hasT_cons, Kit.rdOf_nat, Kit.wrap_nat hi hn]
      refine Kit.ev_if (fun h => ?_) (fun h => ?_)
      · rw [decide_eq_true h.symm, Bool.true_or]; exact Ev.now _
      · rw [decide_eq_false (fun e => h e.symm), Bool.false_or]; exact ih
  exact key 0 (by omega)
theorem isLong1 (a : ByteArray) : impl_isLong.f [a] = some (decide (65536 < (a.size : Int))) := by
  unfold impl_isLong.f
  rw [if_pos (by simp)]
  simp
open Go.Proofs.Ytophaihdibplkaa.Kit (small digit big pos_eq neg_eq tagB isTag nameB isName lowC lowS lowS_bytes handler wantJ wantJ_eq keepC badL badFrom badFrom_zero badFrom_full badFrom_nil badFrom_skip badFrom_take indexByte_any markB namesAt namesOK)
theorem hasPrefix_eq (a b : ByteArray) : strings_HasPrefix.f a b = some (decide (a.size ≥ b.size) && ((a.extract 0 b.size).toList == b.toList)) := by
  unfold strings_HasPrefix.f stringslite_HasPrefix.f
  by_cases h : (a.size : Int) ≥ (b.size : Int)
  · rw [if_pos h, if_pos (by omega), if_pos h, decide_eq_true (p := a.size ≥ b.size) (by omega)]
    rfl
  · rw [if_neg h, decide_eq_false (p := a.size ≥ b.size) (by omega)]
    rfl
theorem l01Handler_eq (a : ByteArray) : spec_l01Handler.f a = some (handler a) := by
  unfold spec_l01Handler.f handler
  by_cases h : (a.size : Int) > 2
  · rw [if_pos h, if_pos (by omega), if_pos (by omega), decide_eq_true h, Bool.true_and]
  · rw [if_neg h, decide_eq_false h, Bool.false_and]
theorem IsHandler_eq (a : ByteArray) : impl_IsHandler.f a = some (!decide (65536 < (a.size : Int)) && handler a) := by
  unfold impl_IsHandler.f handler
  rw [isLong1, Option.bind_some]
  by_cases h : 65536 < (a.size : Int)
  · rw [if_pos (decide_eq_true h), decide_eq_true h]; rfl
  · rw [if_neg (by simpa using h), decide_eq_false h]
    by_cases h2 : (a.size : Int) > 2
    · rw [if_pos h2, hasPrefix_eq, Option.bind_some, decide_eq_true h2]
      have h3 : a.size ≥ (⟨#[111, 110]⟩ : ByteArray).size := by show a.size ≥ 2; omega
      rw [decide_eq_true h3, Kit.lit_toList #[111, 110]]
      rfl
    · rw [if_neg h2, decide_eq_false h2]; rfl
open Go.Proofs.Ytophaihdibplkaa.Kit (small digit big pos_eq neg_eq tagB isTag nameB isName lowC lowS lowS_bytes handler wantJ wantJ_eq keepC badL badFrom badFrom_zero badFrom_full badFrom_nil badFrom_skip badFrom_take indexByte_any markB namesAt namesOK)
theorem lower_eq (s : ByteArray) (h : s.size ≤ 9223372036854775807) : impl_lower.f s = some (lowS s) := if_pos h
/- What is drawn of a source: bytes, places, texts of a list. -/
def Bytes (l : List Int) : Prop := ∀ x ∈ l, 0 ≤ x ∧ x ≤ 255
/-- The source stands at a place not past n, with a seed in its bounds. -/
def St (n a sd : Int) : Prop := 0 ≤ a ∧ a ≤ n ∧ 0 ≤ sd ∧ sd < 2147483648
theorem draw_byte {l : List Int} (hl : Bytes l) {n a sd : Int} (hn : n < 4611686018427387904) (h : St n a sd) : ∃ b a' sd', spec_l00Src_byte.f l a sd = some (b, a', sd') ∧ (0 ≤ b ∧ b ≤ 255) ∧ St (n + 1) a' sd' := by
  obtain ⟨h0, h1, h2, h3⟩ := h
  unfold spec_l00Src_byte.f
  rw [if_pos ⟨h0, by omega, h2, h3⟩]
  by_cases c : a < (l.length : Int)
  · have hb : 0 ≤ rd l a ∧ rd l a ≤ 255 := by
      have e : rd l a = l.getD a.toNat 0 := rfl
      rw [e]
      exact hl _ (Kit.getD_mem (d := 0) (by omega))
    rw [if_pos c, if_pos hb]
    exact ⟨_, _, _, rfl, hb, by omega, by omega, Int.emod_nonneg _ (by omega), Int.emod_lt_of_pos _ (by omega)⟩
  · rw [if_neg c]
    by_cases c2 : a + 1 > 3000
    · rw [if_pos c2]; exact ⟨_, _, _, rfl, by omega, by omega, by omega, h2, h3⟩
    · rw [if_neg c2]
      exact ⟨_, _, _, rfl, by omega, by omega, by omega, Int.emod_nonneg _ (by omega), Int.emod_lt_of_pos _ (by omega)⟩
theorem draw_next {l : List Int} (hl : Bytes l) {n a sd m : Int} (hn : n < 4611686018427387904) (h : St n a sd) (h1 : 1 ≤ m) (h2 : m ≤ 256) : ∃ v a' sd', spec_l00Src_next.f l a sd m = some (v, a', sd') ∧ (0 ≤ v ∧ v < m) ∧ St (n + 1) a' sd' := by
  unfold spec_l00Src_next.f
  by_cases c : m ≤ 1
  · rw [if_pos c]
    obtain ⟨h0, h3, h4, h5⟩ := h
    exact ⟨_, _, _, rfl, by omega, h0, by omega, h4, h5⟩
  · rw [if_neg c, if_pos h2]
    obtain ⟨b, a', sd', e, hb, hs⟩ := draw_byte hl hn h
    rw [e, Option.bind_some, if_neg (by omega)]
    refine ⟨_, _, _, rfl, ?_, hs⟩
    rw [Int.tmod_eq_emod_of_nonneg hb.1]
    exact ⟨Int.emod_nonneg _ (by omega), Int.emod_lt_of_pos _ (by omega)⟩
theorem draw_pick {l : List Int} (hl : Bytes l) {n a sd : Int} (hn : n < 4611686018427387904) (h : St n a sd) (xs : List ByteArray) (h1 : 1 ≤ xs.length) (h2 : xs.length ≤ 256) : ∃ t a' sd', spec_l00Src_pick.f l a sd xs = some (t, a', sd') ∧ t ∈ xs ∧ St (n + 1) a' sd' := by
  unfold spec_l00Src_pick.f
  rw [if_neg (by omega)]
  obtain ⟨v, a', sd', e, hv, hs⟩ := draw_next hl hn h (m := (xs.length : Int)) (by omega) (by omega)
  rw [e, Option.bind_some, if_pos hv.1, if_pos hv.2]
  refine ⟨_, _, _, rfl, ?_, hs⟩
  have e : rdOf ByteArray.empty xs v = xs.getD v.toNat ByteArray.empty := rfl
  rw [e]
  exact Kit.getD_mem (d := ByteArray.empty) (by omega)
theorem St.source (l : List Int) : St 0 0 ((l.length : Int) % 1000) := ⟨Int.le_refl _, Int.le_refl _, Int.emod_nonneg _ (by omega), by have := Int.emod_lt_of_pos (l.length : Int) (show (0 : Int) < 1000 by omega); omega⟩
theorem Bytes.of (l : List Int) (h : ∀ x ∈ l, (Lit.int .u8 x).wf = true) : Bytes l := fun x hx => by
  have := h x hx
  simpa [Lit.wf, IntKind.min, IntKind.max, IntKind.signed, IntKind.bits] using this
/-- The names that a source draws for tags. -/
def tagsD : List ByteArray := [(⟨#[112]⟩ : ByteArray), (⟨#[100, 105, 118]⟩ : ByteArray), (⟨#[98]⟩ : ByteArray), (⟨#[105]⟩ : ByteArray), (⟨#[97]⟩ : ByteArray), (⟨#[117, 108]⟩ : ByteArray), (⟨#[108, 105]⟩ : ByteArray), (⟨#[105, 109, 103]⟩ : ByteArray), (⟨#[98, 114]⟩ : ByteArray), (⟨#[115, 118, 103]⟩ : ByteArray), (⟨#[109, 97, 116, 104]⟩ : ByteArray), (⟨#[115, 116, 121, 108, 101]⟩ : ByteArray), (⟨#[116, 105, 116, 108, 101]⟩ : ByteArray), (⟨#[115, 99, 114, 105, 112, 116]⟩ : ByteArray), (⟨#[105, 102, 114, 97, 109, 101]⟩ : ByteArray), (⟨#[117, 115, 101]⟩ : ByteArray), (⟨#[116, 101, 109, 112, 108, 97, 116, 101]⟩ : ByteArray), (⟨#[116, 97, 98, 108, 101]⟩ : ByteArray), (⟨#[104, 49]⟩ : ByteArray), (⟨#[120, 45, 121]⟩ : ByteArray), (⟨#[111, 98, 106, 101, 99, 116]⟩ : ByteArray), (⟨#[120, 109, 112]⟩ : ByteArray)]
theorem tagsD_ok : ∀ t ∈ tagsD, Kit.isTag t = true ∧ t.size ≤ 100 := by
  have h : tagsD.all (fun t => Kit.isTag t && decide (t.size ≤ 100)) = true := by kernel_rfl
  intro t ht
  have := List.all_eq_true.1 h t ht
  simpa using this
theorem draw_tag {l : List Int} (hl : Bytes l) {n a sd : Int} (hn : n < 4611686018427387904) (h : St n a sd) : ∃ t a' sd', spec_l00Src_tag.f l a sd = some (t, a', sd') ∧ t ∈ tagsD ∧ St (n + 1) a' sd' := by
  obtain ⟨t, a', sd', e, ht, hs⟩ := draw_pick hl hn h tagsD (by decide) (by decide)
  refine ⟨t, a', sd', ?_, ht, hs⟩
  show (spec_l00Src_pick.f l a sd tagsD).bind _ = _
  rw [e]
  rfl
theorem both_IsVoid (a : ByteArray) : ∃ v, Ev (fun k => impl_IsVoid.f k a) v ∧ Ev (fun k => spec_IsVoid.f k a) v := by
  have hi : Ev (fun k => impl_IsVoid.f k a) _ := Ev.bind (ev_slices_Contains _ a (by decide)) (Ev.now _)
  have hl : Ev (fun k => spec_l01Void.f k a) _ := Ev.bind (ev_l01Has _ a (by decide)) (Ev.now _)
  have hs : Ev (fun k => spec_IsVoid.f k a) _ := Kit.ev_if (fun h => Kit.ev_const (congrArg some (Kit.hasT_long a (by omega) (by decide)).symm)) (fun _ => Ev.bind hl (Ev.now _))
  exact ⟨_, hi, hs⟩
theorem both_IsRaw (a : ByteArray) : ∃ v, Ev (fun k => impl_IsRaw.f k a) v ∧ Ev (fun k => spec_IsRaw.f k a) v := by
  have hi : Ev (fun k => impl_IsRaw.f k a) _ := Ev.bind (ev_slices_Contains _ a (by decide)) (Ev.now _)
  have hl : Ev (fun k => spec_l01Raw.f k a) _ := Ev.bind (ev_l01Has _ a (by decide)) (Ev.now _)
  have hs : Ev (fun k => spec_IsRaw.f k a) _ := Kit.ev_if (fun h => Kit.ev_const (congrArg some (Kit.hasT_long a (by omega) (by decide)).symm)) (fun _ => Ev.bind hl (Ev.now _))
  exact ⟨_, hi, hs⟩
theorem both_BreaksOut (a : ByteArray) : ∃ v, Ev (fun k => impl_BreaksOut.f k a) v ∧ Ev (fun k => spec_BreaksOut.f k a) v := by
  have hi : Ev (fun k => impl_BreaksOut.f k a) _ := Ev.bind (ev_slices_Contains _ a (by decide)) (Ev.now _)
  have hl : Ev (fun k => spec_l01Out.f k a) _ := Ev.bind (ev_l01Has _ a (by decide)) (Ev.now _)
  have hs : Ev (fun k => spec_BreaksOut.f k a) _ := Kit.ev_if (fun h => Kit.ev_const (congrArg some (Kit.hasT_long a (by omega) (by decide)).symm)) (fun _ => Ev.bind hl (Ev.now _))
  exact ⟨_, hi, hs⟩
theorem both_IsBanned (a : ByteArray) : ∃ v, Ev (fun k => impl_IsBanned.f k a) v ∧ Ev (fun k => spec_IsBanned.f k a) v := by
  have hi : Ev (fun k => impl_IsBanned.f k a) _ := Ev.bind (ev_slices_Contains _ a (by decide)) (Ev.now _)
  have hl : Ev (fun k => spec_l01Banned.f k a) _ := Ev.bind (ev_l01Has _ a (by decide)) (Ev.now _)
  have hs : Ev (fun k => spec_IsBanned.f k a) _ := Kit.ev_if (fun h => Kit.ev_const (congrArg some (Kit.hasT_long a (by omega) (by decide)).symm)) (fun _ => Ev.bind hl (Ev.now _))
  exact ⟨_, hi, hs⟩
theorem both_IsLink (a : ByteArray) : ∃ v, Ev (fun k => impl_IsLink.f k a) v ∧ Ev (fun k => spec_IsLink.f k a) v := by
  have hi : Ev (fun k => impl_IsLink.f k a) _ := Ev.bind (ev_slices_Contains _ a (by decide)) (Ev.now _)
  have hl : Ev (fun k => spec_l01Link.f k a) _ := Ev.bind (ev_l01Has _ a (by decide)) (Ev.now _)
  have hs : Ev (fun k => spec_IsLink.f k a) _ := Kit.ev_if (fun h => Kit.ev_const (congrArg some (Kit.hasT_long a (by omega) (by decide)).symm)) (fun _ => Ev.bind hl (Ev.now _))
  exact ⟨_, hi, hs⟩
theorem both_IsHandler (a : ByteArray) : ∃ v, impl_IsHandler.f a = some v ∧ spec_IsHandler.f a = some v := by
  refine ⟨_, IsHandler_eq a, ?_⟩
  unfold spec_IsHandler.f
  by_cases h2 : (a.size : Int) > 65536
  · rw [if_pos h2, decide_eq_true (p := 65536 < (a.size : Int)) (by omega)]; rfl
  · rw [if_neg h2, l01Handler_eq, decide_eq_false (p := 65536 < (a.size : Int)) (by omega)]; simp
theorem both_SpaceOf (a : ByteArray) (h : a.size ≤ 100) : ∃ v, impl_SpaceOf.f a = some v ∧ spec_SpaceOf.f a = some v := by
  unfold spec_SpaceOf.f impl_SpaceOf.f spec_l01Space.f
  rw [if_neg (show ¬ (a.size : Int) > 65536 by omega)]
  by_cases h1 : a.toList = ([115, 118, 103] : List UInt8)
  · rw [if_pos h1]; exact ⟨_, rfl, rfl⟩
  · rw [if_neg h1]
    by_cases h2 : a.toList = ([109, 97, 116, 104] : List UInt8)
    · rw [if_pos h2]; exact ⟨_, rfl, rfl⟩
    · rw [if_neg h2]; exact ⟨_, rfl, rfl⟩
theorem at_some (l : List Int) (i : Nat) (hi : i ≤ 1000) : ∃ v, laws_at.f l (i : Int) 2 = some v := by
  unfold laws_at.f
  rw [if_neg (by omega)]
  by_cases h : (l.length : Int) = 0
  · rw [if_pos h, if_neg (by omega)]; exact ⟨_, rfl⟩
  · have hp : 0 < (l.length : Int) := by omega
    have e1 : Int.tmod (i : Int) (l.length : Int) = (i : Int) % (l.length : Int) := Int.tmod_eq_emod_of_nonneg (by omega)
    have e2 : Int.tmod (wrap64 ((i : Int) + 1)) (l.length : Int) = ((i : Int) + 1) % (l.length : Int) := by rw [Kit.wrap_of (i := (i : Int) + 1) (by omega) (by omega)]; exact Int.tmod_eq_emod_of_nonneg (by omega)
    rw [if_neg h, e1, e2, if_pos (Int.emod_nonneg _ (by omega)), if_pos (Int.emod_lt_of_pos _ hp), if_pos (Int.emod_nonneg _ (by omega)), if_pos (Int.emod_lt_of_pos _ hp), if_neg (by omega)]
    exact ⟨_, rfl⟩
/-- The names that a source draws for attributes. -/
def attrsD : List ByteArray := [(⟨#[104, 114, 101, 102]⟩ : ByteArray), (⟨#[115, 114, 99]⟩ : ByteArray), (⟨#[99, 108, 97, 115, 115]⟩ : ByteArray), (⟨#[105, 100]⟩ : ByteArray), (⟨#[111, 110, 99, 108, 105, 99, 107]⟩ : ByteArray), (⟨#[111, 110, 108, 111, 97, 100]⟩ : ByteArray), (⟨#[111, 110]⟩ : ByteArray), (⟨#[100, 97, 116, 97, 45, 120]⟩ : ByteArray), (⟨#[116, 105, 116, 108, 101]⟩ : ByteArray), (⟨#[97, 99, 116, 105, 111, 110]⟩ : ByteArray), (⟨#[115, 116, 121, 108, 101]⟩ : ByteArray), (⟨#[120, 108, 105, 110, 107, 45, 104, 114, 101, 102]⟩ : ByteArray)]
theorem attrsD_ok : ∀ t ∈ attrsD, isTag t = true ∧ t.size ≤ 100 := by
  have h : attrsD.all (fun t => isTag t && decide (t.size ≤ 100)) = true := by kernel_rfl
  intro t ht
  have := List.all_eq_true.1 h t ht
  simpa using this
theorem draw_attr {l : List Int} (hl : Bytes l) : ∃ t v, spec_AttrDrawn.f l = some (t, v) ∧ t ∈ attrsD := by
  obtain ⟨t, a1, s1, e1, ht, h1⟩ := draw_pick hl (by omega) (St.source l) attrsD (by decide) (by decide)
  obtain ⟨v, a2, s2, e2, _, _⟩ := draw_pick hl (by omega) h1 [(⟨#[]⟩ : ByteArray), (⟨#[120]⟩ : ByteArray), (⟨#[47, 97, 63, 98, 61, 49, 38, 99]⟩ : ByteArray), (⟨#[106, 97, 118, 97, 115, 99, 114, 105, 112, 116, 58, 97, 108, 101, 114, 116, 40, 49, 41]⟩ : ByteArray), (⟨#[32, 74, 97, 118, 97, 83, 99, 114, 105, 112, 116, 58, 120]⟩ : ByteArray), (⟨#[106, 97, 118, 97, 9, 115, 99, 114, 105, 112, 116, 58, 120]⟩ : ByteArray), (⟨#[34, 113, 34]⟩ : ByteArray), (⟨#[60, 98, 62]⟩ : ByteArray), (⟨#[38, 97, 109, 112, 59]⟩ : ByteArray), (⟨#[104, 116, 116, 112, 115, 58, 120]⟩ : ByteArray), (⟨#[106, 97, 118, 97, 32, 115, 99, 114, 105, 112, 116, 58]⟩ : ByteArray), (⟨#[97, 32, 98]⟩ : ByteArray)] (by decide) (by decide)
  refine ⟨t, v, ?_, ht⟩
  have en : spec_l00Src_attrName.f l 0 ((l.length : Int) % 1000) = some (t, a1, s1) := by
    generalize (l.length : Int) % 1000 = sd at *
    unfold spec_l00Src_attrName.f
    unfold attrsD at e1
    rw [e1, Option.bind_some]
  have ev : spec_l00Src_value.f l a1 s1 = some (v, a2, s2) := by
    unfold spec_l00Src_value.f
    rw [e2]; rfl
  unfold spec_AttrDrawn.f
  have es : spec_l00Source.f l = some (l, 0, (l.length : Int) % 1000) := by unfold spec_l00Source.f; exact rfl
  rw [es, Option.bind_some]
  dsimp only
  rw [en, Option.bind_some]
  dsimp only
  rw [ev, Option.bind_some]
/-- x is c, or its great letter. -/
def Turned (x c : Int) : Prop := x = c ∨ (97 ≤ c ∧ c ≤ 122 ∧ x = c - 32)
theorem tag_byte {n : ByteArray} (h : isTag n = true) (j : Nat) (hj : j < n.size) : (97 ≤ bt n j ∧ bt n j ≤ 122) ∨ (48 ≤ bt n j ∧ bt n j ≤ 57) ∨ bt n j = 45 := by
  unfold isTag at h
  rw [Bool.and_eq_true] at h
  have := (Kit.allB_iff _ _ _).1 h.1 j (Nat.zero_le _) hj
  simp [tagB, small, digit] at this
  omega
theorem turned_end {n : ByteArray} (h : isTag n = true) (xs : List Int) (hl : xs.length = n.size) (hx : ∀ j, j < n.size → Turned (xs.getD j 0) (bt n (j : Int))) :
    (strOfNums xs).size = n.size ∧ lowS (strOfNums xs) = n ∧ isTag (strOfNums xs) = ((strOfNums xs).toList == n.toList) := by
  have hb : ∀ x ∈ xs, 0 ≤ x ∧ x ≤ 255 := by
    intro x hm
    obtain ⟨j, hj, rfl⟩ := List.getElem_of_mem hm
    have h1 := hx j (by omega)
    have h2 := tag_byte h j (by omega)
    rw [List.getD_eq_getElem?_getD, List.getElem?_eq_getElem hj] at h1
    simp only [Option.getD_some, Turned] at h1
    omega
  have eb := Kit.bytesOf_strOf hb
  have es : (strOfNums xs).size = n.size := by rw [Kit.size_eq, eb, hl]
  have hat : ∀ j : Nat, bt (strOfNums xs) (j : Int) = xs.getD j 0 := fun j => by rw [Kit.bt_rd, eb]
  have lc : (bytesOf n).length = n.size := (Kit.size_eq n).symm
  refine ⟨es, ?_, ?_⟩
  · apply Kit.bytesOf_inj
    rw [Kit.lowS_bytes, eb]
    apply List.ext_getElem
    · rw [List.length_map, hl, lc]
    · intro j h1 h2
      rw [List.getElem_map]
      have hj : j < n.size := by rw [List.length_map, hl] at h1; exact h1
      have h3 := hx j hj
      have h4 := tag_byte h j hj
      rw [Kit.bt_rd] at h3 h4
      rw [List.getD_eq_getElem?_getD, List.getElem?_eq_getElem (by omega), List.getD_eq_getElem?_getD, List.getElem?_eq_getElem (by omega)] at h3
      rw [List.getD_eq_getElem?_getD, List.getElem?_eq_getElem (by omega)] at h4
      simp only [Option.getD_some] at h3 h4
      unfold Turned at h3
      unfold lowC
      rcases h3 with h3 | h3
      · rw [if_neg (by omega)]; exact h3
      · rw [if_pos (by omega)]; omega
  · rw [Kit.toList_beq, eb]
    by_cases e : xs = bytesOf n
    · rw [decide_eq_true e]
      have : strOfNums xs = n := by rw [e]; exact Kit.strOf_bytesOf n
      rw [this, h]
    · rw [decide_eq_false e]
      have hne : ∃ j, j < n.size ∧ xs.getD j 0 ≠ bt n (j : Int) := by
        apply Classical.byContradiction
        intro hno
        apply e
        apply List.ext_getElem
        · rw [hl, lc]
        · intro j h1 h2
          apply Classical.byContradiction
          intro hd
          refine hno ⟨j, by omega, ?_⟩
          rw [Kit.bt_rd, List.getD_eq_getElem?_getD, List.getElem?_eq_getElem h1, List.getD_eq_getElem?_getD, List.getElem?_eq_getElem h2]
          exact hd
      obtain ⟨j, hj, hd⟩ := hne
      have h3 := hx j hj
      unfold Turned at h3
      rw [Bool.eq_false_iff]
      intro ht
      have h5 := tag_byte ht j (by omega)
      rw [hat] at h5
      omega
/-- A name's round. -/
theorem round_ok (more : List Int) (names : List ByteArray) (hall : ∀ n ∈ names, isTag n = true ∧ n.size ≤ 100) (hn : names.length ≤ 1000) : ∀ i, i ≤ names.length → Ev (fun k => laws_FnNames.l0 k more names (i : Int)) true := by
  refine Kit.down ?_ ?_
  · exact Ev.step (f := fun _ => some true) (fun k => by rw [laws_FnNames.l0, if_neg (by omega)]) (Ev.now _)
  · intro i hi ih
    have hm := Kit.getD_mem ByteArray.empty hi
    obtain ⟨ht, hz⟩ := hall _ hm
    have er : rdOf ByteArray.empty names (i : Int) = names.getD i ByteArray.empty := Kit.rdOf_nat _ _ _
    have ew : wrap64 ((i : Int) + 1) = ((i + 1 : Nat) : Int) := Kit.wrap_nat hi (by omega)
    refine Ev.step (fun k => by rw [laws_FnNames.l0, if_pos (by omega), if_pos (by omega), er]) ?_
    generalize names.getD i ByteArray.empty = n at *
    have loop : ∀ j, j ≤ n.size → ∀ xs : List Int, xs.length = j → (∀ m, m < j → Turned (xs.getD m 0) (bt n (m : Int))) → Ev (fun k => laws_FnNames.l1 k more names (i : Int) n xs (j : Int)) true := by
      refine Kit.down ?_ ?_
      · intro xs hl hx
        obtain ⟨e1, e2, e3⟩ := turned_end ht xs hl hx
        have hlow : impl_LowerOf.f (strOfNums xs) = some n := by
          unfold impl_LowerOf.f
          rw [isLong1, Option.bind_some, decide_eq_false (show ¬ (65536 : Int) < ((strOfNums xs).size : Int) by omega), if_neg Bool.false_ne_true, lower_eq _ (by omega), e2]
          rfl
        refine Ev.step (fun k => by rw [laws_FnNames.l1, if_neg (by omega)]) (Kit.ev_some hlow (Kit.ev_pos rfl (Ev.bind (ev_tag_impl (strOfNums xs) (by omega)) ?_)))
        rw [e3, ew]
        exact Kit.ev_neg (by simp) ih
      · intro j hj ihj xs hl hx
        have ewj : wrap64 ((j : Int) + 1) = ((j + 1 : Nat) : Int) := Kit.wrap_nat hj (by omega)
        have next : ∀ y, Turned y (bt n (j : Int)) → Ev (fun k => if xs.length < 140737488355328 then laws_FnNames.l1 k more names (i : Int) n (xs ++ [y]) (wrap64 ((j : Int) + 1)) else none) true := by
          intro y hy
          rw [ewj]
          refine Kit.ev_pos (by omega) (ihj _ (by simp [hl]) ?_)
          intro m hm
          by_cases e : m = j
          · subst e
            rw [List.getD_eq_getElem?_getD, List.getElem?_append_right (by omega), hl, Nat.sub_self]
            exact hy
          · have := hx m (by omega)
            rw [List.getD_eq_getElem?_getD, List.getElem?_append_left (by omega), ← List.getD_eq_getElem?_getD]
            exact this
        refine Ev.step (fun k => by rw [laws_FnNames.l1, if_pos (by omega), if_pos (by omega)]) ?_
        refine Kit.ev_if (fun c1 => Kit.ev_if (fun c2 => ?_) (fun _ => next _ (.inl rfl))) (fun _ => next _ (.inl rfl))
        obtain ⟨v, hv⟩ := at_some more j (by omega)
        refine Kit.ev_some hv (Kit.ev_if (fun _ => ?_) (fun _ => next _ (.inl rfl)))
        have e5 : (bt n (j : Int) - 32) % 256 = bt n (j : Int) - 32 := by omega
        rw [e5]
        exact next _ (.inr ⟨c1, c2, rfl⟩)
    have hj2 : Ev (fun k => laws_FnNames.j2 k more names (i : Int) n false) true := by
      refine Ev.step (f := fun k => laws_FnNames.l1 k more names (i : Int) n [] 0) (fun k => by rw [laws_FnNames.j2, if_neg Bool.false_ne_true]) (loop 0 (Nat.zero_le _) [] rfl (fun m hm => absurd hm (Nat.not_lt_zero _)))
    obtain ⟨v1, a1, b1⟩ := both_IsVoid n
    obtain ⟨v2, a2, b2⟩ := both_IsRaw n
    obtain ⟨v3, a3, b3⟩ := both_BreaksOut n
    obtain ⟨v4, a4, b4⟩ := both_IsBanned n
    obtain ⟨v5, a5, b5⟩ := both_IsHandler n
    obtain ⟨v6, a6, b6⟩ := both_IsLink n
    obtain ⟨v7, a7, b7⟩ := both_SpaceOf n hz
    refine Ev.bind a1 (Ev.bind b1 (Kit.ev_neg (by simp) (Ev.bind a2 (Ev.bind b2 (Kit.ev_neg (by simp) (Ev.bind a3 (Ev.bind b3 (Kit.ev_neg (by simp) (Ev.bind a4 (Ev.bind b4 (Kit.ev_neg (by simp) (Kit.ev_some a5 (Kit.ev_some b5 (Kit.ev_neg (by simp) (Ev.bind a6 (Ev.bind b6 (Kit.ev_neg (by simp) (Kit.ev_some a7 (Kit.ev_some b7 (Kit.ev_pos rfl (Ev.bind (ev_tag_impl n (by omega)) ?_)))))))))))))))))))))
    rw [ht]
    exact hj2
def restD : List ByteArray := [(⟨#[101, 109, 98, 101, 100]⟩ : ByteArray), (⟨#[102, 114, 97, 109, 101]⟩ : ByteArray), (⟨#[98, 97, 115, 101]⟩ : ByteArray), (⟨#[109, 101, 116, 97]⟩ : ByteArray), (⟨#[104, 49]⟩ : ByteArray), (⟨#[111, 110, 120]⟩ : ByteArray), (⟨#[111, 110]⟩ : ByteArray)]
theorem restD_ok : ∀ t ∈ restD, isTag t = true ∧ t.size ≤ 100 := by
  have h : restD.all (fun t => isTag t && decide (t.size ≤ 100)) = true := by kernel_rfl
  intro t ht
  have := List.all_eq_true.1 h t ht
  simpa using this
theorem proved : laws_FnNames.Pure := by
  intro code more h1 _ hw h2 _ hw2
  refine Ev.rounds (g := fun k => laws_FnNames.f k code more) ?_
  have hj : ∀ b, Ev (fun k => laws_FnNames.j0 k code more b) true := by
    intro b
    cases b with
    | true => exact Ev.step (fun k => by rw [laws_FnNames.j0]) (Kit.ev_pos rfl (Ev.now _))
    | false =>
      have td : ∀ l : List Int, Bytes l → ∃ t, spec_TagDrawn.f l = some t ∧ t ∈ tagsD := by
        intro l hl
        obtain ⟨t, a', sd', e, ht, _⟩ := draw_tag hl (by omega) (St.source l)
        refine ⟨t, ?_, ht⟩
        unfold spec_TagDrawn.f
        have es : spec_l00Source.f l = some (l, 0, (l.length : Int) % 1000) := by unfold spec_l00Source.f; exact rfl
        rw [es, Option.bind_some]
        dsimp only
        rw [e, Option.bind_some]
      obtain ⟨t1, e1, m1⟩ := td code (Bytes.of code hw)
      obtain ⟨t2, e2, m2⟩ := td more (Bytes.of more hw2)
      obtain ⟨t3, v3, e3, m3⟩ := draw_attr (Bytes.of code hw)
      refine Ev.step (f := fun k => laws_FnNames.l0 k more (t1 :: t2 :: t3 :: restD) ((0 : Nat) : Int)) (fun k => ?_) ?_
      · rw [laws_FnNames.j0, if_neg Bool.false_ne_true, e1, Option.bind_some, e2, Option.bind_some, e3, Option.bind_some]
        rfl
      refine round_ok more (t1 :: t2 :: t3 :: restD) ?_ (by simp only [List.length_cons, restD, List.length_nil]; omega) 0 (Nat.zero_le _)
      intro t ht
      rcases List.mem_cons.1 ht with rfl | ht
      · exact tagsD_ok _ m1
      · rcases List.mem_cons.1 ht with rfl | ht
        · exact tagsD_ok _ m2
        · rcases List.mem_cons.1 ht with rfl | ht
          · exact attrsD_ok _ m3
          · exact restD_ok t ht
  unfold laws_FnNames.f
  exact Kit.ev_if (fun _ => hj _) (fun _ => hj _)
end Go.Proofs.Ytophaihdibplkaa.Pure.LFnNames
namespace Go.Proofs.Ytophaihdibplkaa.Pure
theorem FnNames : PFnNames.laws_FnNames.Pure := LFnNames.proved
end Go.Proofs.Ytophaihdibplkaa.Pure
