/- The pure statement of FnExactSafeDocs: of every list of calls both functions tell the same, and marks stay apart. No conditions. -/
import Derived.Test.YtophaihdibplkaaKit
import Derived.Test.YtophaihdibplkaaOpensFnExactSafeDocs
namespace Go.Proofs.Ytophaihdibplkaa.Pure.LSafeDocs
open Go.RowKit Go.Proofs.Ytophaihdibplkaa.PFnExactSafeDocs Go.Proofs.YtophaihdibplkaaW.PrintWords
/- Calls: size, form of the program's kind, likeness; what a call is. -/
theorem rd_nat (xs : List Int) (i : Nat) : rd xs (i : Int) = xs.getD i 0 := by simp [rd]
theorem ex_szCall (x : S24) (l : Int) (h0 : 0 ≤ l) (h1 : l ≤ 1048576) (hg : G24 x) : ∃ t, laws_szCall.f x.f0 x.f1 x.f2 x.f3 x.f4 x.f5 l = some t ∧ (0 ≤ t → t ≤ l ∧ x.f3.length ≤ 1048576 ∧ x.f4.size ≤ 1048576 ∧ x.f5.size ≤ 1048576) := by
  obtain ⟨_, _, _, g3, g4, g5⟩ := hg
  have g3 := g3.1
  unfold Open.Short at g4 g5
  have w3 : wrap64 (l - (x.f3.length : Int)) = l - (x.f3.length : Int) := Kit.wrap_of (by omega) (by omega)
  unfold laws_szCall.f laws_szIntS.f
  rw [w3]
  by_cases n3 : l - (x.f3.length : Int) < 0
  case pos => exact ⟨-1, by rw [if_pos n3]; rfl, fun h => absurd h (by omega)⟩
  case neg =>
    have w4 : wrap64 (l - (x.f3.length : Int) - (x.f4.size : Int)) = l - (x.f3.length : Int) - (x.f4.size : Int) := Kit.wrap_of (by omega) (by omega)
    rw [if_neg n3, Option.bind_some, if_neg n3, w4]
    by_cases n4 : l - (x.f3.length : Int) - (x.f4.size : Int) < 0
    case pos => exact ⟨-1, by rw [if_pos n4], fun h => absurd h (by omega)⟩
    case neg =>
      have w5 : wrap64 (l - (x.f3.length : Int) - (x.f4.size : Int) - (x.f5.size : Int)) = l - (x.f3.length : Int) - (x.f4.size : Int) - (x.f5.size : Int) := Kit.wrap_of (by omega) (by omega)
      rw [if_neg n4, w5]
      by_cases n5 : l - (x.f3.length : Int) - (x.f4.size : Int) - (x.f5.size : Int) < 0
      case pos => exact ⟨-1, by rw [if_pos n5], fun h => absurd h (by omega)⟩
      case neg => exact ⟨_, by rw [if_neg n5], fun h => ⟨by omega, by omega, by omega, by omega⟩⟩
theorem ev_toIntS (xs : List Int) (hn : xs.length ≤ 1048576) : Ev (fun k => laws_toIntS.f k xs) xs := by
  unfold laws_toIntS.f
  refine Kit.ev_pos (by omega) (Kit.ev_pos (by omega) ?_)
  rw [Int.toNat_natCast]
  have h := Kit.ev_conv (0 : Int) (xs := xs) (c := fun x => x) (L := fun k acc i => laws_toIntS.l0 k xs acc i) (fun acc hl => Ev.step (fun k => rfl) (Kit.ev_neg (by omega) (Ev.now _)))
    (fun i hi acc r hl ih => by
      refine Ev.step (fun k => rfl) (Kit.ev_pos (by omega) (Kit.ev_pos (by omega) (Kit.ev_pos (by omega) ?_)))
      rw [rd_nat, Kit.wrap_nat hi (by omega), Int.toNat_natCast]
      exact ih) (List.replicate xs.length 0) (by rw [List.length_replicate])
  rwa [List.map_id'] at h
theorem ev_toCall (x : S24) (h : x.f3.length ≤ 1048576) : Ev (fun k => laws_toCall.f k x.f0 x.f1 x.f2 x.f3 x.f4 x.f5) (x.f0, x.f1, x.f2, x.f3, x.f4, x.f5) := by
  unfold laws_toCall.f
  exact Ev.bind (ev_toIntS x.f3 h) (Ev.now _)
theorem ev_eqIntS (xs : List Int) (hn : xs.length ≤ 1048576) : Ev (fun k => laws_eqIntS.f k xs xs) true := by
  unfold laws_eqIntS.f
  refine Kit.ev_pos rfl (Kit.ev_refl (n := xs.length) (L := fun k i => laws_eqIntS.l0 k xs xs i) (Ev.step (fun k => rfl) (Kit.ev_neg (by omega) (Ev.now _))) ?_)
  intro i hi ih
  refine Ev.step (fun k => rfl) (Kit.ev_pos (by omega) (Kit.ev_pos (by omega) (Kit.ev_pos (by omega) (Kit.ev_pos rfl ?_))))
  rw [Kit.wrap_nat hi (by omega)]
  exact ih
theorem ev_eqCall (x : S24) (h : x.f3.length ≤ 1048576) : Ev (fun k => laws_eqCall.f k x.f0 x.f1 x.f2 x.f3 x.f4 x.f5 x.f0 x.f1 x.f2 x.f3 x.f4 x.f5) true := by
  unfold laws_eqCall.f
  exact Kit.ev_pos rfl (Kit.ev_pos rfl (Kit.ev_pos rfl (Ev.bind (ev_eqIntS x.f3 h) (Kit.ev_pos rfl (Kit.ev_pos rfl (Kit.ev_pos rfl (Ev.now _)))))))
theorem hasConfig_eq (k : Int) : impl_hasConfig.f k = some (hasCfg k) := by
  unfold impl_hasConfig.f hasCfg
  by_cases h : k = 6
  case pos => subst h; rfl
  case neg => simp [h]
theorem hasPath_eq (k : Int) : impl_hasPath.f k = some (hasPathB k) := by
  unfold impl_hasPath.f hasPathB impl_within.f
  by_cases h : 2 ≤ k ∧ k ≤ 5
  case pos =>
    have : k = 2 ∨ k = 3 ∨ k = 4 ∨ k = 5 := by omega
    rcases this with rfl | rfl | rfl | rfl <;> rfl
  case neg =>
    have h2 : k ≠ 2 := by omega
    have h3 : k ≠ 3 := by omega
    have h4 : k ≠ 4 := by omega
    have h5 : k ≠ 5 := by omega
    rw [beq_eq_false_iff_ne.2 h2, beq_eq_false_iff_ne.2 h3, beq_eq_false_iff_ne.2 h4, beq_eq_false_iff_ne.2 h5]
    by_cases h6 : k ≥ 2
    case pos => rw [if_pos h6]; simp; omega
    case neg => rw [if_neg h6]; rfl
theorem hasName_eq (k : Int) : impl_hasName.f k = some (hasNameB k) := by
  unfold impl_hasName.f hasNameB
  by_cases h : k = 1
  case pos => subst h; rfl
  case neg =>
    by_cases h2 : k = 2
    case pos => subst h2; rfl
    case neg => simp [h, h2]
theorem hasText_eq (k : Int) : impl_hasText.f k = some (hasTextB k) := by
  unfold impl_hasText.f hasTextB
  by_cases h : k = 3
  case pos => subst h; rfl
  case neg =>
    by_cases h2 : k = 4
    case pos => subst h2; rfl
    case neg =>
      by_cases h3 : k = 6
      case pos => subst h3; rfl
      case neg => simp [h, h2, h3]
theorem withinR (n a b : Int) : impl_within.f n a b = some (inR n a b) := by
  unfold impl_within.f inR
  by_cases h : n ≥ a
  case pos => rw [if_pos h]; simp [h]
  case neg => rw [if_neg h]; simp; omega
theorem isPath_eq (l : List Int) : impl_isPath.f l = some (decide (l.length ≤ 10) && Kit.allB (pathAt l) 0 l.length) := by
  unfold impl_isPath.f
  congr 1
  congr 1
  rw [Bool.eq_iff_iff, Kit.allB_iff]
  constructor
  case mp =>
    intro h j _ hj
    rw [Bool.not_eq_true', Bool.eq_false_iff] at h
    unfold pathAt
    cases hq : inR (l.getD j 0) 0 60 with
    | true => rfl
    | false => exact absurd (List.any_eq_true.2 ⟨l.getD j 0, Kit.getD_mem _ hj, by unfold inR at hq; rw [hq]; rfl⟩) h
  case mpr =>
    intro h
    rw [Bool.not_eq_true', Bool.eq_false_iff]
    intro h2
    obtain ⟨y, hy, h3⟩ := List.any_eq_true.1 h2
    obtain ⟨j, hj, rfl⟩ := List.getElem_of_mem hy
    have h4 := h j (Nat.zero_le _) hj
    unfold pathAt at h4
    rw [List.getD_eq_getElem?_getD, List.getElem?_eq_getElem hj] at h4
    unfold inR at h4
    rw [show decide (0 ≤ l[j] ∧ l[j] ≤ 60) = true from h4] at h3
    cases h3
def textV (k : Int) (text : ByteArray) : Bool := text.toList == ([] : List UInt8) || (hasTextB k && decide (text.size ≤ 4096))
def pathV (k : Int) (path : List Int) : Bool := decide (path.length = 0) || (hasPathB k && (decide (path.length ≤ 10) && Kit.allB (pathAt path) 0 path.length))
def cfgV (k cfg : Int) : Bool := cfg == 0 || (hasCfg k && inR cfg 0 3)
theorem boolFact : ∀ l10 t4 bc c3 c0 bp l0 bt t0 al n : Bool, (c0 = true → c3 = true) → (l0 = true → l10 = true) → (l0 = true → al = true) → (t0 = true → t4 = true) → (if l10 = true then (if t4 = true then (if ((if bc = true then c3 else c0) && (if bp = true then true else l0) && (if bt = true then true else t0)) = true then (if al = true then n else false) else false) else false) else false) = (n && ((t0 || (bt && t4)) && ((l0 || (bp && (l10 && al))) && (c0 || (bc && c3))))) := by decide
theorem callB_eq (k doc cfg : Int) (path : List Int) (name text : ByteArray) : callB k doc cfg path name text = if inR k 1 9 = true then (if inR doc 0 5 = true then (callName k name && (textV k text && (pathV k path && cfgV k cfg))) else false) else false := by
  have h := boolFact (decide (path.length ≤ 10)) (decide (text.size ≤ 4096)) (hasCfg k) (inR cfg 0 3) (cfg == 0) (hasPathB k) (decide (path.length = 0)) (hasTextB k) (text.toList == ([] : List UInt8)) (Kit.allB (pathAt path) 0 path.length) (callName k name)
    (fun h => by
      have h0 : cfg = 0 := by simpa using h
      subst h0
      rfl) (fun h => by have := of_decide_eq_true h; exact decide_eq_true (by omega))
    (fun h => by have := of_decide_eq_true h; exact (Kit.allB_iff _ _ _).2 fun j _ hj => by omega)
    (fun h => by
      have h2 : text.toList = [] := by simpa using h
      have := Kit.size_toList text
      rw [h2] at this
      exact decide_eq_true (by simp at this; omega))
  simp only [decide_eq_true_eq] at h
  unfold callB callTail callHas textV pathV cfgV
  rw [h]
theorem j2_eq (k : Nat) (b t : Bool) (f0 f1 f2 : Int) (f3 : List Int) (f4 f5 : ByteArray) : impl_CallOK.j2 (k + 1) b t f0 f1 f2 f3 f4 f5 = some (b && (t && (pathV f0 f3 && cfgV f0 f2))) := by
  rw [impl_CallOK.j2]
  simp only [hasConfig_eq, hasPath_eq, withinR, isPath_eq, Option.bind_some]
  unfold pathV cfgV
  generalize (decide (f3.length ≤ 10) && Kit.allB (pathAt f3) 0 f3.length) = ip
  generalize hasCfg f0 = hc
  generalize hasPathB f0 = hp
  generalize inR f2 0 3 = c3
  by_cases hl : f3.length = 0
  case pos =>
    rw [decide_eq_true hl, if_pos (by omega)]
    by_cases h2 : f2 = 0
    case pos => subst h2; cases b <;> cases t <;> rfl
    case neg => rw [if_neg h2, beq_eq_false_iff_ne.2 h2]; cases b <;> cases t <;> cases hc <;> cases c3 <;> rfl
  case neg =>
    rw [decide_eq_false hl, if_neg (by omega)]
    by_cases h2 : f2 = 0
    case pos => subst h2; cases b <;> cases t <;> cases hp <;> cases ip <;> rfl
    case neg =>
      rw [beq_eq_false_iff_ne.2 h2]
      simp only [if_neg h2]
      cases b <;> cases t <;> cases hp <;> cases ip <;> cases hc <;> cases c3 <;> rfl
theorem ev_implCall (f0 f1 f2 : Int) (f3 : List Int) (f4 f5 : ByteArray) (hs : f4.size ≤ 9223372036854775807) : Ev (fun k => impl_CallOK.f k f0 f1 f2 f3 f4 f5) (callB f0 f1 f2 f3 f4 f5) := by
  have e2 : ∀ b t, Ev (fun k => impl_CallOK.j2 k b t f0 f1 f2 f3 f4 f5) (b && (t && (pathV f0 f3 && cfgV f0 f2))) := fun b t => Ev.step (f := fun _ => some (b && (t && (pathV f0 f3 && cfgV f0 f2)))) (g := fun k => impl_CallOK.j2 k b t f0 f1 f2 f3 f4 f5) (fun k => j2_eq k b t f0 f1 f2 f3 f4 f5) (Ev.now _)
  have e1 : ∀ b, Ev (fun k => impl_CallOK.j1 k b f0 f1 f2 f3 f4 f5) (b && (textV f0 f5 && (pathV f0 f3 && cfgV f0 f2))) := by
    intro b
    refine Ev.step (fun k => rfl) (Kit.ev_if (fun h => ?_) (fun h => ?_))
    case refine_1 =>
      have : textV f0 f5 = true := by unfold textV; rw [beq_iff_eq.2 h]; rfl
      rw [this]
      exact e2 b true
    case refine_2 =>
      have ht : textV f0 f5 = (hasTextB f0 && decide (f5.size ≤ 4096)) := by unfold textV; rw [beq_eq_false_iff_ne.2 h]; rfl
      rw [ht]
      refine Kit.ev_some (hasText_eq f0) ?_
      cases hasTextB f0 with
      | false => exact Kit.ev_neg Bool.false_ne_true (e2 b false)
      | true =>
        have hd : decide ((f5.size : Int) ≤ 4096) = decide (f5.size ≤ 4096) := by rw [decide_eq_decide]; omega
        refine Kit.ev_pos rfl ?_
        rw [hd]
        exact e2 b _
  have e0 : Ev (fun k => impl_CallOK.j0 k false f0 f1 f2 f3 f4 f5) (callName f0 f4 && (textV f0 f5 && (pathV f0 f3 && cfgV f0 f2))) := by
    have h0 : ∀ k, impl_CallOK.j0 (k + 1) false f0 f1 f2 f3 f4 f5 = (impl_hasName.f f0).bind fun t126 => (if t126 = true then ((impl_TagOK.f k f4).bind fun t127 => (impl_CallOK.j1 k t127 f0 f1 f2 f3 f4 f5)) else (impl_CallOK.j1 k (f4.toList == ([] : List UInt8)) f0 f1 f2 f3 f4 f5)) := fun k => by rw [impl_CallOK.j0, if_neg Bool.false_ne_true]
    refine Ev.step h0 (Kit.ev_some (hasName_eq f0) ?_)
    unfold callName
    cases hasNameB f0 with
    | false => exact Kit.ev_neg Bool.false_ne_true (e1 _)
    | true => exact Kit.ev_pos rfl (Ev.bind (ev_tag_impl f4 hs) (e1 _))
  have h0t : ∀ k, impl_CallOK.j0 (k + 1) true f0 f1 f2 f3 f4 f5 = some false := fun k => by rw [impl_CallOK.j0, if_pos rfl]
  have e0t : Ev (fun k => impl_CallOK.j0 k true f0 f1 f2 f3 f4 f5) false := Ev.step h0t (Ev.now _)
  rw [callB_eq]
  unfold impl_CallOK.f
  refine Kit.ev_some (withinR _ _ _) ?_
  cases inR f0 1 9 with
  | false => exact Kit.ev_neg Bool.false_ne_true e0t
  | true =>
    refine Kit.ev_pos rfl (Kit.ev_some (withinR _ _ _) ?_)
    cases inR f1 0 5 with
    | false => exact e0t
    | true => exact e0
/- Marks: their texts are there whatever the number. -/
theorem ev_shift {α : Type} {f g : Nat → Option α} {r : α} (n : Nat) (h : ∀ k, g (k + n) = f k) (k : Ev f r) : Ev g r := by
  obtain ⟨K, hK⟩ := k
  refine ⟨K + n, fun k hk => ?_⟩
  obtain ⟨j, rfl⟩ : ∃ j, k = j + n := ⟨k - n, by omega⟩
  rw [h]
  exact hK j (by omega)
theorem one_size (c : Int) : (strOfNums [c % 256]).size = 1 := by
  rw [Kit.size_eq, Kit.bytesOf_strOf (fun x hx => by
    rw [List.mem_singleton] at hx
    subst hx
    omega)]
  rfl
theorem ev_markText0 : ∀ (m : Nat) (a : Int), a < 10 ^ m → a ≤ 9223372036854775807 → ∀ s : ByteArray, s.size + m ≤ 1000 → ∃ t, Ev (fun k => laws_markText.l0 k a s) t := by
  intro m
  induction m with
  | zero =>
    intro a ha _ s hs
    refine ⟨_, Ev.step (fun k => rfl) (Kit.ev_neg (by omega) (Kit.ev_pos (by omega) (Ev.now _)))⟩
  | succ m ih =>
    intro a ha hb s hs
    by_cases h : a > 0
    case neg => exact ⟨_, Ev.step (fun k => rfl) (Kit.ev_neg h (Kit.ev_pos (by omega) (Ev.now _)))⟩
    case pos =>
      have hq : Int.tdiv a 10 < 10 ^ m := by
        rw [Int.tdiv_eq_ediv_of_nonneg (by omega)]
        have h1 : (10 : Int) ^ (m + 1) = 10 ^ m * 10 := Int.pow_succ 10 m
        rw [h1] at ha
        omega
      have hw : wrap64 (Int.tdiv a 10) = Int.tdiv a 10 := by
        rw [Int.tdiv_eq_ediv_of_nonneg (by omega)]
        exact Kit.wrap_of (by omega) (by omega)
      obtain ⟨t, ht⟩ := ih (Int.tdiv a 10) hq (by rw [Int.tdiv_eq_ediv_of_nonneg (by omega)]; omega) (strOfNums [(wrap64 (48 + (Int.tmod a 10))) % 256] ++ s) (by rw [ByteArray.size_append, one_size]; omega)
      refine ⟨t, Ev.step (fun k => rfl) (Kit.ev_pos h (Kit.ev_some rfl (Kit.ev_pos (by rw [one_size]; omega) ?_)))⟩
      rw [hw]
      exact ht
theorem ev_markText (a : Int) (h : a ≤ 9223372036854775807) : ∃ t, Ev (fun k => laws_markText.f k a) t := by
  unfold laws_markText.f
  by_cases h0 : a ≤ 0
  case pos => exact ⟨_, Kit.ev_pos h0 (Ev.now _)⟩
  case neg =>
    obtain ⟨t, ht⟩ := ev_markText0 19 a (by omega) h (⟨#[]⟩ : ByteArray) (by decide)
    exact ⟨t, Kit.ev_neg h0 ht⟩
theorem ev_markIntS (l : List Int) (a : Int) (h0 : 0 ≤ a) (h : a + l.length ≤ 9223372036854775807) : ∃ l', Ev (fun k => laws_markIntS.f k l a) (a + l.length, l') ∧ l'.length = l.length := by
  have key : ∀ i, i ≤ l.length → ∀ acc : List Int, acc.length = l.length → ∃ l', Ev (fun k => laws_markIntS.l0 k acc (a + (i : Int)) (i : Int)) (a + l.length, l') ∧ l'.length = l.length := by
    refine Kit.down ?_ ?_
    case refine_1 => intro acc hl; exact ⟨acc, Ev.step (fun k => rfl) (Kit.ev_neg (by omega) (Ev.now _)), hl⟩
    case refine_2 =>
      intro i hi ih acc hl
      obtain ⟨l', h1, h2⟩ := ih (acc.set (i : Int).toNat (a + (i : Int))) (by rw [List.length_set]; exact hl)
      refine ⟨l', Ev.step (fun k => rfl) (Kit.ev_pos (by omega) (Kit.ev_pos (by omega) ?_)), h2⟩
      rw [Kit.wrap_nat hi (by omega), Kit.wrap_of (by omega) (by omega), show a + (i : Int) + 1 = a + ((i + 1 : Nat) : Int) by omega]
      exact h1
  obtain ⟨l', h1, h2⟩ := key 0 (by omega) l rfl
  refine ⟨l', ?_, h2⟩
  unfold laws_markIntS.f
  rw [show a + ((0 : Nat) : Int) = a by omega] at h1
  exact h1
def toC (x : S24) : S27 := ⟨x.f0, x.f1, x.f2, x.f3, x.f4, x.f5⟩
def FitC (x : S24) : Prop := x.f3.length ≤ 1048576 ∧ x.f4.size ≤ 1048576 ∧ x.f5.size ≤ 1048576
def FitI (x : S27) : Prop := x.f3.length ≤ 1048576 ∧ x.f4.size ≤ 1048576
theorem rdL_nat (xs : List S24) (i : Nat) : rd_T24 xs (i : Int) = xs.getD i z24 := by simp [rd_T24]
theorem rdI_nat (xs : List S27) (i : Nat) : rd_T27 xs (i : Int) = xs.getD i z27 := by simp [rd_T27]
def szC (x : S24) (l : Int) : Int := (laws_szCall.f x.f0 x.f1 x.f2 x.f3 x.f4 x.f5 l).getD 0
theorem szC_eq (x : S24) (l : Int) (h0 : 0 ≤ l) (h1 : l ≤ 1048576) (hg : G24 x) : laws_szCall.f x.f0 x.f1 x.f2 x.f3 x.f4 x.f5 l = some (szC x l) ∧ szC x l ≤ l ∧ (0 ≤ szC x l → FitC x) := by
  obtain ⟨t, ht, hf⟩ := ex_szCall x l h0 h1 hg
  unfold szC
  rw [ht]
  refine ⟨rfl, ?_, fun h => (hf h).2⟩
  by_cases h : 0 ≤ t
  case pos => exact (hf h).1
  case neg => exact Int.le_trans (Int.le_of_lt (Int.lt_of_not_ge h)) h0
theorem ev_szCallS (xs : List S24) (left : Int) (h0 : 0 ≤ left) (h1 : left ≤ 1048576) (hx : Open.Few G24 xs) :
    ∃ t, Ev (fun k => laws_szCallS.f k xs left) t ∧ t ≤ left ∧ (0 ≤ t → xs.length ≤ 1048576 ∧ ∀ x ∈ xs, FitC x) := by
  have hn := hx.1
  have hw : wrap64 (left - (xs.length : Int)) = left - (xs.length : Int) := Kit.wrap_of (by omega) (by omega)
  unfold laws_szCallS.f
  rw [hw]
  by_cases hneg : left - (xs.length : Int) < 0
  case pos => exact ⟨-1, Kit.ev_pos hneg (Ev.now _), by omega, fun h => absurd h (by omega)⟩
  case neg =>
    obtain ⟨t, ht, htl, hg⟩ := Kit.ev_size z24 (xs := xs) (P := FitC) (E := szC) (L := fun k l i => laws_szCallS.l0 k xs l i) (fun a ha l a0 a1 => (szC_eq a l a0 a1 (hx.2 a ha)).2)
      (fun l => Ev.step (fun k => rfl) (Kit.ev_neg (by omega) (Ev.now _)))
      (fun i hi l a0 a1 hE => Ev.step (fun k => rfl) (Kit.ev_pos (by omega) (Kit.ev_pos (by omega) (by rw [rdL_nat]; exact Kit.ev_some (szC_eq _ l a0 a1 (hx.2 _ (Kit.getD_mem _ hi))).1 (Kit.ev_pos hE (Ev.now _))))))
      (fun i hi l r a0 a1 hE ih => Ev.step (fun k => rfl) (Kit.ev_pos (by omega) (Kit.ev_pos (by omega) (by rw [rdL_nat, Kit.wrap_nat hi (by omega)]; exact Kit.ev_some (szC_eq _ l a0 a1 (hx.2 _ (Kit.getD_mem _ hi))).1 (Kit.ev_neg (by omega) ih)))))
      (left - (xs.length : Int)) (by omega) (by omega)
    exact ⟨t, Kit.ev_neg hneg ht, by omega, fun h => ⟨by omega, hg h⟩⟩
theorem ev_toCallS (xs : List S24) (hn : xs.length ≤ 1048576) (hx : ∀ x ∈ xs, FitC x) : Ev (fun k => laws_toCallS.f k xs) (xs.map toC) := by
  unfold laws_toCallS.f
  refine Kit.ev_pos (by omega) (Kit.ev_pos (by omega) ?_)
  rw [Int.toNat_natCast]
  refine Kit.ev_conv z24 (L := fun k acc i => laws_toCallS.l0 k xs acc i) (fun acc hl => Ev.step (fun k => rfl) (Kit.ev_neg (by omega) (Ev.now _))) ?_ _ (by rw [List.length_replicate])
  intro i hi acc r hl ih
  refine Ev.step (fun k => rfl) (Kit.ev_pos (by omega) (Kit.ev_pos (by omega) ?_))
  rw [rdL_nat, Kit.wrap_nat hi (by omega), Int.toNat_natCast]
  exact Ev.bind (ev_toCall _ (hx _ (Kit.getD_mem _ hi)).1) (Kit.ev_pos (by omega) ih)
theorem ev_eqCallS (xs : List S27) (hn : xs.length ≤ 1048576) (hx : ∀ x ∈ xs, FitI x) : Ev (fun k => laws_eqCallS.f k xs xs) true := by
  unfold laws_eqCallS.f
  refine Kit.ev_pos rfl (Kit.ev_refl (n := xs.length) (L := fun k i => laws_eqCallS.l0 k xs xs i) (Ev.step (fun k => rfl) (Kit.ev_neg (by omega) (Ev.now _))) ?_)
  intro i hi ih
  refine Ev.step (fun k => rfl) (Kit.ev_pos (by omega) (Kit.ev_pos (by omega) (Kit.ev_pos (by omega) ?_)))
  rw [rdI_nat, Kit.wrap_nat hi (by omega)]
  have hy := (hx _ (Kit.getD_mem z27 hi)).1
  generalize xs.getD i z27 = y at *
  exact Ev.bind (ev_eqCall ⟨y.f0, y.f1, y.f2, y.f3, y.f4, y.f5⟩ hy) (Kit.ev_pos rfl ih)
/- What a call's mark leaves. -/
theorem ev_markCallS (l : List S27) (hn : l.length ≤ 1048576) (hx : ∀ x ∈ l, FitI x) : ∃ m l', Ev (fun k => laws_markCallS.f k l 1) (m, l') ∧ 0 ≤ m := by
  have key : ∀ i, i ≤ l.length → ∀ (acc : List S27) (a : Int), acc.length = l.length → (∀ x ∈ acc, x.f3.length ≤ 1048576) → 0 ≤ a → a + ((l.length - i : Nat) : Int) * 1048586 ≤ 4611686018427387904 → ∃ m l', Ev (fun k => laws_markCallS.l0 k acc a (i : Int)) (m, l') ∧ 0 ≤ m := by
    refine Kit.down ?_ ?_
    case refine_1 =>
      intro acc a hl _ h0 _
      exact ⟨a, acc, Ev.step (fun k => rfl) (Kit.ev_neg (by omega) (Ev.now _)), h0⟩
    case refine_2 =>
      intro i hi ih acc a hl hf h0 hb
      have hsub : ((l.length - i : Nat) : Int) = ((l.length - (i + 1) : Nat) : Int) + 1 := by omega
      rw [hsub] at hb
      have hset : ∀ (ys : List S27) (y : S27), (∀ x ∈ ys, x.f3.length ≤ 1048576) → y.f3.length ≤ 1048576 → ∀ x ∈ ys.set (i : Int).toNat y, x.f3.length ≤ 1048576 := fun ys y h1 h2 x hx => by
        rcases List.mem_or_eq_of_mem_set hx with h | h
        case inl => exact h1 x h
        case inr => rw [h]; exact h2
      have hrd : ∀ ys : List S27, ys.length = l.length → (∀ x ∈ ys, x.f3.length ≤ 1048576) → (rd_T27 ys (i : Int)).f3.length ≤ 1048576 := fun ys h1 h2 => by
        rw [rdI_nat]
        exact h2 _ (Kit.getD_mem _ (by omega))
      obtain ⟨y1, e1⟩ : ∃ y, y = acc.set (i : Int).toNat ⟨a, (rd_T27 acc i).f1, (rd_T27 acc i).f2, (rd_T27 acc i).f3, (rd_T27 acc i).f4, (rd_T27 acc i).f5⟩ := ⟨_, rfl⟩
      have l1 : y1.length = l.length := by rw [e1, List.length_set]; exact hl
      have f1 : ∀ x ∈ y1, x.f3.length ≤ 1048576 := e1 ▸ hset acc _ hf (hrd acc hl hf)
      obtain ⟨y2, e2⟩ : ∃ y, y = y1.set (i : Int).toNat ⟨(rd_T27 y1 i).f0, a + 1, (rd_T27 y1 i).f2, (rd_T27 y1 i).f3, (rd_T27 y1 i).f4, (rd_T27 y1 i).f5⟩ := ⟨_, rfl⟩
      have l2 : y2.length = l.length := by rw [e2, List.length_set]; exact l1
      have f2 : ∀ x ∈ y2, x.f3.length ≤ 1048576 := e2 ▸ hset y1 _ f1 (hrd y1 l1 f1)
      obtain ⟨y3, e3⟩ : ∃ y, y = y2.set (i : Int).toNat ⟨(rd_T27 y2 i).f0, (rd_T27 y2 i).f1, a + 1 + 1, (rd_T27 y2 i).f3, (rd_T27 y2 i).f4, (rd_T27 y2 i).f5⟩ := ⟨_, rfl⟩
      have l3 : y3.length = l.length := by rw [e3, List.length_set]; exact l2
      have f3 : ∀ x ∈ y3, x.f3.length ≤ 1048576 := e3 ▸ hset y2 _ f2 (hrd y2 l2 f2)
      have hp := hrd y3 l3 f3
      obtain ⟨p, hm, hpl⟩ := ev_markIntS (rd_T27 y3 i).f3 (a + 1 + 1 + 1) (by omega) (by omega)
      obtain ⟨c, hc⟩ : ∃ c : Int, c = a + 1 + 1 + 1 + ((rd_T27 y3 i).f3.length : Int) := ⟨_, rfl⟩
      rw [← hc] at hm
      obtain ⟨y4, e4⟩ : ∃ y, y = y3.set (i : Int).toNat ⟨(rd_T27 y3 i).f0, (rd_T27 y3 i).f1, (rd_T27 y3 i).f2, p, (rd_T27 y3 i).f4, (rd_T27 y3 i).f5⟩ := ⟨_, rfl⟩
      have l4 : y4.length = l.length := by rw [e4, List.length_set]; exact l3
      have f4 : ∀ x ∈ y4, x.f3.length ≤ 1048576 := e4 ▸ hset y3 _ f3 (by show p.length ≤ _; omega)
      obtain ⟨t5, ht5⟩ := ev_markText c (by omega)
      obtain ⟨t6, ht6⟩ := ev_markText (c + 1) (by omega)
      obtain ⟨y5, e5⟩ : ∃ y, y = y4.set (i : Int).toNat ⟨(rd_T27 y4 i).f0, (rd_T27 y4 i).f1, (rd_T27 y4 i).f2, (rd_T27 y4 i).f3, t5, (rd_T27 y4 i).f5⟩ := ⟨_, rfl⟩
      have l5 : y5.length = l.length := by rw [e5, List.length_set]; exact l4
      have f5 : ∀ x ∈ y5, x.f3.length ≤ 1048576 := e5 ▸ hset y4 _ f4 (hrd y4 l4 f4)
      obtain ⟨m, l', h1, h2⟩ := ih (y5.set (i : Int).toNat ⟨(rd_T27 y5 i).f0, (rd_T27 y5 i).f1, (rd_T27 y5 i).f2, (rd_T27 y5 i).f3, (rd_T27 y5 i).f4, t6⟩) (c + 1 + 1) (by rw [List.length_set]; exact l5) (hset y5 _ f5 (hrd y5 l5 f5)) (by omega) (by omega)
      refine ⟨m, l', Ev.step (fun k => rfl) (Kit.ev_pos (by omega) (Kit.ev_pos (by omega) (Kit.ev_some rfl ?_))), h2⟩
      rw [Kit.wrap_of (i := a + 1) (by omega) (by omega), Kit.wrap_of (i := a + 1 + 1) (by omega) (by omega), Kit.wrap_of (i := a + 1 + 1 + 1) (by omega) (by omega), ← e1]
      refine Kit.ev_some rfl ?_
      rw [← e2]
      refine Kit.ev_some rfl ?_
      rw [← e3]
      refine Ev.bind hm (Kit.ev_some rfl ?_)
      simp only []
      rw [← e4]
      refine Ev.bind ht5 (Kit.ev_some rfl ?_)
      rw [← e5, Kit.wrap_of (i := c + 1) (by omega) (by omega), Kit.wrap_of (i := c + 1 + 1) (by omega) (by omega), Kit.wrap_nat hi (by omega)]
      exact Ev.bind ht6 h1
  exact key 0 (by omega) l 1 rfl (fun x h => (hx x h).1) (by omega) (by omega)
def cB (c : S27) : Bool := callB c.f0 c.f1 c.f2 c.f3 c.f4 c.f5
theorem ev_l10Calls (Y : List S27) (hn : Y.length ≤ 1048576) (hx : ∀ x ∈ Y, FitI x) : Ev (fun k => spec_l10Calls.f k Y) (if 4096 < Y.length then 2 else if 30 < Y.length then 6 else if (Y.any fun c => !cB c) = true then 1 else 0) := by
  unfold spec_l10Calls.f
  by_cases h1 : 4096 < Y.length
  case pos => rw [if_pos h1]; exact Kit.ev_pos (by omega) (Ev.now _)
  case neg =>
    rw [if_neg h1]
    refine Kit.ev_neg (by omega) ?_
    by_cases h2 : 30 < Y.length
    case pos => rw [if_pos h2]; exact Kit.ev_pos (by omega) (Ev.now _)
    case neg =>
      rw [if_neg h2]
      refine Kit.ev_neg (by omega) ?_
      have key : ∀ i, i ≤ Y.length → Ev (fun k => spec_l10Calls.l0 k Y (i : Int)) (if ((Y.drop i).any fun c => !cB c) = true then 1 else 0) := by
        refine Kit.down ?_ ?_
        case refine_1 =>
          rw [List.drop_length]
          exact Ev.step (fun k => rfl) (Kit.ev_neg (by omega) (Ev.now _))
        case refine_2 =>
          intro i hi ih
          rw [Kit.drop_getD z27 Y i hi, List.any_cons]
          have hy := (hx _ (Kit.getD_mem z27 hi)).2
          refine Ev.step (fun k => rfl) (Kit.ev_pos (by omega) (Kit.ev_pos (by omega) ?_))
          rw [rdI_nat, Kit.wrap_nat hi (by omega)]
          generalize Y.getD i z27 = y at *
          have hs : spec_l10Call.f y.f0 y.f1 y.f2 y.f3 y.f4 y.f5 = some (cB y) := by
            unfold spec_l10Call.f
            rw [if_pos (by omega)]
            rfl
          refine Kit.ev_some hs ?_
          cases h : cB y with
          | true => exact Kit.ev_pos rfl (by simpa using ih)
          | false => exact Kit.ev_neg Bool.false_ne_true (by simpa using Ev.now _)
      exact key 0 (by omega)
def unK (c : S27) : Bool := decide (2 ≤ c.f0 ∧ c.f0 ≤ 4) || c.f0 == 7
theorem clear_at (b : Int → Bool) (c : S27) (h0 : 0 ≤ c.f1) (h5 : c.f1 ≤ 5) : ([0, 1, 2, 3, 4, 5].map fun d : Int => !(b d || unsafeIn d c)) = if unK c = true then ([0, 1, 2, 3, 4, 5].map fun d : Int => !(b d)).set c.f1.toNat false else [0, 1, 2, 3, 4, 5].map fun d : Int => !(b d) := by
  have e : ∀ d, unsafeIn d c = (c.f1 == d && unK c) := fun d => rfl
  simp only [e]
  generalize unK c = u
  generalize c.f1 = n at *
  cases u with
  | false => simp
  | true =>
    rw [if_pos rfl]
    have : n = 0 ∨ n = 1 ∨ n = 2 ∨ n = 3 ∨ n = 4 ∨ n = 5 := by omega
    rcases this with rfl | rfl | rfl | rfl | rfl | rfl <;> simp
theorem cB_doc {c : S27} (h : cB c = true) : 0 ≤ c.f1 ∧ c.f1 ≤ 5 := by
  unfold cB callB at h
  by_cases h1 : inR c.f0 1 9 = true
  case neg => rw [if_neg h1] at h; cases h
  case pos =>
    rw [if_pos h1] at h
    by_cases h2 : inR c.f1 0 5 = true
    case neg => rw [if_neg h2] at h; cases h
    case pos => exact of_decide_eq_true h2
theorem ev_specSafe (Y : List S27) (hn : Y.length ≤ 1048576) (hx : ∀ x ∈ Y, FitI x) : Ev (fun k => spec_SafeDocs.f k Y) (sdRes cB Y) := by
  have hc := ev_l10Calls Y hn hx
  unfold spec_SafeDocs.f sdRes
  by_cases h1 : 4096 < Y.length
  case pos => rw [if_pos h1]; exact Kit.ev_pos (by omega) (Ev.now _)
  case neg =>
    rw [if_neg h1] at hc ⊢
    refine Kit.ev_neg (by omega) ?_
    by_cases h2 : 30 < Y.length
    case pos => rw [if_pos h2] at hc ⊢; exact Ev.bind hc (Kit.ev_neg (by omega) (Ev.now _))
    case neg =>
      rw [if_neg h2] at hc ⊢
      cases h3 : (Y.any fun c => !cB c) with
      | true =>
        rw [h3] at hc
        rw [if_pos rfl] at hc ⊢
        exact Ev.bind hc (Kit.ev_neg (by omega) (Ev.now _))
      | false =>
        rw [h3] at hc
        rw [if_neg Bool.false_ne_true] at hc ⊢
        have hall : ∀ c ∈ Y, cB c = true := fun c hc => by
          cases h : cB c with
          | true => rfl
          | false => rw [List.any_eq_true.2 ⟨c, hc, by rw [h]; rfl⟩] at h3; cases h3
        refine Ev.bind hc (Kit.ev_pos rfl (Kit.ev_pos (by omega) ?_))
        have step : ∀ (acc : List Bool) (i : Nat) (r : List Bool × Int), i < acc.length → acc.length ≤ 6 → Ev (fun k => spec_SafeDocs.l0 k Y (acc.set i true) ((i + 1 : Nat) : Int)) r → Ev (fun k => spec_SafeDocs.l0 k Y acc (i : Int)) r := fun acc i r hi hl h => by
          refine Ev.step (fun k => rfl) (Kit.ev_pos (by omega) (Kit.ev_pos (by omega) ?_))
          rw [Kit.wrap_nat hi (by omega)]
          exact h
        refine step [false, false, false, false, false, false] 0 _ (by decide) (by decide) (step [true, false, false, false, false, false] 1 _ (by decide) (by decide) (step [true, true, false, false, false, false] 2 _ (by decide) (by decide) (step [true, true, true, false, false, false] 3 _ (by decide) (by decide) (step [true, true, true, true, false, false] 4 _ (by decide) (by decide) (step [true, true, true, true, true, false] 5 _ (by decide) (by decide) (Ev.step (f := fun k => spec_SafeDocs.l1 k Y [true, true, true, true, true, true] 0) (fun k => rfl) ?_))))))
        have key : ∀ i, i ≤ Y.length → Ev (fun k => spec_SafeDocs.l1 k Y ([0, 1, 2, 3, 4, 5].map fun d : Int => !((Y.take i).any (unsafeIn d))) (i : Int)) ([0, 1, 2, 3, 4, 5].map fun d : Int => !(Y.any (unsafeIn d)), 0) := by
          refine Kit.down ?_ ?_
          case refine_1 =>
            rw [List.take_length]
            exact Ev.step (fun k => rfl) (Kit.ev_neg (by omega) (Ev.now _))
          case refine_2 =>
            intro i hi ih
            have ht : Y.take (i + 1) = Y.take i ++ [Y.getD i z27] := by
              rw [List.getD_eq_getElem?_getD, List.getElem?_eq_getElem hi, List.take_succ_eq_append_getElem hi]
              rfl
            have hd := cB_doc (hall _ (Kit.getD_mem z27 hi))
            simp only [ht, List.any_append, List.any_cons, List.any_nil, Bool.or_false] at ih
            rw [clear_at _ _ hd.1 hd.2] at ih
            refine Ev.step (fun k => rfl) (Kit.ev_pos (by omega) (Kit.ev_pos (by omega) ?_))
            rw [rdI_nat, Kit.wrap_nat hi (by omega)]
            generalize Y.getD i z27 = y at *
            obtain ⟨M, hM⟩ : ∃ M : List Bool, M = [0, 1, 2, 3, 4, 5].map fun d : Int => !((Y.take i).any (unsafeIn d)) := ⟨_, rfl⟩
            have hl : M.length = 6 := by rw [hM]; rfl
            rw [← hM] at ih ⊢
            have hset : unK y = true → Ev (fun k => spec_SafeDocs.l1 k Y (M.set y.f1.toNat false) ((i + 1 : Nat) : Int)) ([0, 1, 2, 3, 4, 5].map fun d : Int => !(Y.any (unsafeIn d)), 0) := fun h => by rw [if_pos h] at ih; exact ih
            by_cases k2 : y.f0 = 2
            case pos => exact Kit.ev_pos k2 (Kit.ev_pos hd.1 (Kit.ev_pos (by omega) (hset (by unfold unK; rw [k2]; rfl))))
            case neg =>
              refine Kit.ev_neg k2 ?_
              by_cases k3 : y.f0 = 3
              case pos => exact Kit.ev_pos k3 (Kit.ev_pos hd.1 (Kit.ev_pos (by omega) (hset (by unfold unK; rw [k3]; rfl))))
              case neg =>
                refine Kit.ev_neg k3 ?_
                by_cases k4 : y.f0 = 4
                case pos => exact Kit.ev_pos k4 (Kit.ev_pos hd.1 (Kit.ev_pos (by omega) (hset (by unfold unK; rw [k4]; rfl))))
                case neg =>
                  refine Kit.ev_neg k4 ?_
                  by_cases k7 : y.f0 = 7
                  case pos => exact Kit.ev_pos k7 (Kit.ev_pos hd.1 (Kit.ev_pos (by omega) (hset (by unfold unK; rw [k7]; rfl))))
                  case neg =>
                    refine Kit.ev_neg k7 ?_
                    have hu : unK y = false := by
                      unfold unK
                      rw [decide_eq_false (by omega), Bool.false_or]
                      simpa using k7
                    rw [if_neg (by rw [hu]; exact Bool.false_ne_true)] at ih
                    exact ih
        have h0 := key 0 (by omega)
        simpa using h0
theorem all_at (Y : List S27) (hx : ∀ x ∈ Y, FitI x) : ∃ K, ∀ k, K ≤ k → ∀ c ∈ Y, impl_CallOK.f k c.f0 c.f1 c.f2 c.f3 c.f4 c.f5 = some (cB c) := by
  induction Y with
  | nil => exact ⟨0, fun _ _ c hc => by cases hc⟩
  | cons y ys ih =>
    obtain ⟨K1, h1⟩ := ev_implCall y.f0 y.f1 y.f2 y.f3 y.f4 y.f5 (by have := (hx y (List.mem_cons_self ..)).2; omega)
    obtain ⟨K2, h2⟩ := ih (fun x h => hx x (List.mem_cons_of_mem _ h))
    refine ⟨K1 + K2, fun k hk c hc => ?_⟩
    rcases List.mem_cons.1 hc with rfl | hc
    case inl => exact h1 k (by omega)
    case inr => exact h2 k (by omega) c hc
theorem sdRes_congr {P Q : S27 → Bool} {Y : List S27} (h : ∀ c ∈ Y, P c = Q c) : sdRes P Y = sdRes Q Y := by
  have e : (Y.any fun c => !P c) = (Y.any fun c => !Q c) := by
    induction Y with
    | nil => rfl
    | cons y ys ih => rw [List.any_cons, List.any_cons, h y (List.mem_cons_self ..), ih (fun c hc => h c (List.mem_cons_of_mem _ hc))]
  unfold sdRes
  rw [e]
theorem ev_eqBoolS (l : List Bool) (hn : l.length ≤ 1048576) : Ev (fun k => laws_eqBoolS.f k l l) true := by
  unfold laws_eqBoolS.f
  refine Kit.ev_pos rfl (Kit.ev_refl (n := l.length) (L := fun k i => laws_eqBoolS.l0 k l l i) (Ev.step (fun k => rfl) (Kit.ev_neg (by omega) (Ev.now _))) ?_)
  intro i hi ih
  refine Ev.step (fun k => rfl) (Kit.ev_pos (by omega) (Kit.ev_pos (by omega) (Kit.ev_pos (by omega) (Kit.ev_neg (by simp) ?_))))
  rw [Kit.wrap_nat hi (by omega)]
  exact ih
theorem marked (P : S27 → Bool) (Y : List S27) : (sdRes P Y).1.length ≤ 6 ∧ ∃ m g', Ev (fun k => laws_markBoolS.f k (sdRes P Y).1 1) (m, g') ∧ 0 ≤ m ∧ Ev (fun k => laws_heldBoolS.f k g' 1) m := by
  have hnil : ∃ m g', Ev (fun k => laws_markBoolS.f k [] 1) (m, g') ∧ 0 ≤ m ∧ Ev (fun k => laws_heldBoolS.f k g' 1) m := ⟨1, [], ev_shift 1 (f := fun _ => some (1, [])) (fun k => rfl) (Ev.now _), by omega, ev_shift 1 (f := fun _ => some 1) (fun k => rfl) (Ev.now _)⟩
  unfold sdRes
  split
  case isTrue => exact ⟨by simp, hnil⟩
  case isFalse =>
    split
    case isTrue => exact ⟨by simp, hnil⟩
    case isFalse =>
      split
      case isTrue => exact ⟨by simp, hnil⟩
      case isFalse => exact ⟨by simp, 7, [false, false, true, false, false, true], Ev.of (fun k => laws_markBoolS.mono _ _ k) (k := 7) (by kernel_rfl), by omega, Ev.of (fun k => laws_heldBoolS.mono _ _ k) (k := 7) (by kernel_rfl)⟩
theorem proved : laws_FnExactSafeDocs.PureS := by
  intro x hg
  obtain ⟨t, ⟨K1, e1⟩, _, hfit⟩ := ev_szCallS x 1048576 (by omega) (by omega) hg
  replace e1 : ∀ k, K1 ≤ k → laws_szCallS.f k x 1048576 = some t := e1
  by_cases hneg : t < 0
  case pos => exact ⟨K1, by unfold laws_FnExactSafeDocs.f; rw [e1 K1 (Nat.le_refl _), Option.bind_some, if_pos hneg]⟩
  case neg =>
    obtain ⟨hn, hx⟩ := hfit (by omega)
    obtain ⟨K2, e2⟩ := ev_toCallS x hn hx
    obtain ⟨Y, hY⟩ : ∃ Y, Y = x.map toC := ⟨_, rfl⟩
    rw [← hY] at e2
    have hyn : Y.length ≤ 1048576 := by rw [hY, List.length_map]; exact hn
    have hyx : ∀ c ∈ Y, FitI c := by
      rw [hY]
      intro c hc
      obtain ⟨a, ha, rfl⟩ := List.mem_map.1 hc
      exact ⟨(hx a ha).1, (hx a ha).2.1⟩
    obtain ⟨K3, e3⟩ := ev_specSafe Y hyn hyx
    obtain ⟨K4, e4⟩ := all_at Y hyx
    obtain ⟨K5, e5⟩ := ev_eqCallS Y hyn hyx
    obtain ⟨m, Y', ⟨K6, e6⟩, hm⟩ := ev_markCallS Y hyn hyx
    obtain ⟨hl, mm, g', ⟨K7, e7⟩, hmm, ⟨K8, e8⟩⟩ := marked cB Y
    obtain ⟨K9, e9⟩ := ev_eqBoolS (sdRes cB Y).1 (by omega)
    obtain ⟨K, hK⟩ : ∃ K, K = K1 + K2 + K3 + K4 + K5 + K6 + K7 + K8 + K9 := ⟨_, rfl⟩
    have hP : sdRes (sdP K) Y = sdRes cB Y := sdRes_congr (fun c hc => by unfold sdP; rw [e4 K (by omega) c hc]; rfl)
    replace e2 : ∀ k, K2 ≤ k → laws_toCallS.f k x = some Y := e2
    replace e3 : ∀ k, K3 ≤ k → spec_SafeDocs.f k Y = some (sdRes cB Y) := e3
    replace e5 : ∀ k, K5 ≤ k → laws_eqCallS.f k Y Y = some true := e5
    replace e6 : ∀ k, K6 ≤ k → laws_markCallS.f k Y 1 = some (m, Y') := e6
    replace e7 : ∀ k, K7 ≤ k → laws_markBoolS.f k (sdRes cB Y).1 1 = some (mm, g') := e7
    replace e8 : ∀ k, K8 ≤ k → laws_heldBoolS.f k g' 1 = some mm := e8
    replace e9 : ∀ k, K9 ≤ k → laws_eqBoolS.f k (sdRes cB Y).1 (sdRes cB Y).1 = some true := e9
    refine ⟨K, ?_⟩
    unfold laws_FnExactSafeDocs.f
    rw [e1 K (by omega), Option.bind_some, if_neg hneg, e2 K (by omega), Option.bind_some, e3 K (by omega), Option.bind_some, hP, e5 K (by omega), e9 K (by omega), e6 K (by omega), e7 K (by omega)]
    have hall : (Y.all fun c => (impl_CallOK.f K c.f0 c.f1 c.f2 c.f3 c.f4 c.f5).isSome) = true := List.all_eq_true.2 (fun c hc => by rw [e4 K (by omega) c hc]; rfl)
    rw [hall, if_pos (by simp), Option.bind_some, if_pos hm, Option.bind_some]
    show (if (decide (0 ≤ mm) && (laws_heldBoolS.f K g' 1 == some mm)) = true then some true else none) = some true
    rw [e8 K (by omega), if_pos (by simp [hmm])]
end Go.Proofs.Ytophaihdibplkaa.Pure.LSafeDocs
namespace Go.Proofs.Ytophaihdibplkaa.Pure
theorem FnExactSafeDocs : PFnExactSafeDocs.laws_FnExactSafeDocs.PureS := LSafeDocs.proved
end Go.Proofs.Ytophaihdibplkaa.Pure
