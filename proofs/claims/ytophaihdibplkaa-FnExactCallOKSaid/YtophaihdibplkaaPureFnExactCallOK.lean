/- The pure statement of FnExactCallOK: of every call both functions tell the same. No conditions. -/
import Derived.Test.YtophaihdibplkaaKit
import Derived.Test.YtophaihdibplkaaOpensFnExactCallOK
namespace Go.Proofs.Ytophaihdibplkaa.Pure.LCallOK
open Go.RowKit Go.Proofs.Ytophaihdibplkaa.PFnExactCallOK Go.Proofs.YtophaihdibplkaaW.PrintWords
/- Calls: size, form of the program's kind, likeness; what a call is. -/
theorem rd_nat (xs : List Int) (i : Nat) : rd xs (i : Int) = xs.getD i 0 := by simp [rd]
theorem ex_szCall (x : S24) (l : Int) (h0 : 0 ≤ l) (h1 : l ≤ 1048576) (hg : G24 x) : ∃ t, laws_szCall.f x.f0 x.f1 x.f2 x.f3 x.f4 x.f5 l = some t ∧ (0 ≤ t → t ≤ l ∧ x.f3.length ≤ 1048576 ∧ x.f4.size ≤ 1048576 ∧ x.f5.size ≤ 1048576) := by
  obtain ⟨_, _, _, g3, g4, g5⟩ := hg
  have g3 := g3.1
  unfold Open.Short at g4 g5
  have w3 : wrap64 (l - (x.f3.length : Int)) = l - (x.f3.length : Int) := Kit.wrap_of (by omega) (by omega)
  unfold laws_szCall.f laws_szIntS.f
  rw [w3]
  by_cases n3 : l - (x.f3.length : Int) < 0
  case pos => exact ⟨-1, by rw [if_pos n3]; rfl, fun h => absurd h (by omega)⟩
  case neg =>
    have w4 : wrap64 (l - (x.f3.length : Int) - (x.f4.size : Int)) = l - (x.f3.length : Int) - (x.f4.size : Int) := Kit.wrap_of (by omega) (by omega)
    rw [if_neg n3, Option.bind_some, if_neg n3, w4]
    by_cases n4 : l - (x.f3.length : Int) - (x.f4.size : Int) < 0
    case pos => exact ⟨-1, by rw [if_pos n4], fun h => absurd h (by omega)⟩
    case neg =>
      have w5 : wrap64 (l - (x.f3.length : Int) - (x.f4.size : Int) - (x.f5.size : Int)) = l - (x.f3.length : Int) - (x.f4.size : Int) - (x.f5.size : Int) := Kit.wrap_of (by omega) (by omega)
      rw [if_neg n4, w5]
      by_cases n5 : l - (x.f3.length : Int) - (x.f4.size : Int) - (x.f5.size : Int) < 0
      case pos => exact ⟨-1, by rw [if_pos n5], fun h => absurd h (by omega)⟩
      case neg => exact ⟨_, by rw [if_neg n5], fun h => ⟨by omega, by omega, by omega, by omega⟩⟩
theorem ev_toIntS (xs : List Int) (hn : xs.length ≤ 1048576) : Ev (fun k => laws_toIntS.f k xs) xs := by
  unfold laws_toIntS.f
  refine Kit.ev_pos (by omega) (Kit.ev_pos (by omega) ?_)
  rw [Int.toNat_natCast]
  have h := Kit.ev_conv (0 : Int) (xs := xs) (c := fun x => x) (L := fun k acc i => laws_toIntS.l0 k xs acc i) (fun acc hl => Ev.step (fun k => rfl) (Kit.ev_neg (by omega) (Ev.now _)))
    (fun i hi acc r hl ih => by
      refine Ev.step (fun k => rfl) (Kit.ev_pos (by omega) (Kit.ev_pos (by omega) (Kit.ev_pos (by omega) ?_)))
      rw [rd_nat, Kit.wrap_nat hi (by omega), Int.toNat_natCast]
      exact ih) (List.replicate xs.length 0) (by rw [List.length_replicate])
  rwa [List.map_id'] at h
theorem ev_toCall (x : S24) (h : x.f3.length ≤ 1048576) : Ev (fun k => laws_toCall.f k x.f0 x.f1 x.f2 x.f3 x.f4 x.f5) (x.f0, x.f1, x.f2, x.f3, x.f4, x.f5) := by
  unfold laws_toCall.f
  exact Ev.bind (ev_toIntS x.f3 h) (Ev.now _)
theorem ev_eqIntS (xs : List Int) (hn : xs.length ≤ 1048576) : Ev (fun k => laws_eqIntS.f k xs xs) true := by
  unfold laws_eqIntS.f
  refine Kit.ev_pos rfl (Kit.ev_refl (n := xs.length) (L := fun k i => laws_eqIntS.l0 k xs xs i) (Ev.step (fun k => rfl) (Kit.ev_neg (by omega) (Ev.now _))) ?_)
  intro i hi ih
  refine Ev.step (fun k => rfl) (Kit.ev_pos (by omega) (Kit.ev_pos (by omega) (Kit.ev_pos (by omega) (Kit.ev_pos rfl ?_))))
  rw [Kit.wrap_nat hi (by omega)]
  exact ih
theorem ev_eqCall (x : S24) (h : x.f3.length ≤ 1048576) : Ev (fun k => laws_eqCall.f k x.f0 x.f1 x.f2 x.f3 x.f4 x.f5 x.f0 x.f1 x.f2 x.f3 x.f4 x.f5) true := by
  unfold laws_eqCall.f
  exact Kit.ev_pos rfl (Kit.ev_pos rfl (Kit.ev_pos rfl (Ev.bind (ev_eqIntS x.f3 h) (Kit.ev_pos rfl (Kit.ev_pos rfl (Kit.ev_pos rfl (Ev.now _)))))))
theorem hasConfig_eq (k : Int) : impl_hasConfig.f k = some (hasCfg k) := by
  unfold impl_hasConfig.f hasCfg
  by_cases h : k = 6
  case pos => subst h; rfl
  case neg => simp [h]
theorem hasPath_eq (k : Int) : impl_hasPath.f k = some (hasPathB k) := by
  unfold impl_hasPath.f hasPathB impl_within.f
  by_cases h : 2 ≤ k ∧ k ≤ 5
  case pos =>
    have : k = 2 ∨ k = 3 ∨ k = 4 ∨ k = 5 := by omega
    rcases this with rfl | rfl | rfl | rfl <;> rfl
  case neg =>
    have h2 : k ≠ 2 := by omega
    have h3 : k ≠ 3 := by omega
    have h4 : k ≠ 4 := by omega
    have h5 : k ≠ 5 := by omega
    rw [beq_eq_false_iff_ne.2 h2, beq_eq_false_iff_ne.2 h3, beq_eq_false_iff_ne.2 h4, beq_eq_false_iff_ne.2 h5]
    by_cases h6 : k ≥ 2
    case pos => rw [if_pos h6]; simp; omega
    case neg => rw [if_neg h6]; rfl
theorem hasName_eq (k : Int) : impl_hasName.f k = some (hasNameB k) := by
  unfold impl_hasName.f hasNameB
  by_cases h : k = 1
  case pos => subst h; rfl
  case neg =>
    by_cases h2 : k = 2
    case pos => subst h2; rfl
    case neg => simp [h, h2]
theorem hasText_eq (k : Int) : impl_hasText.f k = some (hasTextB k) := by
  unfold impl_hasText.f hasTextB
  by_cases h : k = 3
  case pos => subst h; rfl
  case neg =>
    by_cases h2 : k = 4
    case pos => subst h2; rfl
    case neg =>
      by_cases h3 : k = 6
      case pos => subst h3; rfl
      case neg => simp [h, h2, h3]
theorem withinR (n a b : Int) : impl_within.f n a b = some (inR n a b) := by
  unfold impl_within.f inR
  by_cases h : n ≥ a
  case pos => rw [if_pos h]; simp [h]
  case neg => rw [if_neg h]; simp; omega
theorem isPath_eq (l : List Int) : impl_isPath.f l = some (decide (l.length ≤ 10) && Kit.allB (pathAt l) 0 l.length) := by
  unfold impl_isPath.f
  congr 1
  congr 1
  rw [Bool.eq_iff_iff, Kit.allB_iff]
  constructor
  case mp =>
    intro h j _ hj
    rw [Bool.not_eq_true', Bool.eq_false_iff] at h
    unfold pathAt
    cases hq : inR (l.getD j 0) 0 60 with
    | true => rfl
    | false => exact absurd (List.any_eq_true.2 ⟨l.getD j 0, Kit.getD_mem _ hj, by unfold inR at hq; rw [hq]; rfl⟩) h
  case mpr =>
    intro h
    rw [Bool.not_eq_true', Bool.eq_false_iff]
    intro h2
    obtain ⟨y, hy, h3⟩ := List.any_eq_true.1 h2
    obtain ⟨j, hj, rfl⟩ := List.getElem_of_mem hy
    have h4 := h j (Nat.zero_le _) hj
    unfold pathAt at h4
    rw [List.getD_eq_getElem?_getD, List.getElem?_eq_getElem hj] at h4
    unfold inR at h4
    rw [show decide (0 ≤ l[j] ∧ l[j] ≤ 60) = true from h4] at h3
    cases h3
def textV (k : Int) (text : ByteArray) : Bool := text.toList == ([] : List UInt8) || (hasTextB k && decide (text.size ≤ 4096))
def pathV (k : Int) (path : List Int) : Bool := decide (path.length = 0) || (hasPathB k && (decide (path.length ≤ 10) && Kit.allB (pathAt path) 0 path.length))
def cfgV (k cfg : Int) : Bool := cfg == 0 || (hasCfg k && inR cfg 0 3)
theorem boolFact : ∀ l10 t4 bc c3 c0 bp l0 bt t0 al n : Bool, (c0 = true → c3 = true) → (l0 = true → l10 = true) → (l0 = true → al = true) → (t0 = true → t4 = true) → (if l10 = true then (if t4 = true then (if ((if bc = true then c3 else c0) && (if bp = true then true else l0) && (if bt = true then true else t0)) = true then (if al = true then n else false) else false) else false) else false) = (n && ((t0 || (bt && t4)) && ((l0 || (bp && (l10 && al))) && (c0 || (bc && c3))))) := by decide
theorem callB_eq (k doc cfg : Int) (path : List Int) (name text : ByteArray) : callB k doc cfg path name text = if inR k 1 9 = true then (if inR doc 0 5 = true then (callName k name && (textV k text && (pathV k path && cfgV k cfg))) else false) else false := by
  have h := boolFact (decide (path.length ≤ 10)) (decide (text.size ≤ 4096)) (hasCfg k) (inR cfg 0 3) (cfg == 0) (hasPathB k) (decide (path.length = 0)) (hasTextB k) (text.toList == ([] : List UInt8)) (Kit.allB (pathAt path) 0 path.length) (callName k name)
    (fun h => by
      have h0 : cfg = 0 := by simpa using h
      subst h0
      rfl) (fun h => by have := of_decide_eq_true h; exact decide_eq_true (by omega))
    (fun h => by have := of_decide_eq_true h; exact (Kit.allB_iff _ _ _).2 fun j _ hj => by omega)
    (fun h => by
      have h2 : text.toList = [] := by simpa using h
      have := Kit.size_toList text
      rw [h2] at this
      exact decide_eq_true (by simp at this; omega))
  simp only [decide_eq_true_eq] at h
  unfold callB callTail callHas textV pathV cfgV
  rw [h]
theorem j2_eq (k : Nat) (b t : Bool) (f0 f1 f2 : Int) (f3 : List Int) (f4 f5 : ByteArray) : impl_CallOK.j2 (k + 1) b t f0 f1 f2 f3 f4 f5 = some (b && (t && (pathV f0 f3 && cfgV f0 f2))) := by
  rw [impl_CallOK.j2]
  simp only [hasConfig_eq, hasPath_eq, withinR, isPath_eq, Option.bind_some]
  unfold pathV cfgV
  generalize (decide (f3.length ≤ 10) && Kit.allB (pathAt f3) 0 f3.length) = ip
  generalize hasCfg f0 = hc
  generalize hasPathB f0 = hp
  generalize inR f2 0 3 = c3
  by_cases hl : f3.length = 0
  case pos =>
    rw [decide_eq_true hl, if_pos (by omega)]
    by_cases h2 : f2 = 0
    case pos => subst h2; cases b <;> cases t <;> rfl
    case neg => rw [if_neg h2, beq_eq_false_iff_ne.2 h2]; cases b <;> cases t <;> cases hc <;> cases c3 <;> rfl
  case neg =>
    rw [decide_eq_false hl, if_neg (by omega)]
    by_cases h2 : f2 = 0
    case pos => subst h2; cases b <;> cases t <;> cases hp <;> cases ip <;> rfl
    case neg =>
      rw [beq_eq_false_iff_ne.2 h2]
      simp only [if_neg h2]
      cases b <;> cases t <;> cases hp <;> cases ip <;> cases hc <;> cases c3 <;> rfl
theorem ev_implCall (f0 f1 f2 : Int) (f3 : List Int) (f4 f5 : ByteArray) (hs : f4.size ≤ 9223372036854775807) : Ev (fun k => impl_CallOK.f k f0 f1 f2 f3 f4 f5) (callB f0 f1 f2 f3 f4 f5) := by
  have e2 : ∀ b t, Ev (fun k => impl_CallOK.j2 k b t f0 f1 f2 f3 f4 f5) (b && (t && (pathV f0 f3 && cfgV f0 f2))) := fun b t => Ev.step (f := fun _ => some (b && (t && (pathV f0 f3 && cfgV f0 f2)))) (g := fun k => impl_CallOK.j2 k b t f0 f1 f2 f3 f4 f5) (fun k => j2_eq k b t f0 f1 f2 f3 f4 f5) (Ev.now _)
  have e1 : ∀ b, Ev (fun k => impl_CallOK.j1 k b f0 f1 f2 f3 f4 f5) (b && (textV f0 f5 && (pathV f0 f3 && cfgV f0 f2))) := by
    intro b
    refine Ev.step (fun k => rfl) (Kit.ev_if (fun h => ?_) (fun h => ?_))
    case refine_1 =>
      have : textV f0 f5 = true := by unfold textV; rw [beq_iff_eq.2 h]; rfl
      rw [this]
      exact e2 b true
    case refine_2 =>
      have ht : textV f0 f5 = (hasTextB f0 && decide (f5.size ≤ 4096)) := by unfold textV; rw [beq_eq_false_iff_ne.2 h]; rfl
      rw [ht]
      refine Kit.ev_some (hasText_eq f0) ?_
      cases hasTextB f0 with
      | false => exact Kit.ev_neg Bool.false_ne_true (e2 b false)
      | true =>
        have hd : decide ((f5.size : Int) ≤ 4096) = decide (f5.size ≤ 4096) := by rw [decide_eq_decide]; omega
        refine Kit.ev_pos rfl ?_
        rw [hd]
        exact e2 b _
  have e0 : Ev (fun k => impl_CallOK.j0 k false f0 f1 f2 f3 f4 f5) (callName f0 f4 && (textV f0 f5 && (pathV f0 f3 && cfgV f0 f2))) := by
    have h0 : ∀ k, impl_CallOK.j0 (k + 1) false f0 f1 f2 f3 f4 f5 = (impl_hasName.f f0).bind fun t126 => (if t126 = true then ((impl_TagOK.f k f4).bind fun t127 => (impl_CallOK.j1 k t127 f0 f1 f2 f3 f4 f5)) else (impl_CallOK.j1 k (f4.toList == ([] : List UInt8)) f0 f1 f2 f3 f4 f5)) := fun k => by rw [impl_CallOK.j0, if_neg Bool.false_ne_true]
    refine Ev.step h0 (Kit.ev_some (hasName_eq f0) ?_)
    unfold callName
    cases hasNameB f0 with
    | false => exact Kit.ev_neg Bool.false_ne_true (e1 _)
    | true => exact Kit.ev_pos rfl (Ev.bind (ev_tag_impl f4 hs) (e1 _))
  have h0t : ∀ k, impl_CallOK.j0 (k + 1) true f0 f1 f2 f3 f4 f5 = some false := fun k => by rw [impl_CallOK.j0, if_pos rfl]
  have e0t : Ev (fun k => impl_CallOK.j0 k true f0 f1 f2 f3 f4 f5) false := Ev.step h0t (Ev.now _)
  rw [callB_eq]
  unfold impl_CallOK.f
  refine Kit.ev_some (withinR _ _ _) ?_
  cases inR f0 1 9 with
  | false => exact Kit.ev_neg Bool.false_ne_true e0t
  | true =>
    refine Kit.ev_pos rfl (Kit.ev_some (withinR _ _ _) ?_)
    cases inR f1 0 5 with
    | false => exact e0t
    | true => exact e0
theorem proved : laws_FnExactCallOK.PureS := by
  intro x hg
  refine Ev.rounds (g := fun k => laws_FnExactCallOK.f k x.f0 x.f1 x.f2 x.f3 x.f4 x.f5) ?_
  unfold laws_FnExactCallOK.f
  obtain ⟨t, ht, hfit⟩ := ex_szCall x 1048576 (by omega) (by omega) hg
  by_cases hneg : t < 0
  case pos => exact Kit.ev_some ht (Kit.ev_pos hneg (Ev.now _))
  case neg =>
    obtain ⟨_, h3, h4, h5⟩ := hfit (by omega)
    have hto := ev_toCall x h3
    have hs : spec_CallOK.f x.f0 x.f1 x.f2 x.f3 x.f4 x.f5 = some (callB x.f0 x.f1 x.f2 x.f3 x.f4 x.f5) := by
      unfold spec_CallOK.f spec_l10Call.f
      rw [if_pos (by omega)]
      rfl
    exact Kit.ev_some ht (Kit.ev_neg hneg (Ev.bind hto (Kit.ev_some hs (Ev.bind hto (Ev.bind (ev_implCall x.f0 x.f1 x.f2 x.f3 x.f4 x.f5 (by omega)) (Kit.ev_neg (by simp) (Ev.bind hto (Ev.bind (ev_eqCall x h3) (Kit.ev_pos rfl (Ev.now _))))))))))
end Go.Proofs.Ytophaihdibplkaa.Pure.LCallOK
namespace Go.Proofs.Ytophaihdibplkaa.Pure
theorem FnExactCallOK : PFnExactCallOK.laws_FnExactCallOK.PureS := LCallOK.proved
end Go.Proofs.Ytophaihdibplkaa.Pure
