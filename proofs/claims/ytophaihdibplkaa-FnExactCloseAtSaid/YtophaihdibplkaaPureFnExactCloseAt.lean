/- The pure statement of FnExactCloseAt: for every stack and name both functions tell the same. No conditions. -/
import Derived.Test.YtophaihdibplkaaKit
import Derived.Test.YtophaihdibplkaaOpensFnExactCloseAt
namespace Go.Proofs.Ytophaihdibplkaa.Pure.LCloseAt
open Go.RowKit Go.Proofs.Ytophaihdibplkaa.PFnExactCloseAt Go.Proofs.YtophaihdibplkaaW.PrintWords
/- Lists of open elements. -/
def toO (a : S94) : S96 := ⟨a.f0, a.f1⟩
theorem rdLO_nat (xs : List S94) (i : Nat) : rd_T94 xs (i : Int) = xs.getD i z94 := by simp [rd_T94]
theorem rdO_nat (xs : List S96) (i : Nat) : rd_T96 xs (i : Int) = xs.getD i z96 := by simp [rd_T96]
def szO (a : S94) (l : Int) : Int := if l - (a.f0.size : Int) < 0 then -1 else l - (a.f0.size : Int)
def FitO (a : S94) : Prop := a.f0.size ≤ 1048576
theorem szOpen_eq (a : S94) (l : Int) (h0 : 0 ≤ l) (h1 : l ≤ 1048576) (hg : G94 a) : laws_szOpen.f a.f0 a.f1 l = some (szO a l) := by
  have s0 : a.f0.size ≤ 9223372036854775807 := hg.1
  unfold laws_szOpen.f szO
  have hw : wrap64 (l - (a.f0.size : Int)) = l - (a.f0.size : Int) := Kit.wrap_of (by omega) (by omega)
  rw [hw]
  by_cases h : l - (a.f0.size : Int) < 0
  · rw [if_pos h, if_pos h]
  · rw [if_neg h, if_neg h]
theorem szO_fit (a : S94) (l : Int) (h0 : 0 ≤ l) (h1 : l ≤ 1048576) : szO a l ≤ l ∧ (0 ≤ szO a l → FitO a) := by
  unfold szO FitO
  by_cases h : l - (a.f0.size : Int) < 0
  · rw [if_pos h]; exact ⟨by omega, fun h => absurd h (by omega)⟩
  · rw [if_neg h]; exact ⟨by omega, fun _ => by omega⟩
theorem ev_szOpenS (xs : List S94) (left : Int) (h0 : 0 ≤ left) (h1 : left ≤ 1048576) (hx : Open.Few G94 xs) :
    ∃ t, Ev (fun k => laws_szOpenS.f k xs left) t ∧ t ≤ left ∧ (0 ≤ t → xs.length ≤ 1048576 ∧ ∀ x ∈ xs, FitO x) := by
  have hn := hx.1
  have hw : wrap64 (left - (xs.length : Int)) = left - (xs.length : Int) := Kit.wrap_of (by omega) (by omega)
  unfold laws_szOpenS.f
  rw [hw]
  by_cases hneg : left - (xs.length : Int) < 0
  · exact ⟨-1, Kit.ev_pos hneg (Ev.now _), by omega, fun h => absurd h (by omega)⟩
  · obtain ⟨t, ht, htl, hg⟩ := Kit.ev_size z94 (xs := xs) (P := FitO) (E := szO) (L := fun k l i => laws_szOpenS.l0 k xs l i) (fun a _ l a0 a1 => szO_fit a l a0 a1)
      (fun l => Ev.step (fun k => rfl) (Kit.ev_neg (by omega) (Ev.now _)))
      (fun i hi l a0 a1 hE => Ev.step (fun k => rfl) (Kit.ev_pos (by omega) (Kit.ev_pos (by omega) (by rw [rdLO_nat]; exact Kit.ev_some (szOpen_eq _ l a0 a1 (hx.2 _ (Kit.getD_mem _ hi))) (Kit.ev_pos hE (Ev.now _))))))
      (fun i hi l r a0 a1 hE ih => Ev.step (fun k => rfl) (Kit.ev_pos (by omega) (Kit.ev_pos (by omega) (by rw [rdLO_nat, Kit.wrap_nat hi (by omega)]; exact Kit.ev_some (szOpen_eq _ l a0 a1 (hx.2 _ (Kit.getD_mem _ hi))) (Kit.ev_neg (by omega) ih)))))
      (left - (xs.length : Int)) (by omega) (by omega)
    exact ⟨t, Kit.ev_neg hneg ht, by omega, fun h => ⟨by omega, hg h⟩⟩
theorem ev_toOpenS (xs : List S94) (hn : xs.length ≤ 1048576) : Ev (fun k => laws_toOpenS.f k xs) (xs.map toO) := by
  unfold laws_toOpenS.f
  refine Kit.ev_pos (by omega) (Kit.ev_pos (by omega) ?_)
  rw [Int.toNat_natCast]
  refine Kit.ev_conv z94 (L := fun k acc i => laws_toOpenS.l0 k xs acc i) (fun acc hl => Ev.step (fun k => rfl) (Kit.ev_neg (by omega) (Ev.now _))) ?_ _ (by rw [List.length_replicate])
  intro i hi acc r hl ih
  refine Ev.step (fun k => rfl) (Kit.ev_pos (by omega) (Kit.ev_pos (by omega) ?_))
  rw [rdLO_nat, Kit.wrap_nat hi (by omega), Int.toNat_natCast]
  exact Kit.ev_some rfl (Kit.ev_pos (by omega) ih)
theorem ev_eqOpenS (xs : List S96) (hn : xs.length ≤ 1048576) : Ev (fun k => laws_eqOpenS.f k xs xs) true := by
  unfold laws_eqOpenS.f
  refine Kit.ev_pos rfl (Kit.ev_refl (n := xs.length) (L := fun k i => laws_eqOpenS.l0 k xs xs i) (Ev.step (fun k => rfl) (Kit.ev_neg (by omega) (Ev.now _))) ?_)
  intro i hi ih
  refine Ev.step (fun k => rfl) (Kit.ev_pos (by omega) (Kit.ev_pos (by omega) (Kit.ev_pos (by omega) ?_)))
  rw [Kit.wrap_nat hi (by omega)]
  refine Kit.ev_some (a := true) ?_ (Kit.ev_pos rfl ih)
  unfold laws_eqOpen.f
  rw [if_pos rfl, if_pos rfl]
theorem ev_l05Open (o : S96) (hs : o.f0.size ≤ 9223372036854775807) : Ev (fun k => spec_l05Open.f k o.f0 o.f1) (!badOpen o) := by
  have hb : (!badOpen o) = (Kit.isTag o.f0 && decide (0 ≤ o.f1 ∧ o.f1 ≤ 2)) := by unfold badOpen; cases Kit.isTag o.f0 <;> simp
  rw [hb]
  unfold spec_l05Open.f
  refine Ev.bind (ev_tag_spec _ hs) (Kit.ev_if (fun h => ?_) (fun h => ?_))
  · rw [h, Bool.true_and]; exact Kit.ev_some (l01In_eq _ _ _) (Ev.now _)
  · rw [Bool.eq_false_iff.2 h, Bool.false_and]; exact Ev.now _
theorem ev_l05Ask (xs : List S96) (t : ByteArray) (hn : xs.length ≤ 1048576) (hs : ∀ o ∈ xs, o.f0.size ≤ 9223372036854775807) (ht : t.size ≤ 9223372036854775807) : Ev (fun k => spec_l05Ask.f k xs t) (openFault xs t) := by
  have loop : ∀ i, i ≤ xs.length → Ev (fun k => spec_l05Ask.l0 k xs t i) (if (xs.drop i).any badOpen then 1 else if !Kit.isTag t then 10 else 0) := by
    refine Kit.down ?_ ?_
    · rw [List.drop_length]
      refine Ev.step (fun k => by rw [spec_l05Ask.l0]) (Kit.ev_neg (by omega) (Ev.bind (ev_tag_spec t ht) (Kit.ev_if (fun h => ?_) (fun h => ?_))))
      · rw [h]; exact Ev.now _
      · rw [Bool.eq_false_iff.2 h]; exact Ev.now _
    · intro i hi ih
      refine Ev.step (fun k => by rw [spec_l05Ask.l0]) (Kit.ev_pos (by omega) (Kit.ev_pos (by omega) ?_))
      rw [rdO_nat, Kit.wrap_nat hi (by omega), Kit.drop_getD z96 xs i hi, List.any_cons]
      refine Ev.bind (ev_l05Open _ (hs _ (Kit.getD_mem _ hi))) (Kit.ev_if (fun h => ?_) (fun h => ?_))
      · rw [show badOpen (xs.getD i z96) = false by simpa using h, Bool.false_or]; exact ih
      · rw [show badOpen (xs.getD i z96) = true by simpa using h, Bool.true_or]; exact Ev.now _
  unfold spec_l05Ask.f
  refine Kit.ev_if (fun h => ?_) (fun h => ?_)
  · rw [show openFault xs t = 2 from if_pos (.inl (by omega))]
    exact Ev.step (fun k => by rw [spec_l05Ask.j0]) (Kit.ev_pos rfl (Ev.now _))
  · by_cases h2 : (t.size : Int) > 65536
    · rw [decide_eq_true h2, show openFault xs t = 2 from if_pos (.inr (by omega))]
      exact Ev.step (fun k => by rw [spec_l05Ask.j0]) (Kit.ev_pos rfl (Ev.now _))
    · rw [decide_eq_false h2]
      refine Ev.step (f := fun k => spec_l05Ask.l0 k xs t 0) (fun k => by rw [spec_l05Ask.j0, if_neg Bool.false_ne_true]) ?_
      have e : openFault xs t = if xs.any badOpen then 1 else if !Kit.isTag t then 10 else 0 := if_neg (by omega)
      rw [e]
      exact loop 0 (by omega)
theorem ev_l05Close (xs : List S96) (t : ByteArray) (hn : xs.length ≤ 1048576) : Ev (fun k => spec_l05Close.f k xs t) (lastAt xs t) := by
  have loop : ∀ i, i ≤ xs.length → Ev (fun k => spec_l05Close.l0 k xs t ((i : Int) - 1)) (Back.lastI (fun j => ((xs.getD j z96).f0, (xs.getD j z96).f1)) t i) := by
    intro i
    induction i with
    | zero => intro _; exact Ev.step (f := fun k => some (-1)) (fun k => by rw [spec_l05Close.l0, if_neg (by omega)]) (Ev.now _)
    | succ i ih =>
      intro hi
      rw [show (((i + 1 : Nat) : Int) - 1) = (i : Int) by omega, Back.lastI]
      refine Ev.step (fun k => by rw [spec_l05Close.l0]) (Kit.ev_pos (by omega) (Kit.ev_pos (by omega) (Kit.ev_pos (by omega) ?_)))
      rw [rdO_nat, Kit.wrap_of (i := (i : Int) - 1) (by omega) (by omega)]
      refine Kit.ev_if (fun h => ?_) (fun h => ?_)
      · rw [if_pos (Kit.toList_inj h)]; exact Ev.now _
      · rw [if_neg (fun e => h (congrArg ByteArray.toList e))]; exact ih (by omega)
  unfold spec_l05Close.f lastAt
  rw [Kit.wrap_of (i := (xs.length : Int) - 1) (by omega) (by omega)]
  exact loop xs.length (Nat.le_refl _)
theorem proved : laws_FnExactCloseAt.PureS := by
  intro l t hl ht
  have ht' : t.size ≤ 9223372036854775807 := ht
  refine Ev.rounds (g := fun k => laws_FnExactCloseAt.f k l t) ?_
  unfold laws_FnExactCloseAt.f
  refine Kit.ev_if (fun _ => Ev.now _) (fun hts => ?_)
  obtain ⟨u, hu, hul, hug⟩ := ev_szOpenS l 1048576 (by omega) (by omega) hl
  refine Ev.bind hu (Kit.ev_if (fun _ => Ev.now _) (fun hn => ?_))
  obtain ⟨hlen, hfit⟩ := hug (by omega)
  have hto := ev_toOpenS l hlen
  have hlen2 : (l.map toO).length ≤ 1048576 := by rw [List.length_map]; exact hlen
  have hs : ∀ o ∈ l.map toO, o.f0.size ≤ 9223372036854775807 := by
    intro o ho
    obtain ⟨a, ha, rfl⟩ := List.mem_map.1 ho
    have : a.f0.size ≤ 1048576 := hfit a ha
    show a.f0.size ≤ _
    omega
  generalize l.map toO = xs at hto hlen2 hs
  -- what both tell
  have hv : ∃ v : Int × Int, Ev (fun k => spec_CloseAt.f k xs t) v ∧ Ev (fun k => impl_CloseAt.f xs t) v := by
    refine ⟨if openFault xs t = 0 then (if lastAt xs t < 0 then (0, 5) else (lastAt xs t, 0)) else (0, openFault xs t), ?_, ?_⟩
    · unfold spec_CloseAt.f
      have hlong : Ev (fun k => spec_CloseAt.j0 k xs t true) (0, 2) := Ev.step (fun k => by rw [spec_CloseAt.j0]) (Kit.ev_pos rfl (Ev.now _))
      refine Kit.ev_if (fun h => ?_) (fun h => ?_)
      · have e : openFault xs t = 2 := if_pos (.inl (by omega))
        rw [e]; exact hlong
      · by_cases h2 : (t.size : Int) > 65536
        · have e : openFault xs t = 2 := if_pos (.inr (by omega))
          rw [e, decide_eq_true h2]; exact hlong
        · rw [decide_eq_false h2]
          refine Ev.step (fun k => by rw [spec_CloseAt.j0]) (Kit.ev_neg Bool.false_ne_true (Ev.bind (ev_l05Ask xs t hlen2 hs ht') (Kit.ev_if (fun h3 => ?_) (fun h3 => ?_))))
          · rw [if_pos h3]
            refine Ev.bind (ev_l05Close xs t hlen2) (Kit.ev_if (fun h4 => ?_) (fun h4 => ?_))
            · rw [if_pos h4]; exact Ev.now _
            · rw [if_neg h4]; exact Ev.now _
          · rw [if_neg h3]; exact Ev.now _
    · unfold impl_CloseAt.f
      refine Kit.ev_some (a := openFault xs t) (by unfold impl_faultOpen.f; rw [if_pos ⟨hs, ht'⟩]) (Kit.ev_if (fun h3 => ?_) (fun h3 => ?_))
      · rw [if_pos h3]
        refine Kit.ev_some (a := lastAt xs t) rfl (Kit.ev_if (fun h4 => ?_) (fun h4 => ?_))
        · rw [if_pos h4]; exact Ev.now _
        · rw [if_neg h4]; exact Ev.now _
      · rw [if_neg h3]; exact Ev.now _
  obtain ⟨v, hvs, hvi⟩ := hv
  have heq := ev_eqOpenS xs hlen2
  refine Ev.bind hto (Ev.bind hvs (Ev.bind hto (Ev.bind hvi (Kit.ev_pos rfl ?_))))
  have : (v.2 != v.2) = false := by simp
  rw [this]
  exact Ev.step (fun k => by rw [laws_FnExactCloseAt.j0]) (Kit.ev_neg Bool.false_ne_true (Ev.bind hto (Ev.bind heq (Kit.ev_pos rfl (Ev.now _)))))
end Go.Proofs.Ytophaihdibplkaa.Pure.LCloseAt
namespace Go.Proofs.Ytophaihdibplkaa.Pure
theorem FnExactCloseAt : PFnExactCloseAt.laws_FnExactCloseAt.PureS := LCloseAt.proved
end Go.Proofs.Ytophaihdibplkaa.Pure
