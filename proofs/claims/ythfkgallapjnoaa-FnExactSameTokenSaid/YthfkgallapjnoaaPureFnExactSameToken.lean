/- The pure statement of FnExactSameToken: for every two tokens both functions tell the same. No conditions. -/
import Derived.Test.YthfkgallapjnoaaKit
import Derived.Test.YthfkgallapjnoaaOpensFnExactSameToken
namespace Go.Proofs.Ythfkgallapjnoaa.Pure.LSameToken
open Go.RowKit Go.Proofs.Ythfkgallapjnoaa.PFnExactSameToken Go.Proofs.YthfkgallapjnoaaW.PrintWords
/- Lists of attributes: laws' kind S72, the program's kind S64. -/
def toA (a : S72) : S64 := ⟨a.f0, a.f1⟩
theorem rdA_nat (xs : List S72) (i : Nat) : rd_T72 xs (i : Int) = xs.getD i z72 := by simp [rd_T72]
theorem rdB_nat (xs : List S64) (i : Nat) : rd_T64 xs (i : Int) = xs.getD i z64 := by simp [rd_T64]
def szA (a : S72) (l : Int) : Int := if l - (a.f0.size : Int) < 0 then -1 else if l - (a.f0.size : Int) - (a.f1.size : Int) < 0 then -1 else l - (a.f0.size : Int) - (a.f1.size : Int)
/-- An attribute whose texts are short. -/
def FitA (a : S72) : Prop := a.f0.size ≤ 1048576 ∧ a.f1.size ≤ 1048576
theorem szAttr_eq (a : S72) (l : Int) (h0 : 0 ≤ l) (h1 : l ≤ 1048576) (hg : G72 a) : laws_szAttr.f a.f0 a.f1 l = some (szA a l) := by
  have s0 : a.f0.size ≤ 9223372036854775807 := hg.1
  have s1 : a.f1.size ≤ 9223372036854775807 := hg.2
  unfold laws_szAttr.f szA
  have hw : wrap64 (l - (a.f0.size : Int)) = l - (a.f0.size : Int) := Kit.wrap_of (by omega) (by omega)
  rw [hw]
  by_cases h : l - (a.f0.size : Int) < 0
  · rw [if_pos h, if_pos h]
  · rw [if_neg h, if_neg h]
    have hw2 : wrap64 (l - (a.f0.size : Int) - (a.f1.size : Int)) = l - (a.f0.size : Int) - (a.f1.size : Int) := Kit.wrap_of (by omega) (by omega)
    rw [hw2]
    by_cases h2 : l - (a.f0.size : Int) - (a.f1.size : Int) < 0
    · rw [if_pos h2, if_pos h2]
    · rw [if_neg h2, if_neg h2]
theorem szA_fit (a : S72) (l : Int) (h0 : 0 ≤ l) (h1 : l ≤ 1048576) : szA a l ≤ l ∧ (0 ≤ szA a l → FitA a) := by
  unfold szA FitA
  by_cases h : l - (a.f0.size : Int) < 0
  · rw [if_pos h]; exact ⟨by omega, fun h => absurd h (by omega)⟩
  · rw [if_neg h]
    by_cases h2 : l - (a.f0.size : Int) - (a.f1.size : Int) < 0
    · rw [if_pos h2]; exact ⟨by omega, fun h => absurd h (by omega)⟩
    · rw [if_neg h2]; exact ⟨by omega, fun _ => ⟨by omega, by omega⟩⟩
theorem ev_szAttrS (xs : List S72) (left : Int) (h0 : 0 ≤ left) (h1 : left ≤ 1048576) (hx : Open.Few G72 xs) :
    ∃ t, Ev (fun k => laws_szAttrS.f k xs left) t ∧ t ≤ left ∧ (0 ≤ t → xs.length ≤ 1048576 ∧ ∀ x ∈ xs, FitA x) := by
  have hn := hx.1
  have hw : wrap64 (left - (xs.length : Int)) = left - (xs.length : Int) := Kit.wrap_of (by omega) (by omega)
  unfold laws_szAttrS.f
  rw [hw]
  by_cases hneg : left - (xs.length : Int) < 0
  · exact ⟨-1, Kit.ev_pos hneg (Ev.now _), by omega, fun h => absurd h (by omega)⟩
  · obtain ⟨t, ht, htl, hg⟩ := Kit.ev_size z72 (xs := xs) (P := FitA) (E := szA) (L := fun k l i => laws_szAttrS.l0 k xs l i) (fun a _ l a0 a1 => szA_fit a l a0 a1)
      (fun l => Ev.step (fun k => rfl) (Kit.ev_neg (by omega) (Ev.now _)))
      (fun i hi l a0 a1 hE => Ev.step (fun k => rfl) (Kit.ev_pos (by omega) (Kit.ev_pos (by omega) (by rw [rdA_nat]; exact Kit.ev_some (szAttr_eq _ l a0 a1 (hx.2 _ (Kit.getD_mem _ hi))) (Kit.ev_pos hE (Ev.now _))))))
      (fun i hi l r a0 a1 hE ih => Ev.step (fun k => rfl) (Kit.ev_pos (by omega) (Kit.ev_pos (by omega) (by rw [rdA_nat, Kit.wrap_nat hi (by omega)]; exact Kit.ev_some (szAttr_eq _ l a0 a1 (hx.2 _ (Kit.getD_mem _ hi))) (Kit.ev_neg (by omega) ih)))))
      (left - (xs.length : Int)) (by omega) (by omega)
    exact ⟨t, Kit.ev_neg hneg ht, by omega, fun h => ⟨by omega, hg h⟩⟩
theorem ev_toAttrS (xs : List S72) (hn : xs.length ≤ 1048576) : Ev (fun k => laws_toAttrS.f k xs) (xs.map toA) := by
  unfold laws_toAttrS.f
  refine Kit.ev_pos (by omega) (Kit.ev_pos (by omega) ?_)
  rw [Int.toNat_natCast]
  refine Kit.ev_conv z72 (L := fun k acc i => laws_toAttrS.l0 k xs acc i) (fun acc hl => Ev.step (fun k => rfl) (Kit.ev_neg (by omega) (Ev.now _))) ?_ _ (by rw [List.length_replicate])
  intro i hi acc r hl ih
  refine Ev.step (fun k => rfl) (Kit.ev_pos (by omega) (Kit.ev_pos (by omega) ?_))
  rw [rdA_nat, Kit.wrap_nat hi (by omega), Int.toNat_natCast]
  exact Kit.ev_some rfl (Kit.ev_pos (by omega) ih)
theorem ev_eqAttrS (xs : List S64) (hn : xs.length ≤ 1048576) : Ev (fun k => laws_eqAttrS.f k xs xs) true := by
  unfold laws_eqAttrS.f
  refine Kit.ev_pos rfl (Kit.ev_refl (n := xs.length) (L := fun k i => laws_eqAttrS.l0 k xs xs i) (Ev.step (fun k => rfl) (Kit.ev_neg (by omega) (Ev.now _))) ?_)
  intro i hi ih
  refine Ev.step (fun k => rfl) (Kit.ev_pos (by omega) (Kit.ev_pos (by omega) (Kit.ev_pos (by omega) ?_)))
  rw [Kit.wrap_nat hi (by omega)]
  refine Kit.ev_some (a := true) ?_ (Kit.ev_pos rfl ih)
  unfold laws_eqAttr.f
  rw [if_pos rfl, if_pos rfl]
theorem ev_szToken (x : S39) (left : Int) (h0 : 0 ≤ left) (h1 : left ≤ 1048576) (hg : G39 x) :
    ∃ t, Ev (fun k => laws_szToken.f k x.f0 x.f1 x.f2 x.f3 x.f4 x.f5 x.f6 left) t ∧ t ≤ left ∧ (0 ≤ t → x.f5.length ≤ 1048576) := by
  obtain ⟨_, _, _, g3, g4, g5, _⟩ := hg
  have s3 : x.f3.size ≤ 9223372036854775807 := g3
  have s4 : x.f4.size ≤ 9223372036854775807 := g4
  unfold laws_szToken.f
  have hw : wrap64 (left - (x.f3.size : Int)) = left - (x.f3.size : Int) := Kit.wrap_of (by omega) (by omega)
  rw [hw]
  by_cases h : left - (x.f3.size : Int) < 0
  · exact ⟨-1, Kit.ev_pos h (Ev.now _), by omega, fun h => absurd h (by omega)⟩
  have hw2 : wrap64 (left - (x.f3.size : Int) - (x.f4.size : Int)) = left - (x.f3.size : Int) - (x.f4.size : Int) := Kit.wrap_of (by omega) (by omega)
  rw [hw2]
  by_cases h2 : left - (x.f3.size : Int) - (x.f4.size : Int) < 0
  · exact ⟨-1, Kit.ev_neg h (Kit.ev_pos h2 (Ev.now _)), by omega, fun h => absurd h (by omega)⟩
  obtain ⟨t, ht, htl, htg⟩ := ev_szAttrS x.f5 (left - (x.f3.size : Int) - (x.f4.size : Int)) (by omega) (by omega) g5
  by_cases h3 : t < 0
  · exact ⟨-1, Kit.ev_neg h (Kit.ev_neg h2 (Ev.bind ht (Kit.ev_pos h3 (Ev.now _)))), by omega, fun h => absurd h (by omega)⟩
  · exact ⟨t, Kit.ev_neg h (Kit.ev_neg h2 (Ev.bind ht (Kit.ev_neg h3 (Ev.now _)))), by omega, fun h => (htg h).1⟩
theorem ev_toToken (x : S39) (hn : x.f5.length ≤ 1048576) : Ev (fun k => laws_toToken.f k x.f0 x.f1 x.f2 x.f3 x.f4 x.f5 x.f6) (x.f0, x.f1, x.f2, x.f3, x.f4, x.f5.map toA, x.f6) := by
  unfold laws_toToken.f
  exact Ev.bind (ev_toAttrS x.f5 hn) (Ev.now _)
/-- Two attributes differ. -/
def neA (a b : S64) : Bool := (!(a.f0.toList == b.f0.toList)) || (!(a.f1.toList == b.f1.toList))
def sameAs (xs ys : List S64) : Bool := decide (xs.length = ys.length) && Kit.allB (fun i => !neA (xs.getD i z64) (ys.getD i z64)) 0 xs.length
theorem ev_sameSpec (xs ys : List S64) (hn : xs.length ≤ 1048576) : Ev (fun k => spec_l03SameAttrs.f k xs ys) (sameAs xs ys) := by
  unfold spec_l03SameAttrs.f sameAs
  refine Kit.ev_if (fun h => ?_) (fun h => ?_)
  · have hl : xs.length = ys.length := by omega
    rw [decide_eq_true hl, Bool.true_and]
    refine Kit.ev_every (L := fun k i => spec_l03SameAttrs.l0 k xs ys i) (Ev.step (fun k => rfl) (Kit.ev_neg (by omega) (Ev.now _))) ?_ ?_
    · intro i hi hP
      refine Ev.step (fun k => rfl) (Kit.ev_pos (by omega) (Kit.ev_pos (by omega) (Kit.ev_pos (by omega) ?_)))
      rw [rdB_nat, rdB_nat]
      exact Kit.ev_pos (show neA _ _ = true by simpa using hP) (Ev.now _)
    · intro i hi hP r ih
      refine Ev.step (fun k => rfl) (Kit.ev_pos (by omega) (Kit.ev_pos (by omega) (Kit.ev_pos (by omega) ?_)))
      rw [rdB_nat, rdB_nat, Kit.wrap_nat hi (by omega)]
      exact Kit.ev_neg (show ¬ neA _ _ = true by simpa using hP) ih
  · rw [decide_eq_false (by omega), Bool.false_and]; exact Ev.now _
theorem ev_sameImpl (xs ys : List S64) (hn : xs.length ≤ 1048576) : Ev (fun k => impl_Attr.f k xs ys) (sameAs xs ys) := by
  unfold impl_Attr.f sameAs
  refine Kit.ev_if (fun h => ?_) (fun h => ?_)
  · have hl : xs.length = ys.length := by omega
    rw [decide_eq_true hl, Bool.true_and]
    refine Kit.ev_every (L := fun k i => impl_Attr.l0 k xs ys xs.length i) (Ev.step (fun k => rfl) (Kit.ev_neg (by omega) (Ev.now _))) ?_ ?_
    · intro i hi hP
      refine Ev.step (fun k => rfl) (Kit.ev_pos (by omega) (Kit.ev_pos (by omega) (Kit.ev_pos (by omega) (Kit.ev_pos (by omega) ?_))))
      rw [rdB_nat, rdB_nat]
      exact Kit.ev_pos (show neA _ _ = true by simpa using hP) (Ev.now _)
    · intro i hi hP r ih
      refine Ev.step (fun k => rfl) (Kit.ev_pos (by omega) (Kit.ev_pos (by omega) (Kit.ev_pos (by omega) (Kit.ev_pos (by omega) ?_))))
      rw [rdB_nat, rdB_nat, Kit.wrap_nat hi (by omega)]
      exact Kit.ev_neg (show ¬ neA _ _ = true by simpa using hP) ih
  · rw [decide_eq_false (by omega), Bool.false_and]; exact Ev.now _
def sameTk (a0 a1 a2 : Int) (a3 a4 : ByteArray) (a5 : List S64) (a6 : Bool) (b0 b1 b2 : Int) (b3 b4 : ByteArray) (b5 : List S64) (b6 : Bool) : Bool :=
  if a0 = b0 then (if a1 = b1 then (if a2 = b2 then (if a3.toList = b3.toList then (if a4.toList = b4.toList then (sameAs a5 b5 && (a6 == b6)) else false) else false) else false) else false) else false
theorem proved : laws_FnExactSameToken.PureS := by
  intro x y hx hy
  refine Ev.rounds (g := fun k => laws_FnExactSameToken.f k x.f0 x.f1 x.f2 x.f3 x.f4 x.f5 x.f6 y.f0 y.f1 y.f2 y.f3 y.f4 y.f5 y.f6) ?_
  unfold laws_FnExactSameToken.f
  obtain ⟨t, ht, htl, htg⟩ := ev_szToken x 1048576 (by omega) (by omega) hx
  refine Ev.bind ht (Kit.ev_if (fun _ => Ev.now _) (fun hn => ?_))
  obtain ⟨u, hu, hul, hug⟩ := ev_szToken y t (by omega) (by omega) hy
  refine Ev.bind hu (Kit.ev_if (fun _ => Ev.now _) (fun hn2 => ?_))
  have lx := htg (by omega)
  have ly := hug (by omega)
  have tx := ev_toToken x lx
  have ty := ev_toToken y ly
  have lx2 : (x.f5.map toA).length ≤ 1048576 := by rw [List.length_map]; exact lx
  have ly2 : (y.f5.map toA).length ≤ 1048576 := by rw [List.length_map]; exact ly
  have hs : Ev (fun k => spec_SameToken.f k x.f0 x.f1 x.f2 x.f3 x.f4 (x.f5.map toA) x.f6 y.f0 y.f1 y.f2 y.f3 y.f4 (y.f5.map toA) y.f6) (sameTk x.f0 x.f1 x.f2 x.f3 x.f4 (x.f5.map toA) x.f6 y.f0 y.f1 y.f2 y.f3 y.f4 (y.f5.map toA) y.f6) := by
    unfold spec_SameToken.f sameTk
    repeat (refine Kit.ev_if (fun h => ?_) (fun h => by rw [if_neg h]; exact Ev.now _); rw [if_pos h]; clear h)
    refine Ev.bind (ev_sameSpec _ _ lx2) (Kit.ev_if (fun h => ?_) (fun h => ?_))
    · rw [h, Bool.true_and]; exact Ev.now _
    · rw [Bool.eq_false_iff.2 h, Bool.false_and]; exact Ev.now _
  have hi : Ev (fun k => impl_SameToken.f k x.f0 x.f1 x.f2 x.f3 x.f4 (x.f5.map toA) x.f6 y.f0 y.f1 y.f2 y.f3 y.f4 (y.f5.map toA) y.f6) (sameTk x.f0 x.f1 x.f2 x.f3 x.f4 (x.f5.map toA) x.f6 y.f0 y.f1 y.f2 y.f3 y.f4 (y.f5.map toA) y.f6) := by
    unfold impl_SameToken.f sameTk
    refine Kit.ev_if (fun h => ?_) (fun h => by rw [if_neg h]; exact Ev.now _); rw [if_pos h]; clear h
    refine Kit.ev_if (fun h => ?_) (fun h => by rw [if_neg h]; exact Ev.now _); rw [if_pos h]; clear h
    refine Kit.ev_if (fun h => ?_) (fun h => by rw [if_neg h]; exact Ev.now _); rw [if_pos h]; clear h
    refine Kit.ev_if (fun h => ?_) (fun h => by rw [if_neg h]; exact Ev.now _); rw [if_pos h]; clear h
    refine Kit.ev_if (fun h => ?_) (fun h => by rw [if_neg h]; exact Ev.now _); rw [if_pos h]; clear h
    refine Kit.ev_if (fun h => ?_) (fun h => ?_)
    · rw [h, Bool.and_true]; exact Ev.bind (ev_sameImpl _ _ lx2) (Ev.now _)
    · rw [Bool.eq_false_iff.2 h, Bool.and_false]; exact Ev.now _
  have he : ∀ z : S39, z.f5.length ≤ 1048576 → Ev (fun k => laws_eqToken.f k z.f0 z.f1 z.f2 z.f3 z.f4 (z.f5.map toA) z.f6 z.f0 z.f1 z.f2 z.f3 z.f4 (z.f5.map toA) z.f6) true := by
    intro z hz
    unfold laws_eqToken.f
    exact Kit.ev_pos rfl (Kit.ev_pos rfl (Kit.ev_pos rfl (Kit.ev_pos rfl (Kit.ev_pos rfl (Ev.bind (ev_eqAttrS _ (by rw [List.length_map]; exact hz)) (Kit.ev_pos rfl (Kit.ev_neg (by simp) (Ev.now _))))))))
  exact Ev.bind tx (Ev.bind ty (Ev.bind hs (Ev.bind tx (Ev.bind ty (Ev.bind hi (Kit.ev_neg (by simp) (Ev.bind tx (Ev.bind (he x lx) (Kit.ev_pos rfl (Ev.bind ty (Ev.bind (he y ly) (Kit.ev_pos rfl (Ev.now _)))))))))))))
end Go.Proofs.Ythfkgallapjnoaa.Pure.LSameToken
namespace Go.Proofs.Ythfkgallapjnoaa.Pure
theorem FnExactSameToken : PFnExactSameToken.laws_FnExactSameToken.PureS := LSameToken.proved
end Go.Proofs.Ythfkgallapjnoaa.Pure
