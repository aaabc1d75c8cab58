/- The pure statement of FnExactLowerOf: for every text both functions tell the same text. No conditions. -/
import Derived.Test.YthfkgallapjnoaaKit
import Derived.Test.YthfkgallapjnoaaPFnExactLowerOfx1
namespace Go.Proofs.Ythfkgallapjnoaa.Pure.LLowerOf
open Go.RowKit Go.Proofs.Ythfkgallapjnoaa.PFnExactLowerOf Go.Proofs.YthfkgallapjnoaaW.PrintWords
theorem isLong1 (a : ByteArray) : impl_isLong.f [a] = some (decide (65536 < (a.size : Int))) := by
  unfold impl_isLong.f
  rw [if_pos (by simp)]
  simp
theorem lowS_bytes (s : ByteArray) : bytesOf (lowS s) = (bytesOf s).map lowC := by
  unfold lowS
  have hx : ((List.range s.size).map fun (i : Nat) => lowC (bt s (i : Int))) = (bytesOf s).map lowC := by
    apply List.ext_getElem
    · simp [bytesOf_length]
    · intro i h1 h2
      simp only [List.length_map, List.length_range] at h1
      simp only [List.getElem_map, List.getElem_range]
      rw [Kit.bt_rd]
      have : i < (bytesOf s).length := by rw [bytesOf_length]; exact h1
      simp [List.getD, this]
  rw [hx]
  apply Kit.bytesOf_strOf
  intro x hx
  obtain ⟨y, hy, rfl⟩ := List.mem_map.1 hx
  have := Kit.bytesOf_mem hy
  unfold lowC
  by_cases h : 65 ≤ y ∧ y ≤ 90
  · rw [if_pos h]; omega
  · rw [if_neg h]; omega
theorem lower_eq (s : ByteArray) (h : s.size ≤ 9223372036854775807) : impl_lower.f s = some (lowS s) := if_pos h
theorem ev_l01Lower (s : ByteArray) (hn : s.size ≤ 140737488351232) : Ev (fun k => spec_l01Lower.f k s) (lowS s) := by
  have key : ∀ i : Nat, i ≤ s.size → ∀ acc : List Int, acc = ((bytesOf s).take i).map lowC → Ev (fun k => spec_l01Lower.l0 k s acc i) (lowS s) := by
    refine Kit.down ?_ ?_
    · intro acc ha
      refine Ev.step (fun k => rfl) (Kit.ev_neg (by omega) (Kit.ev_const ?_))
      rw [ha, List.take_of_length_le (by rw [bytesOf_length]; exact Nat.le_refl _), ← lowS_bytes, Kit.strOf_bytesOf]
    · intro i hi ih acc ha
      have hl : acc.length < 140737488355328 := by
        rw [ha, List.length_map, List.length_take, bytesOf_length]; omega
      have hnext : ∀ x, x = lowC (bt s (i : Int)) → Ev (fun k => if acc.length < 140737488355328 then spec_l01Lower.l0 k s (acc ++ [x]) (wrap64 ((i : Int) + 1)) else none) (lowS s) := by
        intro x hx
        refine Kit.ev_pos hl ?_
        rw [Kit.wrap_nat hi (by omega)]
        refine ih _ ?_
        rw [ha, hx, ← List.map_singleton, ← List.map_append, List.take_add_one, Kit.bt_rd]
        have : i < (bytesOf s).length := by rw [bytesOf_length]; exact hi
        simp [List.getD, this]
      have hb := bt_range s (i : Int)
      refine Ev.step (fun k => rfl) (Kit.ev_pos (by omega) (Kit.ev_pos (by omega) ?_))
      refine Kit.ev_if (fun h1 => Kit.ev_if (fun h2 => hnext _ ?_) (fun h2 => hnext _ ?_)) (fun h1 => hnext _ ?_)
      · unfold lowC; rw [if_pos ⟨h1, h2⟩]; omega
      · unfold lowC; rw [if_neg (by omega)]
      · unfold lowC; rw [if_neg (by omega)]
  exact key 0 (by omega) [] (by simp)
theorem proved : laws_FnExactLowerOf.Pure := by
  intro a ha
  refine Ev.rounds (g := fun k => laws_FnExactLowerOf.f k a) ?_
  unfold laws_FnExactLowerOf.f spec_LowerOf.f impl_LowerOf.f
  rw [isLong1, Option.bind_some]
  refine Kit.ev_if (fun _ => Ev.now _) (fun _ => ?_)
  by_cases h : (a.size : Int) > 65536
  · refine Ev.bind (Kit.ev_pos h (Ev.now _)) ?_
    refine Kit.ev_const ?_
    rw [if_pos (by simpa using h), Option.bind_some, if_pos rfl]
  · refine Ev.bind (Kit.ev_neg h (Ev.bind (ev_l01Lower a ha) (Ev.now _))) ?_
    refine Kit.ev_const ?_
    rw [if_neg (by simpa using h), lower_eq a (by omega), Option.bind_some, Option.bind_some, if_pos rfl]
end Go.Proofs.Ythfkgallapjnoaa.Pure.LLowerOf
namespace Go.Proofs.Ythfkgallapjnoaa.Pure
theorem FnExactLowerOf : PFnExactLowerOf.laws_FnExactLowerOf.Pure := LLowerOf.proved
end Go.Proofs.Ythfkgallapjnoaa.Pure
