/- By a program of this session, out of the kit's print and contracts made by hand: the machine side of a law; Lean checks it. No conditions. -/
import Derived.Test.YtaoalcaabhcjeaaPFnExactSameTreex0
import Derived.Test.YtaoalcaabhcjeaaPFnExactSameTreex27
import Derived.Test.YtaoalcaabhcjeaaPFnExactSameTreex28
namespace Go.Proofs.Ytaoalcaabhcjeaa.PFnExactSameTree
open Go.RowKit Go.Proofs.YtaoalcaabhcjeaaW.PrintWords Go.Proofs.YtaoalcaabhcjeaaW.PrintLast Go.Proofs.YtaoalcaabhcjeaaW.PrintMore
attribute [local go_sem] max2_int min2_int max_two min_two max_three min_three max_four min_four   -- for this text's walks alone
set_option linter.unusedVariables false
set_option linter.unusedSimpArgs false

/-! ### impl_areAlike: function 36, by hand -/
-- also 70
def nodeS : Nat → S46 → S46 → Bool
  | 0, _, _ => false
  | n + 1, x, y => x.f0 == y.f0 && (x.f1 == y.f1 && (x.f2.toList == y.f2.toList && (x.f3.toList == y.f3.toList && (eqAttrs x.f4 y.f4 && (decide (x.f5.length = y.f5.length) && Mach.allP (fun j => nodeS n (x.f5.getD j z46) (y.f5.getD j z46)) x.f5.length)))))
def treesS (n : Nat) (l0 l1 : List S46) : Bool := decide (l0.length = l1.length) && Mach.allP (fun j => nodeS n (l0.getD j z46) (l1.getD j z46)) l0.length
def depB : Nat → S46 → Bool
  | 0, _ => false
  | n + 1, x => x.f5.all (depB n)
def impl_areAlike.f (l0 l1 : List S46) : Option Bool := if ∀ y ∈ l0, depB 10 y = true then some (treesS 10 l0 l1) else none
/-- The cells of a list of nodes. -/
theorem nodeCells (A0 : Option Addr) (l0 : List S46) (w : World) (hr0 : Kd.C k46 w A0 l0.length l0) : ∃ F : Nat → (Option Addr × Nat) × (Option Addr × Nat), ∀ j, j < l0.length → (∃ ad, A0 = some ad ∧ ∀ i u, ([.int .i64 (l0.getD j z46).f0, .int .i64 (l0.getD j z46).f1, .string (l0.getD j z46).f2, .string (l0.getD j z46).f3, .slice (F j).1.1 (l0.getD j z46).f4.length (F j).1.2, .slice (F j).2.1 (l0.getD j z46).f5.length (F j).2.2] : List Value)[i]? = some u → w.cell? (ad.add (j * 6 + i)) = some u) ∧ (l0.getD j z46).f4.length ≤ (F j).1.2 ∧ Kd.C k80 w (F j).1.1 (l0.getD j z46).f4.length (l0.getD j z46).f4 ∧ (l0.getD j z46).f5.length ≤ (F j).2.2 ∧ Kd.C k46 w (F j).2.1 (l0.getD j z46).f5.length (l0.getD j z46).f5 := by
  have hcells : ∀ j, j < l0.length → ∃ a : (Option Addr × Nat) × (Option Addr × Nat), (∃ ad, A0 = some ad ∧ ∀ i u, ([.int .i64 (l0.getD j z46).f0, .int .i64 (l0.getD j z46).f1, .string (l0.getD j z46).f2, .string (l0.getD j z46).f3, .slice (a).1.1 (l0.getD j z46).f4.length (a).1.2, .slice (a).2.1 (l0.getD j z46).f5.length (a).2.2] : List Value)[i]? = some u → w.cell? (ad.add (j * 6 + i)) = some u) ∧ (l0.getD j z46).f4.length ≤ (a).1.2 ∧ Kd.C k80 w (a).1.1 (l0.getD j z46).f4.length (l0.getD j z46).f4 ∧ (l0.getD j z46).f5.length ≤ (a).2.2 ∧ Kd.C k46 w (a).2.1 (l0.getD j z46).f5.length (l0.getD j z46).f5 := by
    intro j hj
    obtain ⟨ad, c, e, hcl, hK, hc⟩ := Kd.C_get hr0 z46 (j : Int) (by omega) (by omega)
    rw [Int.toNat_natCast] at hK hc
    obtain ⟨A4, c4, A5, c5, rfl, h1, h2, h3, h4⟩ := k46_open hK
    exact ⟨((A4, c4), (A5, c5)), ⟨ad, e, hc⟩, h1, h2, h3, h4⟩
  refine ⟨fun j => if hj : j < l0.length then (hcells j hj).choose else ((none, 0), (none, 0)), fun j hj => ?_⟩
  simp only [dif_pos hj]
  exact (hcells j hj).choose_spec
theorem impl_areAlike.of (n : Nat) (ih : ∀ (x y : S46) (A4 : Option Addr) (c4 : Nat) (A5 : Option Addr) (c5 : Nat) (B4 : Option Addr) (d4 : Nat) (B5 : Option Addr) (d5 : Nat) (w : World) (hd : depB n x = true) (h4 : Kd.C k80 w A4 x.f4.length x.f4) (l4 : x.f4.length ≤ c4) (h5 : Kd.C k46 w A5 x.f5.length x.f5) (l5 : x.f5.length ≤ c5) (g4 : Kd.C k80 w B4 y.f4.length y.f4) (m4 : y.f4.length ≤ d4) (g5 : Kd.C k46 w B5 y.f5.length y.f5) (m5 : y.f5.length ≤ d5), Calls Try.prog 55 #[.agg #[.int .i64 x.f0, .int .i64 x.f1, .string x.f2, .string x.f3, .slice A4 x.f4.length c4, .slice A5 x.f5.length c5], .agg #[.int .i64 y.f0, .int .i64 y.f1, .string y.f2, .string y.f3, .slice B4 y.f4.length d4, .slice B5 y.f5.length d5]] w fun e w' => e = .returned (.bool (nodeS n x y)) ∧ Below w.heap.size w w') (A0 : Option Addr) (c0 : Nat) (l0 : List S46) (A1 : Option Addr) (c1 : Nat) (l1 : List S46) (w : World) (hr0 : Kd.C k46 w A0 l0.length l0) (hr1 : Kd.C k46 w A1 l1.length l1) (hd : ∀ y ∈ l0, depB n y = true) :
    Calls Try.prog 36 #[.slice A0 l0.length c0, .slice A1 l1.length c1] w fun e w' => e = .returned (.bool (treesS n l0 l1)) ∧ Below w.heap.size w w' := by
  obtain ⟨F, hF⟩ := nodeCells A0 l0 w hr0
  obtain ⟨G, hG⟩ := nodeCells A1 l1 w hr1
  have q := EqualFunc_Node.holds A0 A1 l0.length c0 l1.length c1 (fun j => [.int .i64 (l0.getD j z46).f0, .int .i64 (l0.getD j z46).f1, .string (l0.getD j z46).f2, .string (l0.getD j z46).f3, .slice (F j).1.1 (l0.getD j z46).f4.length (F j).1.2, .slice (F j).2.1 (l0.getD j z46).f5.length (F j).2.2]) (fun j => [.int .i64 (l1.getD j z46).f0, .int .i64 (l1.getD j z46).f1, .string (l1.getD j z46).f2, .string (l1.getD j z46).f3, .slice (G j).1.1 (l1.getD j z46).f4.length (G j).1.2, .slice (G j).2.1 (l1.getD j z46).f5.length (G j).2.2]) (fun j => nodeS n (l0.getD j z46) (l1.getD j z46)) 55 #[] (Mach.enters_of Try.func55 (by kernel_rfl) rfl) w
    (fun j hj hj2 V hb => (ih (l0.getD j z46) (l1.getD j z46) _ _ _ _ _ _ _ _ V (hd _ (Kit.getD_mem _ hj)) (Kd.C_below (hF j hj).2.2.1 hb) (hF j hj).2.1 (Kd.C_below (hF j hj).2.2.2.2 hb) (hF j hj).2.2.2.1 (Kd.C_below (hG j hj2).2.2.1 hb) (hG j hj2).2.1 (Kd.C_below (hG j hj2).2.2.2.2 hb) (hG j hj2).2.2.2.1).mono fun e w' ⟨he, hb'⟩ => ⟨he, hb.trans (hb'.mono hb.size)⟩) hr0.2.1 hr1.2.1
    (fun j hj => by
      obtain ⟨⟨ad, e, hc⟩, _⟩ := hF j hj
      exact ⟨ad, e, ⟨_, _, _, _, _, _, _, _, _, _, rfl⟩, hc⟩)
    (fun j hj => by
      obtain ⟨⟨ad, e, hc⟩, _⟩ := hG j hj
      exact ⟨ad, e, ⟨_, _, _, _, _, _, _, _, _, _, rfl⟩, hc⟩)
  change Calls _ _ _ _ (fun e w' => e = .returned (.bool (treesS n l0 l1)) ∧ _) at q
  clear hF hG hr0 hr1 hd ih
  generalize treesS n l0 l1 = R at *
  generalize l0.length = n0 at *
  generalize l1.length = n1 at *
  go_enter Try.func36, Try.ntmps36
  go_wp2_with (go_at_call 54; (with_reducible refine q.mono ?_); rintro e w' ⟨rfl, hb'⟩)
  go_ret
  exact ⟨rfl, hb'⟩
set_option maxHeartbeats 4000000 in
theorem impl_Node_isSame.holds (n : Nat) : ∀ (x y : S46) (A4 : Option Addr) (c4 : Nat) (A5 : Option Addr) (c5 : Nat) (B4 : Option Addr) (d4 : Nat) (B5 : Option Addr) (d5 : Nat) (w : World) (hd : depB n x = true) (h4 : Kd.C k80 w A4 x.f4.length x.f4) (l4 : x.f4.length ≤ c4) (h5 : Kd.C k46 w A5 x.f5.length x.f5) (l5 : x.f5.length ≤ c5) (g4 : Kd.C k80 w B4 y.f4.length y.f4) (m4 : y.f4.length ≤ d4) (g5 : Kd.C k46 w B5 y.f5.length y.f5) (m5 : y.f5.length ≤ d5), Calls Try.prog 55 #[.agg #[.int .i64 x.f0, .int .i64 x.f1, .string x.f2, .string x.f3, .slice A4 x.f4.length c4, .slice A5 x.f5.length c5], .agg #[.int .i64 y.f0, .int .i64 y.f1, .string y.f2, .string y.f3, .slice B4 y.f4.length d4, .slice B5 y.f5.length d5]] w fun e w' => e = .returned (.bool (nodeS n x y)) ∧ Below w.heap.size w w' := by
  induction n with
  | zero => intro x y A4 c4 A5 c5 B4 d4 B5 d5 w hd; cases hd
  | succ n ih =>
    intro x y A4 c4 A5 c5 B4 d4 B5 d5 w hd h4 l4 h5 l5 g4 m4 g5 m5
    rw [depB, List.all_eq_true] at hd
    have HB := Aside0.mk (below_alloc (below_alloc (Below.refl w.heap.size w) (.cells #[.int .i64 x.f0, .int .i64 x.f1, .string x.f2, .string x.f3, .slice A4 x.f4.length c4, .slice A5 x.f5.length c5] 46)) (.cells #[.int .i64 y.f0, .int .i64 y.f1, .string y.f2, .string y.f3, .slice B4 y.f4.length d4, .slice B5 y.f5.length d5] 46))
    have e0 : ((w.alloc (.cells #[.int .i64 x.f0, .int .i64 x.f1, .string x.f2, .string x.f3, .slice A4 x.f4.length c4, .slice A5 x.f5.length c5] 46)).alloc (.cells #[.int .i64 y.f0, .int .i64 y.f1, .string y.f2, .string y.f3, .slice B4 y.f4.length d4, .slice B5 y.f5.length d5] 46)).cell? ⟨w.heap.size, 0, none⟩ = some (.int .i64 x.f0) := Mach.old_cell _ (Mach.new_cell w _ _ 0 _ rfl)
    have f0 : ((w.alloc (.cells #[.int .i64 x.f0, .int .i64 x.f1, .string x.f2, .string x.f3, .slice A4 x.f4.length c4, .slice A5 x.f5.length c5] 46)).alloc (.cells #[.int .i64 y.f0, .int .i64 y.f1, .string y.f2, .string y.f3, .slice B4 y.f4.length d4, .slice B5 y.f5.length d5] 46)).cell? ⟨w.heap.size + 1, 0, none⟩ = some (.int .i64 y.f0) := Mach.newer_cell w _ _ _ 0 _ rfl
    have e1 : ((w.alloc (.cells #[.int .i64 x.f0, .int .i64 x.f1, .string x.f2, .string x.f3, .slice A4 x.f4.length c4, .slice A5 x.f5.length c5] 46)).alloc (.cells #[.int .i64 y.f0, .int .i64 y.f1, .string y.f2, .string y.f3, .slice B4 y.f4.length d4, .slice B5 y.f5.length d5] 46)).cell? ⟨w.heap.size, 1, none⟩ = some (.int .i64 x.f1) := Mach.old_cell _ (Mach.new_cell w _ _ 1 _ rfl)
    have f1 : ((w.alloc (.cells #[.int .i64 x.f0, .int .i64 x.f1, .string x.f2, .string x.f3, .slice A4 x.f4.length c4, .slice A5 x.f5.length c5] 46)).alloc (.cells #[.int .i64 y.f0, .int .i64 y.f1, .string y.f2, .string y.f3, .slice B4 y.f4.length d4, .slice B5 y.f5.length d5] 46)).cell? ⟨w.heap.size + 1, 1, none⟩ = some (.int .i64 y.f1) := Mach.newer_cell w _ _ _ 1 _ rfl
    have e2 : ((w.alloc (.cells #[.int .i64 x.f0, .int .i64 x.f1, .string x.f2, .string x.f3, .slice A4 x.f4.length c4, .slice A5 x.f5.length c5] 46)).alloc (.cells #[.int .i64 y.f0, .int .i64 y.f1, .string y.f2, .string y.f3, .slice B4 y.f4.length d4, .slice B5 y.f5.length d5] 46)).cell? ⟨w.heap.size, 2, none⟩ = some (.string x.f2) := Mach.old_cell _ (Mach.new_cell w _ _ 2 _ rfl)
    have f2 : ((w.alloc (.cells #[.int .i64 x.f0, .int .i64 x.f1, .string x.f2, .string x.f3, .slice A4 x.f4.length c4, .slice A5 x.f5.length c5] 46)).alloc (.cells #[.int .i64 y.f0, .int .i64 y.f1, .string y.f2, .string y.f3, .slice B4 y.f4.length d4, .slice B5 y.f5.length d5] 46)).cell? ⟨w.heap.size + 1, 2, none⟩ = some (.string y.f2) := Mach.newer_cell w _ _ _ 2 _ rfl
    have e3 : ((w.alloc (.cells #[.int .i64 x.f0, .int .i64 x.f1, .string x.f2, .string x.f3, .slice A4 x.f4.length c4, .slice A5 x.f5.length c5] 46)).alloc (.cells #[.int .i64 y.f0, .int .i64 y.f1, .string y.f2, .string y.f3, .slice B4 y.f4.length d4, .slice B5 y.f5.length d5] 46)).cell? ⟨w.heap.size, 3, none⟩ = some (.string x.f3) := Mach.old_cell _ (Mach.new_cell w _ _ 3 _ rfl)
    have f3 : ((w.alloc (.cells #[.int .i64 x.f0, .int .i64 x.f1, .string x.f2, .string x.f3, .slice A4 x.f4.length c4, .slice A5 x.f5.length c5] 46)).alloc (.cells #[.int .i64 y.f0, .int .i64 y.f1, .string y.f2, .string y.f3, .slice B4 y.f4.length d4, .slice B5 y.f5.length d5] 46)).cell? ⟨w.heap.size + 1, 3, none⟩ = some (.string y.f3) := Mach.newer_cell w _ _ _ 3 _ rfl
    have e4 : ((w.alloc (.cells #[.int .i64 x.f0, .int .i64 x.f1, .string x.f2, .string x.f3, .slice A4 x.f4.length c4, .slice A5 x.f5.length c5] 46)).alloc (.cells #[.int .i64 y.f0, .int .i64 y.f1, .string y.f2, .string y.f3, .slice B4 y.f4.length d4, .slice B5 y.f5.length d5] 46)).cell? ⟨w.heap.size, 4, none⟩ = some (.slice A4 x.f4.length c4) := Mach.old_cell _ (Mach.new_cell w _ _ 4 _ rfl)
    have f4 : ((w.alloc (.cells #[.int .i64 x.f0, .int .i64 x.f1, .string x.f2, .string x.f3, .slice A4 x.f4.length c4, .slice A5 x.f5.length c5] 46)).alloc (.cells #[.int .i64 y.f0, .int .i64 y.f1, .string y.f2, .string y.f3, .slice B4 y.f4.length d4, .slice B5 y.f5.length d5] 46)).cell? ⟨w.heap.size + 1, 4, none⟩ = some (.slice B4 y.f4.length d4) := Mach.newer_cell w _ _ _ 4 _ rfl
    have e5 : ((w.alloc (.cells #[.int .i64 x.f0, .int .i64 x.f1, .string x.f2, .string x.f3, .slice A4 x.f4.length c4, .slice A5 x.f5.length c5] 46)).alloc (.cells #[.int .i64 y.f0, .int .i64 y.f1, .string y.f2, .string y.f3, .slice B4 y.f4.length d4, .slice B5 y.f5.length d5] 46)).cell? ⟨w.heap.size, 5, none⟩ = some (.slice A5 x.f5.length c5) := Mach.old_cell _ (Mach.new_cell w _ _ 5 _ rfl)
    have f5 : ((w.alloc (.cells #[.int .i64 x.f0, .int .i64 x.f1, .string x.f2, .string x.f3, .slice A4 x.f4.length c4, .slice A5 x.f5.length c5] 46)).alloc (.cells #[.int .i64 y.f0, .int .i64 y.f1, .string y.f2, .string y.f3, .slice B4 y.f4.length d4, .slice B5 y.f5.length d5] 46)).cell? ⟨w.heap.size + 1, 5, none⟩ = some (.slice B5 y.f5.length d5) := Mach.newer_cell w _ _ _ 5 _ rfl
    have Q4 : Aside0 (∀ V, Below w.heap.size w V → Calls Try.prog 70 #[.slice A4 x.f4.length c4, .slice B4 y.f4.length d4] V fun e w' => e = .returned (.bool (eqAttrs x.f4 y.f4)) ∧ Below V.heap.size V w') := ⟨fun V hV => slices_EqualAttr.pure A4 c4 x.f4 B4 d4 y.f4 V (Kd.C_below h4 hV) l4 (Kd.C_below g4 hV) m4⟩
    have Q5 : Aside0 (∀ V, Below w.heap.size w V → Calls Try.prog 36 #[.slice A5 x.f5.length c5, .slice B5 y.f5.length d5] V fun e w' => e = .returned (.bool (treesS n x.f5 y.f5)) ∧ Below V.heap.size V w') := ⟨fun V hV => impl_areAlike.of n ih A5 c5 x.f5 B5 d5 y.f5 V (Kd.C_below h5 hV) (Kd.C_below g5 hV) hd⟩
    rw [nodeS]
    change Calls _ _ _ _ (fun e w' => e = .returned (.bool (x.f0 == y.f0 && (x.f1 == y.f1 && (x.f2.toList == y.f2.toList && (x.f3.toList == y.f3.toList && (eqAttrs x.f4 y.f4 && treesS n x.f5 y.f5)))))) ∧ _)
    clear h4 l4 h5 l5 g4 m4 g5 m5 hd ih
    generalize eqAttrs x.f4 y.f4 = q4 at *
    generalize treesS n x.f5 y.f5 = q5 at *
    generalize x.f4.length = n4 at *
    generalize y.f4.length = o4 at *
    generalize x.f5.length = n5 at *
    generalize y.f5.length = o5 at *
    cases t0 : (x.f0 == y.f0) with
    | false =>
      rw [Bool.false_and]
      go_enter Try.func55, Try.ntmps55
      go_wp2
      go_ret
      exact ⟨rfl, HB.out⟩
    | true =>
      rw [Bool.true_and]
      cases t1 : (x.f1 == y.f1) with
      | false =>
        rw [Bool.false_and]
        go_enter Try.func55, Try.ntmps55
        go_wp2
        go_ret
        exact ⟨rfl, HB.out⟩
      | true =>
        rw [Bool.true_and]
        cases t2 : (x.f2.toList == y.f2.toList) with
        | false =>
          rw [Bool.false_and]
          go_enter Try.func55, Try.ntmps55
          go_wp2
          go_ret
          exact ⟨rfl, HB.out⟩
        | true =>
          rw [Bool.true_and]
          cases t3 : (x.f3.toList == y.f3.toList) with
          | false =>
            rw [Bool.false_and]
            go_enter Try.func55, Try.ntmps55
            go_wp2
            go_ret
            exact ⟨rfl, HB.out⟩
          | true =>
            rw [Bool.true_and]
            cases q4 with
            | false =>
              rw [Bool.false_and]
              go_enter Try.func55, Try.ntmps55
              go_wp2_with (first | (go_at_call 70; (with_reducible refine (Q4.out _ HB.out).mono ?_); rintro e v1 ⟨rfl, hv1⟩; have HB1 := Aside0.mk (HB.out.trans (hv1.mono HB.out.size)); have p5 := pw_cell_below hv1 e5; have r5 := pw_cell_below hv1 f5; clear hv1))
              go_ret
              exact ⟨rfl, HB1.out⟩
            | true =>
              rw [Bool.true_and]
              go_enter Try.func55, Try.ntmps55
              go_wp2_with (first | (go_at_call 70; (with_reducible refine (Q4.out _ HB.out).mono ?_); rintro e v1 ⟨rfl, hv1⟩; have HB1 := Aside0.mk (HB.out.trans (hv1.mono HB.out.size)); have p5 := pw_cell_below hv1 e5; have r5 := pw_cell_below hv1 f5; clear hv1) | (go_at_call 36; (with_reducible refine (Q5.out _ HB1.out).mono ?_); rintro e v2 ⟨rfl, hv2⟩; have HB2 := Aside0.mk (HB1.out.trans (hv2.mono HB1.out.size)); clear hv2))
              go_ret
              exact ⟨rfl, HB2.out⟩
theorem impl_areAlike.calls (A0 : Option Addr) (c0 : Nat) (l0 : List S46) (A1 : Option Addr) (c1 : Nat) (l1 : List S46) (r : Bool) (w : World) (hr0 : Kd.C k46 w A0 l0.length l0) (hc0 : l0.length ≤ c0) (hr1 : Kd.C k46 w A1 l1.length l1) (hc1 : l1.length ≤ c1) (h : impl_areAlike.f l0 l1 = some r) :
    Calls Try.prog 36 #[.slice A0 l0.length c0, .slice A1 l1.length c1] w fun e w' => e = .returned (.bool r) ∧ Below w.heap.size w w' := by
  unfold impl_areAlike.f at h
  obtain ⟨hd, h⟩ := Option.ite_none_right_eq_some.mp h
  obtain rfl := Option.some.inj h
  exact impl_areAlike.of 10 (impl_Node_isSame.holds 10) A0 c0 l0 A1 c1 l1 w hr0 hr1 hd


/-! ### impl_SameTree: function 14 -/
def impl_SameTree.f (l0 : List (S46)) (l1 : List (S46)) : Option (Bool) := (impl_TreeOK.f l0).bind fun t237 => (if t237 = true then ((impl_TreeOK.f l1).bind fun t238 => (if t238 = true then ((impl_areAlike.f l0 l1).bind fun t239 => (some t239)) else (some false))) else (some false))
set_option maxHeartbeats 8000000 in
set_option maxRecDepth 100000 in
theorem impl_SameTree.calls (A0 : Option Addr) (c0 : Nat) (l0 : List (S46)) (A1 : Option Addr) (c1 : Nat) (l1 : List (S46)) (r : Bool) (w : World) (hr0 : Kd.C k46 w A0 l0.length l0) (hc0 : l0.length ≤ c0) (hr1 : Kd.C k46 w A1 l1.length l1) (hc1 : l1.length ≤ c1) (h : impl_SameTree.f l0 l1 = some r) :
    Calls Try.prog 14 #[.slice A0 l0.length c0, .slice A1 l1.length c1] w fun e w' => e = .returned (.bool r) ∧ Below w.heap.size w w' := by
  have HR0 := Aside0.mk hr0
  have HC0 := Aside0.mk hc0
  clear hr0 hc0
  have HR1 := Aside0.mk hr1
  have HC1 := Aside0.mk hc1
  clear hr1 hc1
  have HB := Aside0.mk (Below.refl w.heap.size w)
  have H : ((impl_TreeOK.f l0).bind fun t237 => (if t237 = true then ((impl_TreeOK.f l1).bind fun t238 => (if t238 = true then ((impl_areAlike.f l0 l1).bind fun t239 => (some t239)) else (some false))) else (some false))) = some r := h
  clear h
  replace H := Option.bind_eq_some_iff.mp H
  obtain ⟨t237, A30, H⟩ := H
  replace H : (if t237 = true then ((impl_TreeOK.f l1).bind fun t238 => (if t238 = true then ((impl_areAlike.f l0 l1).bind fun t239 => (some t239)) else (some false))) else (some false)) = some r := H
  have A3 := Aside0.mk A30
  clear A30
  by_cases c4 : t237 = true
  · subst c4
    have H1 : ((impl_TreeOK.f l1).bind fun t238 => (if t238 = true then ((impl_areAlike.f l0 l1).bind fun t239 => (some t239)) else (some false))) = some r := by rw [if_pos rfl] at H; exact H
    clear H
    have H := H1
    clear H1
    replace H := Option.bind_eq_some_iff.mp H
    obtain ⟨t238, A50, H⟩ := H
    replace H : (if t238 = true then ((impl_areAlike.f l0 l1).bind fun t239 => (some t239)) else (some false)) = some r := H
    have A5 := Aside0.mk A50
    clear A50
    by_cases c6 : t238 = true
    · subst c6
      have H1 : ((impl_areAlike.f l0 l1).bind fun t239 => (some t239)) = some r := by rw [if_pos rfl] at H; exact H
      clear H
      have H := H1
      clear H1
      replace H := Option.bind_eq_some_iff.mp H
      obtain ⟨t239, A70, H⟩ := H
      replace H : (some t239) = some r := H
      have A7 := Aside0.mk A70
      clear A70
      obtain rfl := Option.some.inj H
      go_enter Try.func14, Try.ntmps14
      go_wp2_with (first | ((with_reducible refine gate_callee (f := 35) rfl ?_); refine goesL_ (some 6) rfl rfl Try.func35 (by kernel_rfl) rfl #[.slice A0 l0.length c0] rfl (by (try simp only [List.map_toArray, List.map_cons, List.map_nil]); first | done | rfl | (simp only [List.length_drop, List.length_take]; rfl)) ?_; (with_reducible refine (impl_TreeOK.calls _ _ l0 true _ ?side1 ?side2 A3.out).mono ?_); (case side1 => repeat (first | exact HR0.out | (with_reducible refine Kd.C_alloc ?_ _) | (with_reducible refine Kd.C_drewN ?_ _) | (with_reducible refine Kd.C_drew ?_))); (case side2 => exact HC0.out); rintro e w8 ⟨rfl, hb⟩; refine ⟨_, rfl, ?_⟩; have n0_ := Aside0.mk (below_step (by repeat (first | (with_reducible first | exact HB.out | apply below_alloc | apply pw_below_drewN | apply below_drew1) | exact HB.out)) hb); clear HB; have HB := n0_; clear n0_; (try clear hb); (try clear hb2); (try clear hk); (try clear hi)) | (go_at_call 35; (with_reducible refine (impl_TreeOK.calls _ _ l1 true _ ?side1 ?side2 A5.out).mono ?_); (case side1 => repeat (first | exact (Kd.C_below HR1.out HB.out) | (with_reducible refine Kd.C_alloc ?_ _) | (with_reducible refine Kd.C_drewN ?_ _) | (with_reducible refine Kd.C_drew ?_))); (case side2 => exact HC1.out); rintro e w9 ⟨rfl, hb⟩; have n0_ := Aside0.mk (below_step (by repeat (first | (with_reducible first | exact HB.out | apply below_alloc | apply pw_below_drewN | apply below_drew1) | exact HB.out)) hb); clear HB; have HB := n0_; clear n0_; (try clear hb); (try clear hb2); (try clear hk); (try clear hi)) | (go_at_call 36; (with_reducible refine (impl_areAlike.calls _ _ l0 _ _ l1 t239 _ ?side1 ?side2 ?side3 ?side4 A7.out).mono ?_); (case side1 => repeat (first | exact (Kd.C_below HR0.out HB.out) | (with_reducible refine Kd.C_alloc ?_ _) | (with_reducible refine Kd.C_drewN ?_ _) | (with_reducible refine Kd.C_drew ?_))); (case side2 => exact HC0.out); (case side3 => repeat (first | exact (Kd.C_below HR1.out HB.out) | (with_reducible refine Kd.C_alloc ?_ _) | (with_reducible refine Kd.C_drewN ?_ _) | (with_reducible refine Kd.C_drew ?_))); (case side4 => exact HC1.out); rintro e w10 ⟨rfl, hb⟩; have n0_ := Aside0.mk (below_step (by repeat (first | (with_reducible first | exact HB.out | apply below_alloc | apply pw_below_drewN | apply below_drew1) | exact HB.out)) hb); clear HB; have HB := n0_; clear n0_; (try clear hb); (try clear hb2); (try clear hk); (try clear hi)))
      go_ret
      exact ⟨by first | rfl | (simp [errW_none, errW_some] <;> rfl) | (simp [*, errW_none, errW_some] <;> rfl), by repeat (first | (with_reducible first | exact HB.out | apply below_alloc | apply pw_below_drewN | apply below_drew1) | exact HB.out)⟩
    · replace c6 := Bool.eq_false_iff.mpr c6
      subst c6
      have H1 : (some false) = some r := by rw [if_neg (show ¬ (false = true) by decide)] at H; exact H
      clear H
      have H := H1
      clear H1
      obtain rfl := Option.some.inj H
      go_enter Try.func14, Try.ntmps14
      go_wp2_with (first | ((with_reducible refine gate_callee (f := 35) rfl ?_); refine goesL_ (some 6) rfl rfl Try.func35 (by kernel_rfl) rfl #[.slice A0 l0.length c0] rfl (by (try simp only [List.map_toArray, List.map_cons, List.map_nil]); first | done | rfl | (simp only [List.length_drop, List.length_take]; rfl)) ?_; (with_reducible refine (impl_TreeOK.calls _ _ l0 true _ ?side1 ?side2 A3.out).mono ?_); (case side1 => repeat (first | exact HR0.out | (with_reducible refine Kd.C_alloc ?_ _) | (with_reducible refine Kd.C_drewN ?_ _) | (with_reducible refine Kd.C_drew ?_))); (case side2 => exact HC0.out); rintro e w11 ⟨rfl, hb⟩; refine ⟨_, rfl, ?_⟩; have n0_ := Aside0.mk (below_step (by repeat (first | (with_reducible first | exact HB.out | apply below_alloc | apply pw_below_drewN | apply below_drew1) | exact HB.out)) hb); clear HB; have HB := n0_; clear n0_; (try clear hb); (try clear hb2); (try clear hk); (try clear hi)) | (go_at_call 35; (with_reducible refine (impl_TreeOK.calls _ _ l1 false _ ?side1 ?side2 A5.out).mono ?_); (case side1 => repeat (first | exact (Kd.C_below HR1.out HB.out) | (with_reducible refine Kd.C_alloc ?_ _) | (with_reducible refine Kd.C_drewN ?_ _) | (with_reducible refine Kd.C_drew ?_))); (case side2 => exact HC1.out); rintro e w12 ⟨rfl, hb⟩; have n0_ := Aside0.mk (below_step (by repeat (first | (with_reducible first | exact HB.out | apply below_alloc | apply pw_below_drewN | apply below_drew1) | exact HB.out)) hb); clear HB; have HB := n0_; clear n0_; (try clear hb); (try clear hb2); (try clear hk); (try clear hi)))
      go_ret
      exact ⟨by first | rfl | (simp [errW_none, errW_some] <;> rfl) | (simp [*, errW_none, errW_some] <;> rfl), by repeat (first | (with_reducible first | exact HB.out | apply below_alloc | apply pw_below_drewN | apply below_drew1) | exact HB.out)⟩
  · replace c4 := Bool.eq_false_iff.mpr c4
    subst c4
    have H1 : (some false) = some r := by rw [if_neg (show ¬ (false = true) by decide)] at H; exact H
    clear H
    have H := H1
    clear H1
    obtain rfl := Option.some.inj H
    go_enter Try.func14, Try.ntmps14
    go_wp2_with (first | ((with_reducible refine gate_callee (f := 35) rfl ?_); refine goesL_ (some 6) rfl rfl Try.func35 (by kernel_rfl) rfl #[.slice A0 l0.length c0] rfl (by (try simp only [List.map_toArray, List.map_cons, List.map_nil]); first | done | rfl | (simp only [List.length_drop, List.length_take]; rfl)) ?_; (with_reducible refine (impl_TreeOK.calls _ _ l0 false _ ?side1 ?side2 A3.out).mono ?_); (case side1 => repeat (first | exact HR0.out | (with_reducible refine Kd.C_alloc ?_ _) | (with_reducible refine Kd.C_drewN ?_ _) | (with_reducible refine Kd.C_drew ?_))); (case side2 => exact HC0.out); rintro e w13 ⟨rfl, hb⟩; refine ⟨_, rfl, ?_⟩; have n0_ := Aside0.mk (below_step (by repeat (first | (with_reducible first | exact HB.out | apply below_alloc | apply pw_below_drewN | apply below_drew1) | exact HB.out)) hb); clear HB; have HB := n0_; clear n0_; (try clear hb); (try clear hb2); (try clear hk); (try clear hi)))
    go_ret
    exact ⟨by first | rfl | (simp [errW_none, errW_some] <;> rfl) | (simp [*, errW_none, errW_some] <;> rfl), by repeat (first | (with_reducible first | exact HB.out | apply below_alloc | apply pw_below_drewN | apply below_drew1) | exact HB.out)⟩

end Go.Proofs.Ytaoalcaabhcjeaa.PFnExactSameTree
