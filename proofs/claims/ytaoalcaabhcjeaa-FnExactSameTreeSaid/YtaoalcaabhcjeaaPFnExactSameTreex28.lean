/- By a program of this session, out of the kit's print and contracts made by hand: the machine side of a law; Lean checks it. No conditions. -/
import Derived.Test.YtaoalcaabhcjeaaPFnExactSameTreex0
import Derived.Test.YtaoalcaabhcjeaaPFnExactSameTreex1
namespace Go.Proofs.Ytaoalcaabhcjeaa.PFnExactSameTree
open Go.RowKit Go.Proofs.YtaoalcaabhcjeaaW.PrintWords Go.Proofs.YtaoalcaabhcjeaaW.PrintLast Go.Proofs.YtaoalcaabhcjeaaW.PrintMore
attribute [local go_sem] max2_int min2_int max_two min_two max_three min_three max_four min_four   -- for this text's walks alone
set_option linter.unusedVariables false
set_option linter.unusedSimpArgs false

attribute [local go_sem high] eqA80
/-! ### impl_Attr_70: function 70 -/
def impl_Attr_70.l0 : Nat → List (S80) → List (S80) → Int → Int → Option (Bool)
  | 0, _, _, _, _ => none
  | k + 1, x0, x1, x12, x13 => if x13 < x12 then (if 0 ≤ x13 then (if x13 < (x0.length : Int) then (if x13 < (x1.length : Int) then (if (!((((rd_T80 x0 x13).f0).toList) == (((rd_T80 x1 x13).f0).toList)) || (!((((rd_T80 x0 x13).f1).toList) == (((rd_T80 x1 x13).f1).toList)))) = true then (some false) else (impl_Attr_70.l0 k x0 x1 x12 (wrap64 (x13 + 1)))) else (none)) else (none)) else (none)) else (some true)
def impl_Attr_70.f (k : Nat) (l0 : List (S80)) (l1 : List (S80)) : Option (Bool) := if (l0.length : Int) = (l1.length : Int) then (impl_Attr_70.l0 k l0 l1 (l0.length : Int) 0) else (some false)
theorem impl_Attr_70.mono_l : ∀ k, (∀ y0 y1 y2 y3, LeO (impl_Attr_70.l0 k y0 y1 y2 y3) (impl_Attr_70.l0 (k + 1) y0 y1 y2 y3))
  | 0 => fun _ _ _ _ r h => by simp [impl_Attr_70.l0] at h
  | k + 1 => by
    have ih0 := impl_Attr_70.mono_l k
    · intro y0 y1 y2 y3
      unfold impl_Attr_70.l0
      repeat' first
      | (with_reducible exact ih0 _ _ _ _)
      | (with_reducible exact LeO.refl _)
      | (with_reducible exact LeO.none _)
      | (with_reducible refine LeO.ite ?_ ?_)
      | (with_reducible refine LeO.bind ?_ (fun _ => ?_))
      | exact ih0 _ _ _ _
      | exact LeO.none _
      | refine LeO.ite ?_ ?_
      | refine LeO.bind ?_ (fun _ => ?_)
theorem impl_Attr_70.mono : ∀ a0 a1 k, LeO (impl_Attr_70.f k a0 a1) (impl_Attr_70.f (k + 1) a0 a1) := by
  intro a0 a1 k
  have ih0 := impl_Attr_70.mono_l k
  unfold impl_Attr_70.f
  repeat' first
      | (with_reducible exact ih0 _ _ _ _)
      | (with_reducible exact LeO.refl _)
      | (with_reducible exact LeO.none _)
      | (with_reducible refine LeO.ite ?_ ?_)
      | (with_reducible refine LeO.bind ?_ (fun _ => ?_))
      | exact ih0 _ _ _ _
      | exact LeO.none _
      | refine LeO.ite ?_ ?_
      | refine LeO.bind ?_ (fun _ => ?_)
set_option maxHeartbeats 8000000 in
set_option maxRecDepth 100000 in
theorem impl_Attr_70.calls (k : Nat) (A0 : Option Addr) (c0 : Nat) (l0 : List (S80)) (A1 : Option Addr) (c1 : Nat) (l1 : List (S80)) (r : Bool) (w : World) (hr0 : Kd.C k80 w A0 l0.length l0) (hc0 : l0.length ≤ c0) (hr1 : Kd.C k80 w A1 l1.length l1) (hc1 : l1.length ≤ c1) (h : impl_Attr_70.f k l0 l1 = some r) :
    Calls Try.prog 70 #[.slice A0 l0.length c0, .slice A1 l1.length c1] w fun e w' => e = .returned (.bool r) ∧ Drawn0 w w' := by
  have hu80 := Try.underlying80
  have HR0 := Aside0.mk hr0
  have HC0 := Aside0.mk hc0
  clear hr0 hc0
  have HR1 := Aside0.mk hr1
  have HC1 := Aside0.mk hc1
  clear hr1 hc1
  have H : (if (l0.length : Int) = (l1.length : Int) then (impl_Attr_70.l0 k l0 l1 (l0.length : Int) 0) else (some false)) = some r := h
  clear h
  by_cases c3 : (l0.length : Int) = (l1.length : Int)
  · rw [if_pos c3] at H
    have c3b0 : ((l0.length : Int) == (l1.length : Int)) = true := beq_iff_eq.mpr c3
    have c3b1 : ((l0.length : Int) != (l1.length : Int)) = false := bne_eq_false_iff_eq.mpr c3
    have c3b2 : (l0.length == l1.length) = true := by first | simpa using c3 | (simp at c3 ⊢; omega)
    clear c3
    have H' := Aside0.mk H
    clear H
    go_enter Try.func70, Try.ntmps70
    go_wp2
    repeat (go_quiet (fail); try go_wp2)
    go_loopg [13] k (fun kq v13 w' => ∃ (x13_1 : Int), v13 = .int .i64 x13_1 ∧ Aside0 (impl_Attr_70.l0 kq l0 l1 (l0.length : Int) x13_1 = some r) ∧ Aside0 (kq ≤ k) ∧ Drawn0 w w')
    case atStart => exact ⟨(0), (by first | rfl | (simp; done) | (simp [*]; done)), H', ⟨Nat.le_refl _⟩, by repeat (first | exact Drawn0.refl _ | apply Drawn0.step)⟩
    case round =>
      clear H'
      try clear c1
      try clear p2
      try clear c3
      try clear c3b0
      try clear c3b1
      try clear c3b2
      obtain ⟨x13_1, rfl, HA, HK1, ⟨m1, rfl⟩⟩ := hrel
      cases gk with
      | zero => exact absurd HA.out (by simp [impl_Attr_70.l0])
      | succ k1 =>
        have H := HA.out
        clear HA
        simp only [impl_Attr_70.l0] at H
        by_cases c4 : x13_1 < (l0.length : Int)
        · rw [if_pos c4] at H
          have c4b0 : decide (x13_1 < (l0.length : Int)) = true := decide_eq_true c4
          clear c4
          by_cases c5 : 0 ≤ x13_1
          · rw [if_pos c5] at H
            have c5b0 : decide (0 ≤ x13_1) = true := decide_eq_true c5
            clear c5
            by_cases c6 : x13_1 < (l0.length : Int)
            · rw [if_pos c6] at H
              have c6b0 : decide (x13_1 < (l0.length : Int)) = true := decide_eq_true c6
              clear c6
              by_cases c7 : x13_1 < (l1.length : Int)
              · rw [if_pos c7] at H
                have c7b0 : decide (x13_1 < (l1.length : Int)) = true := decide_eq_true c7
                clear c7
                by_cases c8 : (!((((rd_T80 l0 x13_1).f0).toList) == (((rd_T80 l1 x13_1).f0).toList)) || (!((((rd_T80 l0 x13_1).f1).toList) == (((rd_T80 l1 x13_1).f1).toList)))) = true
                · rw [if_pos c8] at H
                  have c8b0 : (!((((rd_T80 l0 x13_1).f0).toList) == (((rd_T80 l1 x13_1).f0).toList)) || (!((((rd_T80 l0 x13_1).f1).toList) == (((rd_T80 l1 x13_1).f1).toList)))) = true := c8
                  clear c8
                  obtain rfl := Option.some.inj H
                  have p235 : 0 ≤ (x13_1 : Int) := of_decide_eq_true (by first | (with_reducible assumption) | assumption)
                  have q235 : x13_1 < (l0.length : Int) := of_decide_eq_true (by first | (with_reducible assumption) | assumption)
                  obtain ⟨ad235, e235, hx235_0, hx235_1⟩ := at_T80 HR0.out x13_1 p235 q235
                  cases e235
                  replace p235 := eq_true p235
                  replace q235 := eq_true q235
                  have p236 : 0 ≤ (x13_1 : Int) := of_decide_eq_true (by first | (with_reducible assumption) | assumption)
                  have q236 : x13_1 < (l1.length : Int) := of_decide_eq_true (by first | (with_reducible assumption) | assumption)
                  obtain ⟨ad236, e236, hx236_0, hx236_1⟩ := at_T80 HR1.out x13_1 p236 q236
                  cases e236
                  replace p236 := eq_true p236
                  replace q236 := eq_true q236
                  go_wp2
                  repeat (go_quiet (fail); try go_wp2)
                  go_ret
                  exact ⟨by first | rfl | (simp; done) | (simp [*]; done), by repeat (first | exact Drawn0.refl _ | apply Drawn0.step)⟩
                · rw [if_neg c8] at H
                  have c8b0 : (!((((rd_T80 l0 x13_1).f0).toList) == (((rd_T80 l1 x13_1).f0).toList)) || (!((((rd_T80 l0 x13_1).f1).toList) == (((rd_T80 l1 x13_1).f1).toList)))) = false := by simpa using c8
                  clear c8
                  have H' := Aside0.mk H
                  clear H
                  have p235 : 0 ≤ (x13_1 : Int) := of_decide_eq_true (by first | (with_reducible assumption) | assumption)
                  have q235 : x13_1 < (l0.length : Int) := of_decide_eq_true (by first | (with_reducible assumption) | assumption)
                  obtain ⟨ad235, e235, hx235_0, hx235_1⟩ := at_T80 HR0.out x13_1 p235 q235
                  cases e235
                  replace p235 := eq_true p235
                  replace q235 := eq_true q235
                  have p236 : 0 ≤ (x13_1 : Int) := of_decide_eq_true (by first | (with_reducible assumption) | assumption)
                  have q236 : x13_1 < (l1.length : Int) := of_decide_eq_true (by first | (with_reducible assumption) | assumption)
                  obtain ⟨ad236, e236, hx236_0, hx236_1⟩ := at_T80 HR1.out x13_1 p236 q236
                  cases e236
                  replace p236 := eq_true p236
                  replace q236 := eq_true q236
                  go_wp2
                  repeat (go_quiet (fail); try go_wp2)
                  go_roundg k1
                  case measure => have := HK1.out; omega
                  case rel => exact ⟨(wrap64 (x13_1 + 1)), (by first | rfl | (simp; done) | (simp [*]; done)), H', ⟨by have := HK1.out; omega⟩, by repeat (first | exact Drawn0.refl _ | apply Drawn0.step)⟩
              · rw [if_neg c7] at H
                exact absurd H (by simp)
            · rw [if_neg c6] at H
              exact absurd H (by simp)
          · rw [if_neg c5] at H
            exact absurd H (by simp)
        · rw [if_neg c4] at H
          have c4b0 : decide (x13_1 < (l0.length : Int)) = false := decide_eq_false c4
          clear c4
          obtain rfl := Option.some.inj H
          go_wp2
          repeat (go_quiet (fail); try go_wp2)
          go_ret
          exact ⟨by first | rfl | (simp; done) | (simp [*]; done), by repeat (first | exact Drawn0.refl _ | apply Drawn0.step)⟩
  · rw [if_neg c3] at H
    have c3b0 : ((l0.length : Int) == (l1.length : Int)) = false := beq_eq_false_iff_ne.mpr c3
    have c3b1 : ((l0.length : Int) != (l1.length : Int)) = true := bne_iff_ne.mpr c3
    have c3b2 : (l0.length == l1.length) = false := by first | simpa using c3 | (simp at c3 ⊢; omega)
    obtain rfl := Option.some.inj H
    go_enter Try.func70, Try.ntmps70
    go_wp2
    repeat (go_quiet (fail); try go_wp2)
    go_ret
    exact ⟨by first | rfl | (simp; done) | (simp [*]; done), by repeat (first | exact Drawn0.refl _ | apply Drawn0.step)⟩
def attrEq (a b : S80) : Bool := a.f0.toList == b.f0.toList && a.f1.toList == b.f1.toList
def eqAttrs (l0 l1 : List S80) : Bool := decide (l0.length = l1.length) && Mach.allP (fun j => attrEq (l0.getD j z80) (l1.getD j z80)) l0.length
theorem rdA3_nat (xs : List S80) (i : Nat) : rd_T80 xs (i : Int) = xs.getD i z80 := by simp [rd_T80]
theorem attrEq_ne (a b : S80) : ((!((a.f0.toList) == (b.f0.toList)) || (!((a.f1.toList) == (b.f1.toList)))) = true) ↔ ¬ attrEq a b = true := by
  unfold attrEq
  cases a.f0.toList == b.f0.toList <;> cases a.f1.toList == b.f1.toList <;> simp
theorem ev_slicesEqualAttr (l0 l1 : List S80) (hn : l0.length ≤ 9223372036854775807) : Ev (fun k => impl_Attr_70.f k l0 l1) (eqAttrs l0 l1) := by
  unfold impl_Attr_70.f eqAttrs
  refine Kit.ev_if (fun hl => ?_) (fun hl => ?_)
  case refine_2 =>
    have hl' : ¬ l0.length = l1.length := by omega
    rw [decide_eq_false hl', Bool.false_and]
    exact Ev.now _
  case refine_1 =>
    have hl' : l0.length = l1.length := by omega
    rw [decide_eq_true hl', Bool.true_and]
    have key : ∀ i, i ≤ l0.length → (∀ j, j < i → attrEq (l0.getD j z80) (l1.getD j z80) = true) → Ev (fun k => impl_Attr_70.l0 k l0 l1 (l0.length : Int) i) (Mach.allP (fun j => attrEq (l0.getD j z80) (l1.getD j z80)) l0.length) := by
      refine Kit.down ?_ ?_
      case refine_1 =>
        intro hb
        rw [Mach.allP_true (p := _) hb]
        exact Ev.step (fun k => rfl) (Kit.ev_neg (by omega) (Ev.now _))
      case refine_2 =>
        intro i hi ih hb
        refine Ev.step (fun k => rfl) (Kit.ev_pos (by omega) (Kit.ev_pos (by omega) (Kit.ev_pos (by omega) (Kit.ev_pos (by omega) ?_))))
        rw [rdA3_nat, rdA3_nat, Kit.wrap_nat hi hn]
        refine Kit.ev_if (fun h => ?_) (fun h => ?_)
        case refine_1 =>
          rw [show Mach.allP (fun j => attrEq (l0.getD j z80) (l1.getD j z80)) l0.length = false from Mach.allP_false hi (Bool.eq_false_iff.2 ((attrEq_ne _ _).1 h))]
          exact Ev.now _
        case refine_2 =>
          exact ih fun j hj => by
            by_cases e : j = i
            case pos => subst e; exact Classical.byContradiction fun h2 => h ((attrEq_ne _ _).2 h2)
            case neg => exact hb j (by omega)
    exact key 0 (by omega) (fun j hj => absurd hj (Nat.not_lt_zero _))
theorem slices_EqualAttr.pure (A0 : Option Addr) (c0 : Nat) (l0 : List S80) (A1 : Option Addr) (c1 : Nat) (l1 : List S80) (W : World) (h0 : Kd.C k80 W A0 l0.length l0) (hc0 : l0.length ≤ c0) (h1 : Kd.C k80 W A1 l1.length l1) (hc1 : l1.length ≤ c1) : Calls Try.prog 70 #[.slice A0 l0.length c0, .slice A1 l1.length c1] W fun e w' => e = .returned (.bool (eqAttrs l0 l1)) ∧ Below W.heap.size W w' := by
  obtain ⟨K, hK⟩ := ev_slicesEqualAttr l0 l1 h0.2.1
  exact (impl_Attr_70.calls K A0 c0 l0 A1 c1 l1 _ W h0 hc0 h1 hc1 (hK K (Nat.le_refl _))).mono fun e w' ⟨he, hd⟩ => ⟨he, by first | exact hd.below | exact hd⟩

end Go.Proofs.Ytaoalcaabhcjeaa.PFnExactSameTree
