/- By a program of this session, out of the kit's print and contracts made by hand: the machine side of a law; Lean checks it. No conditions. -/
import Derived.Test.YtophaihdibplkaaPFnExactAllowsElementx0
import Derived.Test.YtophaihdibplkaaPFnExactAllowsElementx13
import Derived.Test.YtophaihdibplkaaPFnExactAllowsElementx15
import Derived.Test.YtophaihdibplkaaPFnExactAllowsElementx21
import Derived.Test.YtophaihdibplkaaPFnExactAllowsElementx22
namespace Go.Proofs.Ytophaihdibplkaa.PFnExactAllowsElement
open Go.RowKit Go.Proofs.YtophaihdibplkaaW.PrintWords Go.Proofs.YtophaihdibplkaaW.PrintLast Go.Proofs.YtophaihdibplkaaW.PrintMore
attribute [local go_sem] max2_int min2_int max_two min_two max_three min_three max_four min_four   -- for this text's walks alone
set_option linter.unusedVariables false
set_option linter.unusedSimpArgs false

/-! ### impl_CheckConfig: function 66, by hand -/
def impl_CheckConfig.f (k : Nat) (a0_0 a0_1 : Bool) (l0_2 l0_3 l0_4 : List S155) (l0_5 l0_6 : List ByteArray) (a0_7 a0_8 : Bool) : Option Int :=
  (impl_areRules.f k l0_2).bind fun b1 => if b1 = true then (impl_areRules.f k l0_3).bind fun b2 => if b2 = true then (impl_areRules.f k l0_4).bind fun b3 => if b3 = true then (impl_haveAttrs.f l0_3).bind fun b4 => if b4 = true then some 1 else (impl_haveAttrs.f l0_4).bind fun b5 => if b5 = true then some 1 else (impl_areNames.f l0_5).bind fun b6 => if b6 = true then (impl_areNames.f l0_6).bind fun b7 => if b7 = true then (impl_Config_isAgainst.f a0_0 a0_1 l0_2 l0_3 l0_4 l0_5 l0_6 a0_7 a0_8).bind fun b8 => if b8 = true then some 13 else some 0 else some 1 else some 1 else some 1 else some 1 else some 1
theorem impl_CheckConfig.mono : ∀ a0 a1 a2 a3 a4 a5 a6 a7 a8 k, LeO (impl_CheckConfig.f k a0 a1 a2 a3 a4 a5 a6 a7 a8) (impl_CheckConfig.f (k + 1) a0 a1 a2 a3 a4 a5 a6 a7 a8) := by
  intro a0 a1 a2 a3 a4 a5 a6 a7 a8 k
  unfold impl_CheckConfig.f
  repeat' first
      | (with_reducible exact impl_areRules.mono _ _)
      | (with_reducible exact LeO.refl _)
      | (with_reducible refine LeO.ite ?_ ?_)
      | (with_reducible refine LeO.bind ?_ (fun _ => ?_))
      | exact impl_areRules.mono _ _
      | refine LeO.ite ?_ ?_
      | refine LeO.bind ?_ (fun _ => ?_)
theorem oneNew {w V : World} {c : Array Value} {t : TypeId} (h : Below (w.alloc (.cells c t)).heap.size (w.alloc (.cells c t)) V) : (∀ i v, c[i]? = some v → V.cell? ⟨w.heap.size, i, none⟩ = some v) ∧ Below w.heap.size w V := by
  have hb := below_alloc (Below.refl w.heap.size w) (.cells c t)
  exact ⟨fun i v hv => pw_cell_below h (by have h1 : c[i]? = some v := hv; simp [h1]), hb.trans (h.mono hb.size)⟩
set_option maxHeartbeats 8000000 in
set_option maxRecDepth 100000 in
theorem impl_CheckConfig.calls (k : Nat) (a0_0 a0_1 : Bool) (A0_2 : Option Addr) (c0_2 : Nat) (l0_2 : List S155) (A0_3 : Option Addr) (c0_3 : Nat) (l0_3 : List S155) (A0_4 : Option Addr) (c0_4 : Nat) (l0_4 : List S155) (A0_5 : Option Addr) (c0_5 : Nat) (l0_5 : List ByteArray) (A0_6 : Option Addr) (c0_6 : Nat) (l0_6 : List ByteArray) (a0_7 a0_8 : Bool) (r : Int) (w : World) (hr0_2 : Kd.C k155 w A0_2 l0_2.length l0_2) (hc0_2 : l0_2.length ≤ c0_2) (hr0_3 : Kd.C k155 w A0_3 l0_3.length l0_3) (hc0_3 : l0_3.length ≤ c0_3) (hr0_4 : Kd.C k155 w A0_4 l0_4.length l0_4) (hc0_4 : l0_4.length ≤ c0_4) (hr0_5 : Kd.C Kd.string w A0_5 l0_5.length l0_5) (hc0_5 : l0_5.length ≤ c0_5) (hr0_6 : Kd.C Kd.string w A0_6 l0_6.length l0_6) (hc0_6 : l0_6.length ≤ c0_6) (h : impl_CheckConfig.f k a0_0 a0_1 l0_2 l0_3 l0_4 l0_5 l0_6 a0_7 a0_8 = some r) :
    Calls Try.prog 66 #[.agg #[.bool a0_0, .bool a0_1, .slice A0_2 l0_2.length c0_2, .slice A0_3 l0_3.length c0_3, .slice A0_4 l0_4.length c0_4, .slice A0_5 l0_5.length c0_5, .slice A0_6 l0_6.length c0_6, .bool a0_7, .bool a0_8]] w fun e w' => e = .returned (.int .i64 r) ∧ Below w.heap.size w w' := by
  unfold impl_CheckConfig.f at h
  have HB0 := Aside0.mk (Below.refl (w.alloc (.cells #[.bool a0_0, .bool a0_1, .slice A0_2 l0_2.length c0_2, .slice A0_3 l0_3.length c0_3, .slice A0_4 l0_4.length c0_4, .slice A0_5 l0_5.length c0_5, .slice A0_6 l0_6.length c0_6, .bool a0_7, .bool a0_8] 78)).heap.size (w.alloc (.cells #[.bool a0_0, .bool a0_1, .slice A0_2 l0_2.length c0_2, .slice A0_3 l0_3.length c0_3, .slice A0_4 l0_4.length c0_4, .slice A0_5 l0_5.length c0_5, .slice A0_6 l0_6.length c0_6, .bool a0_7, .bool a0_8] 78)))
  have E := fun V (h : Aside0 (Below (w.alloc (.cells #[.bool a0_0, .bool a0_1, .slice A0_2 l0_2.length c0_2, .slice A0_3 l0_3.length c0_3, .slice A0_4 l0_4.length c0_4, .slice A0_5 l0_5.length c0_5, .slice A0_6 l0_6.length c0_6, .bool a0_7, .bool a0_8] 78)).heap.size (w.alloc (.cells #[.bool a0_0, .bool a0_1, .slice A0_2 l0_2.length c0_2, .slice A0_3 l0_3.length c0_3, .slice A0_4 l0_4.length c0_4, .slice A0_5 l0_5.length c0_5, .slice A0_6 l0_6.length c0_6, .bool a0_7, .bool a0_8] 78)) V)) => oneNew h.out
  have E := Aside0.mk E
  have Q1 : Aside0 (∀ t V, impl_areRules.f k l0_2 = some t → Below w.heap.size w V → Calls Try.prog 129 #[.slice A0_2 l0_2.length c0_2] V fun e w' => e = .returned (.bool t) ∧ Below V.heap.size V w') := ⟨fun t V e hV => impl_areRules.calls k A0_2 c0_2 l0_2 t V (Kd.C_below hr0_2 hV) hc0_2 e⟩
  have Q2 : Aside0 (∀ t V, impl_areRules.f k l0_3 = some t → Below w.heap.size w V → Calls Try.prog 129 #[.slice A0_3 l0_3.length c0_3] V fun e w' => e = .returned (.bool t) ∧ Below V.heap.size V w') := ⟨fun t V e hV => impl_areRules.calls k A0_3 c0_3 l0_3 t V (Kd.C_below hr0_3 hV) hc0_3 e⟩
  have Q3 : Aside0 (∀ t V, impl_areRules.f k l0_4 = some t → Below w.heap.size w V → Calls Try.prog 129 #[.slice A0_4 l0_4.length c0_4] V fun e w' => e = .returned (.bool t) ∧ Below V.heap.size V w') := ⟨fun t V e hV => impl_areRules.calls k A0_4 c0_4 l0_4 t V (Kd.C_below hr0_4 hV) hc0_4 e⟩
  have Q4 : Aside0 (∀ t V, impl_haveAttrs.f l0_3 = some t → Below w.heap.size w V → Calls Try.prog 130 #[.slice A0_3 l0_3.length c0_3] V fun e w' => e = .returned (.bool t) ∧ Below V.heap.size V w') := ⟨fun t V e hV => impl_haveAttrs.calls A0_3 c0_3 l0_3 t V (Kd.C_below hr0_3 hV) hc0_3 e⟩
  have Q5 : Aside0 (∀ t V, impl_haveAttrs.f l0_4 = some t → Below w.heap.size w V → Calls Try.prog 130 #[.slice A0_4 l0_4.length c0_4] V fun e w' => e = .returned (.bool t) ∧ Below V.heap.size V w') := ⟨fun t V e hV => impl_haveAttrs.calls A0_4 c0_4 l0_4 t V (Kd.C_below hr0_4 hV) hc0_4 e⟩
  have Q6 : Aside0 (∀ t V, impl_areNames.f l0_5 = some t → Below w.heap.size w V → Calls Try.prog 131 #[.slice A0_5 l0_5.length c0_5] V fun e w' => e = .returned (.bool t) ∧ Below V.heap.size V w') := ⟨fun t V e hV => (impl_areNames.calls A0_5 c0_5 l0_5 t V (Kd.C_below hr0_5 hV) hc0_5 e).mono fun e w' ⟨he, hd⟩ => ⟨he, hd.below⟩⟩
  have Q7 : Aside0 (∀ t V, impl_areNames.f l0_6 = some t → Below w.heap.size w V → Calls Try.prog 131 #[.slice A0_6 l0_6.length c0_6] V fun e w' => e = .returned (.bool t) ∧ Below V.heap.size V w') := ⟨fun t V e hV => (impl_areNames.calls A0_6 c0_6 l0_6 t V (Kd.C_below hr0_6 hV) hc0_6 e).mono fun e w' ⟨he, hd⟩ => ⟨he, hd.below⟩⟩
  have Q8 : Aside0 (∀ t V, impl_Config_isAgainst.f a0_0 a0_1 l0_2 l0_3 l0_4 l0_5 l0_6 a0_7 a0_8 = some t → Below w.heap.size w V → Calls Try.prog 132 #[.agg #[.bool a0_0, .bool a0_1, .slice A0_2 l0_2.length c0_2, .slice A0_3 l0_3.length c0_3, .slice A0_4 l0_4.length c0_4, .slice A0_5 l0_5.length c0_5, .slice A0_6 l0_6.length c0_6, .bool a0_7, .bool a0_8]] V fun e w' => e = .returned (.bool t) ∧ Below V.heap.size V w') := ⟨fun t V e hV => impl_Config_isAgainst.calls a0_0 a0_1 A0_2 c0_2 l0_2 A0_3 c0_3 l0_3 A0_4 c0_4 l0_4 A0_5 c0_5 l0_5 A0_6 c0_6 l0_6 a0_7 a0_8 t V (Kd.C_below hr0_2 hV) hc0_2 (Kd.C_below hr0_3 hV) hc0_3 (Kd.C_below hr0_4 hV) hc0_4 (Kd.C_below hr0_5 hV) hc0_5 (Kd.C_below hr0_6 hV) hc0_6 e⟩
  clear hr0_2 hc0_2 hr0_3 hc0_3 hr0_4 hc0_4 hr0_5 hc0_5 hr0_6 hc0_6
  generalize l0_2.length = n2 at *
  generalize l0_3.length = n3 at *
  generalize l0_4.length = n4 at *
  generalize l0_5.length = n5 at *
  generalize l0_6.length = n6 at *
  have h9 := Option.bind_eq_some_iff.mp h
  clear h
  obtain ⟨t1, e1, h⟩ := h9
  cases t1
  case false =>
   rw [if_neg Bool.false_ne_true] at h
   obtain rfl := Option.some.inj h
   clear h
   go_enter Try.func66, Try.ntmps66
   go_wp2_with (first | (go_at_call 129; (with_reducible refine (Q1.out _ _ e1 (E.out _ HB0).2).mono ?_); rintro e w1 ⟨rfl, hb⟩; have HB1 := Aside0.mk (HB0.out.trans (hb.mono HB0.out.size)); have x13 := (E.out _ HB1).1 3 (.slice A0_3 n3 c0_3) rfl; clear hb))
   go_ret
   exact ⟨rfl, (E.out _ HB1).2⟩
  rw [if_pos rfl] at h
  have h9 := Option.bind_eq_some_iff.mp h
  clear h
  obtain ⟨t2, e2, h⟩ := h9
  cases t2
  case false =>
   rw [if_neg Bool.false_ne_true] at h
   obtain rfl := Option.some.inj h
   clear h
   go_enter Try.func66, Try.ntmps66
   go_wp2_with (first | (go_at_call 129; (with_reducible refine (Q1.out _ _ e1 (E.out _ HB0).2).mono ?_); rintro e w1 ⟨rfl, hb⟩; have HB1 := Aside0.mk (HB0.out.trans (hb.mono HB0.out.size)); have x13 := (E.out _ HB1).1 3 (.slice A0_3 n3 c0_3) rfl; clear hb) | (go_at_call 129; (with_reducible refine (Q2.out _ _ e2 (E.out _ HB1).2).mono ?_); rintro e w2 ⟨rfl, hb⟩; have HB2 := Aside0.mk (HB1.out.trans (hb.mono HB1.out.size)); have x24 := (E.out _ HB2).1 4 (.slice A0_4 n4 c0_4) rfl; clear hb))
   go_ret
   exact ⟨rfl, (E.out _ HB2).2⟩
  rw [if_pos rfl] at h
  have h9 := Option.bind_eq_some_iff.mp h
  clear h
  obtain ⟨t3, e3, h⟩ := h9
  cases t3
  case false =>
   rw [if_neg Bool.false_ne_true] at h
   obtain rfl := Option.some.inj h
   clear h
   go_enter Try.func66, Try.ntmps66
   go_wp2_with (first | (go_at_call 129; (with_reducible refine (Q1.out _ _ e1 (E.out _ HB0).2).mono ?_); rintro e w1 ⟨rfl, hb⟩; have HB1 := Aside0.mk (HB0.out.trans (hb.mono HB0.out.size)); have x13 := (E.out _ HB1).1 3 (.slice A0_3 n3 c0_3) rfl; clear hb) | (go_at_call 129; (with_reducible refine (Q2.out _ _ e2 (E.out _ HB1).2).mono ?_); rintro e w2 ⟨rfl, hb⟩; have HB2 := Aside0.mk (HB1.out.trans (hb.mono HB1.out.size)); have x24 := (E.out _ HB2).1 4 (.slice A0_4 n4 c0_4) rfl; clear hb) | (go_at_call 129; (with_reducible refine (Q3.out _ _ e3 (E.out _ HB2).2).mono ?_); rintro e w3 ⟨rfl, hb⟩; have HB3 := Aside0.mk (HB2.out.trans (hb.mono HB2.out.size)); have x33 := (E.out _ HB3).1 3 (.slice A0_3 n3 c0_3) rfl; clear hb))
   go_ret
   exact ⟨rfl, (E.out _ HB3).2⟩
  rw [if_pos rfl] at h
  have h9 := Option.bind_eq_some_iff.mp h
  clear h
  obtain ⟨t4, e4, h⟩ := h9
  cases t4
  case true =>
   rw [if_pos rfl] at h
   obtain rfl := Option.some.inj h
   clear h
   go_enter Try.func66, Try.ntmps66
   go_wp2_with (first | (go_at_call 129; (with_reducible refine (Q1.out _ _ e1 (E.out _ HB0).2).mono ?_); rintro e w1 ⟨rfl, hb⟩; have HB1 := Aside0.mk (HB0.out.trans (hb.mono HB0.out.size)); have x13 := (E.out _ HB1).1 3 (.slice A0_3 n3 c0_3) rfl; clear hb) | (go_at_call 129; (with_reducible refine (Q2.out _ _ e2 (E.out _ HB1).2).mono ?_); rintro e w2 ⟨rfl, hb⟩; have HB2 := Aside0.mk (HB1.out.trans (hb.mono HB1.out.size)); have x24 := (E.out _ HB2).1 4 (.slice A0_4 n4 c0_4) rfl; clear hb) | (go_at_call 129; (with_reducible refine (Q3.out _ _ e3 (E.out _ HB2).2).mono ?_); rintro e w3 ⟨rfl, hb⟩; have HB3 := Aside0.mk (HB2.out.trans (hb.mono HB2.out.size)); have x33 := (E.out _ HB3).1 3 (.slice A0_3 n3 c0_3) rfl; clear hb) | (go_at_call 130; (with_reducible refine (Q4.out _ _ e4 (E.out _ HB3).2).mono ?_); rintro e w4 ⟨rfl, hb⟩; have HB4 := Aside0.mk (HB3.out.trans (hb.mono HB3.out.size)); have x44 := (E.out _ HB4).1 4 (.slice A0_4 n4 c0_4) rfl; clear hb))
   go_ret
   exact ⟨rfl, (E.out _ HB4).2⟩
  rw [if_neg Bool.false_ne_true] at h
  have h9 := Option.bind_eq_some_iff.mp h
  clear h
  obtain ⟨t5, e5, h⟩ := h9
  cases t5
  case true =>
   rw [if_pos rfl] at h
   obtain rfl := Option.some.inj h
   clear h
   go_enter Try.func66, Try.ntmps66
   go_wp2_with (first | (go_at_call 129; (with_reducible refine (Q1.out _ _ e1 (E.out _ HB0).2).mono ?_); rintro e w1 ⟨rfl, hb⟩; have HB1 := Aside0.mk (HB0.out.trans (hb.mono HB0.out.size)); have x13 := (E.out _ HB1).1 3 (.slice A0_3 n3 c0_3) rfl; clear hb) | (go_at_call 129; (with_reducible refine (Q2.out _ _ e2 (E.out _ HB1).2).mono ?_); rintro e w2 ⟨rfl, hb⟩; have HB2 := Aside0.mk (HB1.out.trans (hb.mono HB1.out.size)); have x24 := (E.out _ HB2).1 4 (.slice A0_4 n4 c0_4) rfl; clear hb) | (go_at_call 129; (with_reducible refine (Q3.out _ _ e3 (E.out _ HB2).2).mono ?_); rintro e w3 ⟨rfl, hb⟩; have HB3 := Aside0.mk (HB2.out.trans (hb.mono HB2.out.size)); have x33 := (E.out _ HB3).1 3 (.slice A0_3 n3 c0_3) rfl; clear hb) | (go_at_call 130; (with_reducible refine (Q4.out _ _ e4 (E.out _ HB3).2).mono ?_); rintro e w4 ⟨rfl, hb⟩; have HB4 := Aside0.mk (HB3.out.trans (hb.mono HB3.out.size)); have x44 := (E.out _ HB4).1 4 (.slice A0_4 n4 c0_4) rfl; clear hb) | (go_at_call 130; (with_reducible refine (Q5.out _ _ e5 (E.out _ HB4).2).mono ?_); rintro e w5 ⟨rfl, hb⟩; have HB5 := Aside0.mk (HB4.out.trans (hb.mono HB4.out.size)); have x55 := (E.out _ HB5).1 5 (.slice A0_5 n5 c0_5) rfl; clear hb))
   go_ret
   exact ⟨rfl, (E.out _ HB5).2⟩
  rw [if_neg Bool.false_ne_true] at h
  have h9 := Option.bind_eq_some_iff.mp h
  clear h
  obtain ⟨t6, e6, h⟩ := h9
  cases t6
  case false =>
   rw [if_neg Bool.false_ne_true] at h
   obtain rfl := Option.some.inj h
   clear h
   go_enter Try.func66, Try.ntmps66
   go_wp2_with (first | (go_at_call 129; (with_reducible refine (Q1.out _ _ e1 (E.out _ HB0).2).mono ?_); rintro e w1 ⟨rfl, hb⟩; have HB1 := Aside0.mk (HB0.out.trans (hb.mono HB0.out.size)); have x13 := (E.out _ HB1).1 3 (.slice A0_3 n3 c0_3) rfl; clear hb) | (go_at_call 129; (with_reducible refine (Q2.out _ _ e2 (E.out _ HB1).2).mono ?_); rintro e w2 ⟨rfl, hb⟩; have HB2 := Aside0.mk (HB1.out.trans (hb.mono HB1.out.size)); have x24 := (E.out _ HB2).1 4 (.slice A0_4 n4 c0_4) rfl; clear hb) | (go_at_call 129; (with_reducible refine (Q3.out _ _ e3 (E.out _ HB2).2).mono ?_); rintro e w3 ⟨rfl, hb⟩; have HB3 := Aside0.mk (HB2.out.trans (hb.mono HB2.out.size)); have x33 := (E.out _ HB3).1 3 (.slice A0_3 n3 c0_3) rfl; clear hb) | (go_at_call 130; (with_reducible refine (Q4.out _ _ e4 (E.out _ HB3).2).mono ?_); rintro e w4 ⟨rfl, hb⟩; have HB4 := Aside0.mk (HB3.out.trans (hb.mono HB3.out.size)); have x44 := (E.out _ HB4).1 4 (.slice A0_4 n4 c0_4) rfl; clear hb) | (go_at_call 130; (with_reducible refine (Q5.out _ _ e5 (E.out _ HB4).2).mono ?_); rintro e w5 ⟨rfl, hb⟩; have HB5 := Aside0.mk (HB4.out.trans (hb.mono HB4.out.size)); have x55 := (E.out _ HB5).1 5 (.slice A0_5 n5 c0_5) rfl; clear hb) | (go_at_call 131; (with_reducible refine (Q6.out _ _ e6 (E.out _ HB5).2).mono ?_); rintro e w6 ⟨rfl, hb⟩; have HB6 := Aside0.mk (HB5.out.trans (hb.mono HB5.out.size)); have x66 := (E.out _ HB6).1 6 (.slice A0_6 n6 c0_6) rfl; clear hb))
   go_ret
   exact ⟨rfl, (E.out _ HB6).2⟩
  rw [if_pos rfl] at h
  have h9 := Option.bind_eq_some_iff.mp h
  clear h
  obtain ⟨t7, e7, h⟩ := h9
  cases t7
  case false =>
   rw [if_neg Bool.false_ne_true] at h
   obtain rfl := Option.some.inj h
   clear h
   go_enter Try.func66, Try.ntmps66
   go_wp2_with (first | (go_at_call 129; (with_reducible refine (Q1.out _ _ e1 (E.out _ HB0).2).mono ?_); rintro e w1 ⟨rfl, hb⟩; have HB1 := Aside0.mk (HB0.out.trans (hb.mono HB0.out.size)); have x13 := (E.out _ HB1).1 3 (.slice A0_3 n3 c0_3) rfl; clear hb) | (go_at_call 129; (with_reducible refine (Q2.out _ _ e2 (E.out _ HB1).2).mono ?_); rintro e w2 ⟨rfl, hb⟩; have HB2 := Aside0.mk (HB1.out.trans (hb.mono HB1.out.size)); have x24 := (E.out _ HB2).1 4 (.slice A0_4 n4 c0_4) rfl; clear hb) | (go_at_call 129; (with_reducible refine (Q3.out _ _ e3 (E.out _ HB2).2).mono ?_); rintro e w3 ⟨rfl, hb⟩; have HB3 := Aside0.mk (HB2.out.trans (hb.mono HB2.out.size)); have x33 := (E.out _ HB3).1 3 (.slice A0_3 n3 c0_3) rfl; clear hb) | (go_at_call 130; (with_reducible refine (Q4.out _ _ e4 (E.out _ HB3).2).mono ?_); rintro e w4 ⟨rfl, hb⟩; have HB4 := Aside0.mk (HB3.out.trans (hb.mono HB3.out.size)); have x44 := (E.out _ HB4).1 4 (.slice A0_4 n4 c0_4) rfl; clear hb) | (go_at_call 130; (with_reducible refine (Q5.out _ _ e5 (E.out _ HB4).2).mono ?_); rintro e w5 ⟨rfl, hb⟩; have HB5 := Aside0.mk (HB4.out.trans (hb.mono HB4.out.size)); have x55 := (E.out _ HB5).1 5 (.slice A0_5 n5 c0_5) rfl; clear hb) | (go_at_call 131; (with_reducible refine (Q6.out _ _ e6 (E.out _ HB5).2).mono ?_); rintro e w6 ⟨rfl, hb⟩; have HB6 := Aside0.mk (HB5.out.trans (hb.mono HB5.out.size)); have x66 := (E.out _ HB6).1 6 (.slice A0_6 n6 c0_6) rfl; clear hb) | (go_at_call 131; (with_reducible refine (Q7.out _ _ e7 (E.out _ HB6).2).mono ?_); rintro e w7 ⟨rfl, hb⟩; have HB7 := Aside0.mk (HB6.out.trans (hb.mono HB6.out.size)); have x70 := (E.out _ HB7).1 0 (.bool a0_0) rfl; have x71 := (E.out _ HB7).1 1 (.bool a0_1) rfl; have x72 := (E.out _ HB7).1 2 (.slice A0_2 n2 c0_2) rfl; have x73 := (E.out _ HB7).1 3 (.slice A0_3 n3 c0_3) rfl; have x74 := (E.out _ HB7).1 4 (.slice A0_4 n4 c0_4) rfl; have x75 := (E.out _ HB7).1 5 (.slice A0_5 n5 c0_5) rfl; have x76 := (E.out _ HB7).1 6 (.slice A0_6 n6 c0_6) rfl; have x77 := (E.out _ HB7).1 7 (.bool a0_7) rfl; have x78 := (E.out _ HB7).1 8 (.bool a0_8) rfl; clear hb))
   go_ret
   exact ⟨rfl, (E.out _ HB7).2⟩
  rw [if_pos rfl] at h
  have h9 := Option.bind_eq_some_iff.mp h
  clear h
  obtain ⟨t8, e8, h⟩ := h9
  cases t8
  case true =>
   rw [if_pos rfl] at h
   obtain rfl := Option.some.inj h
   clear h
   go_enter Try.func66, Try.ntmps66
   go_wp2_with (first | (go_at_call 129; (with_reducible refine (Q1.out _ _ e1 (E.out _ HB0).2).mono ?_); rintro e w1 ⟨rfl, hb⟩; have HB1 := Aside0.mk (HB0.out.trans (hb.mono HB0.out.size)); have x13 := (E.out _ HB1).1 3 (.slice A0_3 n3 c0_3) rfl; clear hb) | (go_at_call 129; (with_reducible refine (Q2.out _ _ e2 (E.out _ HB1).2).mono ?_); rintro e w2 ⟨rfl, hb⟩; have HB2 := Aside0.mk (HB1.out.trans (hb.mono HB1.out.size)); have x24 := (E.out _ HB2).1 4 (.slice A0_4 n4 c0_4) rfl; clear hb) | (go_at_call 129; (with_reducible refine (Q3.out _ _ e3 (E.out _ HB2).2).mono ?_); rintro e w3 ⟨rfl, hb⟩; have HB3 := Aside0.mk (HB2.out.trans (hb.mono HB2.out.size)); have x33 := (E.out _ HB3).1 3 (.slice A0_3 n3 c0_3) rfl; clear hb) | (go_at_call 130; (with_reducible refine (Q4.out _ _ e4 (E.out _ HB3).2).mono ?_); rintro e w4 ⟨rfl, hb⟩; have HB4 := Aside0.mk (HB3.out.trans (hb.mono HB3.out.size)); have x44 := (E.out _ HB4).1 4 (.slice A0_4 n4 c0_4) rfl; clear hb) | (go_at_call 130; (with_reducible refine (Q5.out _ _ e5 (E.out _ HB4).2).mono ?_); rintro e w5 ⟨rfl, hb⟩; have HB5 := Aside0.mk (HB4.out.trans (hb.mono HB4.out.size)); have x55 := (E.out _ HB5).1 5 (.slice A0_5 n5 c0_5) rfl; clear hb) | (go_at_call 131; (with_reducible refine (Q6.out _ _ e6 (E.out _ HB5).2).mono ?_); rintro e w6 ⟨rfl, hb⟩; have HB6 := Aside0.mk (HB5.out.trans (hb.mono HB5.out.size)); have x66 := (E.out _ HB6).1 6 (.slice A0_6 n6 c0_6) rfl; clear hb) | (go_at_call 131; (with_reducible refine (Q7.out _ _ e7 (E.out _ HB6).2).mono ?_); rintro e w7 ⟨rfl, hb⟩; have HB7 := Aside0.mk (HB6.out.trans (hb.mono HB6.out.size)); have x70 := (E.out _ HB7).1 0 (.bool a0_0) rfl; have x71 := (E.out _ HB7).1 1 (.bool a0_1) rfl; have x72 := (E.out _ HB7).1 2 (.slice A0_2 n2 c0_2) rfl; have x73 := (E.out _ HB7).1 3 (.slice A0_3 n3 c0_3) rfl; have x74 := (E.out _ HB7).1 4 (.slice A0_4 n4 c0_4) rfl; have x75 := (E.out _ HB7).1 5 (.slice A0_5 n5 c0_5) rfl; have x76 := (E.out _ HB7).1 6 (.slice A0_6 n6 c0_6) rfl; have x77 := (E.out _ HB7).1 7 (.bool a0_7) rfl; have x78 := (E.out _ HB7).1 8 (.bool a0_8) rfl; clear hb) | (go_at_call 132; (with_reducible refine (Q8.out _ _ e8 (E.out _ HB7).2).mono ?_); rintro e w8 ⟨rfl, hb⟩; have HB8 := Aside0.mk (HB7.out.trans (hb.mono HB7.out.size)); clear hb))
   go_ret
   exact ⟨rfl, (E.out _ HB8).2⟩
  rw [if_neg Bool.false_ne_true] at h
  obtain rfl := Option.some.inj h
  clear h
  go_enter Try.func66, Try.ntmps66
  go_wp2_with (first | (go_at_call 129; (with_reducible refine (Q1.out _ _ e1 (E.out _ HB0).2).mono ?_); rintro e w1 ⟨rfl, hb⟩; have HB1 := Aside0.mk (HB0.out.trans (hb.mono HB0.out.size)); have x13 := (E.out _ HB1).1 3 (.slice A0_3 n3 c0_3) rfl; clear hb) | (go_at_call 129; (with_reducible refine (Q2.out _ _ e2 (E.out _ HB1).2).mono ?_); rintro e w2 ⟨rfl, hb⟩; have HB2 := Aside0.mk (HB1.out.trans (hb.mono HB1.out.size)); have x24 := (E.out _ HB2).1 4 (.slice A0_4 n4 c0_4) rfl; clear hb) | (go_at_call 129; (with_reducible refine (Q3.out _ _ e3 (E.out _ HB2).2).mono ?_); rintro e w3 ⟨rfl, hb⟩; have HB3 := Aside0.mk (HB2.out.trans (hb.mono HB2.out.size)); have x33 := (E.out _ HB3).1 3 (.slice A0_3 n3 c0_3) rfl; clear hb) | (go_at_call 130; (with_reducible refine (Q4.out _ _ e4 (E.out _ HB3).2).mono ?_); rintro e w4 ⟨rfl, hb⟩; have HB4 := Aside0.mk (HB3.out.trans (hb.mono HB3.out.size)); have x44 := (E.out _ HB4).1 4 (.slice A0_4 n4 c0_4) rfl; clear hb) | (go_at_call 130; (with_reducible refine (Q5.out _ _ e5 (E.out _ HB4).2).mono ?_); rintro e w5 ⟨rfl, hb⟩; have HB5 := Aside0.mk (HB4.out.trans (hb.mono HB4.out.size)); have x55 := (E.out _ HB5).1 5 (.slice A0_5 n5 c0_5) rfl; clear hb) | (go_at_call 131; (with_reducible refine (Q6.out _ _ e6 (E.out _ HB5).2).mono ?_); rintro e w6 ⟨rfl, hb⟩; have HB6 := Aside0.mk (HB5.out.trans (hb.mono HB5.out.size)); have x66 := (E.out _ HB6).1 6 (.slice A0_6 n6 c0_6) rfl; clear hb) | (go_at_call 131; (with_reducible refine (Q7.out _ _ e7 (E.out _ HB6).2).mono ?_); rintro e w7 ⟨rfl, hb⟩; have HB7 := Aside0.mk (HB6.out.trans (hb.mono HB6.out.size)); have x70 := (E.out _ HB7).1 0 (.bool a0_0) rfl; have x71 := (E.out _ HB7).1 1 (.bool a0_1) rfl; have x72 := (E.out _ HB7).1 2 (.slice A0_2 n2 c0_2) rfl; have x73 := (E.out _ HB7).1 3 (.slice A0_3 n3 c0_3) rfl; have x74 := (E.out _ HB7).1 4 (.slice A0_4 n4 c0_4) rfl; have x75 := (E.out _ HB7).1 5 (.slice A0_5 n5 c0_5) rfl; have x76 := (E.out _ HB7).1 6 (.slice A0_6 n6 c0_6) rfl; have x77 := (E.out _ HB7).1 7 (.bool a0_7) rfl; have x78 := (E.out _ HB7).1 8 (.bool a0_8) rfl; clear hb) | (go_at_call 132; (with_reducible refine (Q8.out _ _ e8 (E.out _ HB7).2).mono ?_); rintro e w8 ⟨rfl, hb⟩; have HB8 := Aside0.mk (HB7.out.trans (hb.mono HB7.out.size)); clear hb))
  go_ret
  exact ⟨rfl, (E.out _ HB8).2⟩


/-! ### impl_isLong: function 100, by hand -/
def impl_isLong.f (l0 : List ByteArray) : Option Bool := if l0.length ≤ 9223372036854775807 then some (l0.any fun t => decide (65536 < (t.size : Int))) else none
theorem impl_isLong.lit (t : ByteArray) (w : World) : Calls Try.prog 153 #[.string t] w fun e w' => e = .returned (.bool (decide (65536 < (t.size : Int)))) ∧ Below w.heap.size w w' := by
  go_enter Try.func153, Try.ntmps153
  go_wp2
  go_ret
  exact ⟨rfl, Below.refl _ _⟩
theorem impl_isLong.calls (A0 : Option Addr) (c0 : Nat) (l0 : List ByteArray) (r : Bool) (w : World) (hr0 : Kd.C Kd.string w A0 l0.length l0) (hc0 : l0.length ≤ c0) (h : impl_isLong.f l0 = some r) :
    Calls Try.prog 100 #[.slice A0 l0.length c0] w fun e w' => e = .returned (.bool r) ∧ Below w.heap.size w w' := by
  unfold impl_isLong.f at h
  obtain ⟨hn, h⟩ := Option.ite_none_right_eq_some.mp h
  obtain rfl := Option.some.inj h
  have hcall := ContainsFunc_string.holds A0 l0.length c0 (fun j => .string (l0.getD j ByteArray.empty)) (fun j => decide (65536 < ((l0.getD j ByteArray.empty).size : Int))) 153 #[] (Mach.enters_of Try.func153 (by kernel_rfl) rfl) w
    (fun j _ W hb => (impl_isLong.lit _ W).mono fun e w' ⟨he, hb'⟩ => ⟨he, hb.trans (hb'.mono hb.size)⟩) hn
    (fun j hj => by
      obtain ⟨ad, e, hx⟩ := Kd.at_string hr0 (j : Int) (by omega) (by omega)
      exact ⟨ad, e, by simpa [rdOf] using hx⟩)
  rw [Mach.anyP_list (fun t : ByteArray => decide (65536 < (t.size : Int)))] at hcall
  clear hr0
  go_enter Try.func100, Try.ntmps100
  go_wp2_with (go_at_call 152; refine hcall.mono ?_; rintro e w' ⟨rfl, hb'⟩)
  go_ret
  exact ⟨rfl, hb'⟩
/-- One text, in the slice that its caller has just built. -/
theorem impl_isLong.one (a1 : ByteArray) (W : World) : Calls Try.prog 100 #[.slice (some ⟨W.heap.size, 0, none⟩) 1 1] (W.alloc (.cells #[.string a1] 9)) fun e w' => e = .returned (.bool (decide (65536 < (a1.size : Int)))) ∧ Below (W.alloc (.cells #[.string a1] 9)).heap.size (W.alloc (.cells #[.string a1] 9)) w' :=
  impl_isLong.calls (some ⟨W.heap.size, 0, none⟩) 1 [a1] (decide (65536 < (a1.size : Int))) (W.alloc (.cells #[.string a1] 9)) ⟨rfl, by simp, fun _ => ⟨_, rfl, fun j p hj => by
    cases j with
    | succ j => simp at hj
    | zero =>
      obtain rfl : a1 = p := by simpa using hj
      exact ⟨[.string a1], rfl, rfl, fun i u hi => by
        cases i with
        | succ i => simp at hi
        | zero =>
          simp at hi
          rw [← hi, add_plain]
          simp⟩⟩⟩ (Nat.le_refl _) (by unfold impl_isLong.f; rw [if_pos (by simp)]; simp)


end Go.Proofs.Ytophaihdibplkaa.PFnExactAllowsElement
