/- By a program of this session, out of the kit's print and contracts made by hand: the machine side of a law; Lean checks it. No conditions. -/
import Derived.Test.YtmeafbneklphnaaPFnExactDefaultConfigx0
import Derived.Test.YtmeafbneklphnaaPFnExactDefaultConfigx3
import Derived.Test.YtmeafbneklphnaaPFnExactDefaultConfigx4
namespace Go.Proofs.Ytmeafbneklphnaa.PFnExactDefaultConfig
open Go.RowKit Go.Proofs.YtmeafbneklphnaaW.PrintWords Go.Proofs.YtmeafbneklphnaaW.PrintLast Go.Proofs.YtmeafbneklphnaaW.PrintMore
attribute [local go_sem] max2_int min2_int max_two min_two max_three min_three max_four min_four   -- for this text's walks alone
set_option linter.unusedVariables false
set_option linter.unusedSimpArgs false

/-! ### laws_eqConfig: function 8, by hand -/
def laws_eqConfig.f (k : Nat) (a0_0 a0_1 : Bool) (l0_2 l0_3 l0_4 : List S56) (l0_5 l0_6 : List ByteArray) (a0_7 a0_8 : Bool) (a1_0 a1_1 : Bool) (l1_2 l1_3 l1_4 : List S56) (l1_5 l1_6 : List ByteArray) (a1_7 a1_8 : Bool) : Option Bool :=
  if (a0_0 != a1_0) = true then some false else if (a0_1 != a1_1) = true then some false else (laws_eqRuleS.f k l0_2 l1_2).bind fun t2 => if t2 = true then (laws_eqRuleS.f k l0_3 l1_3).bind fun t3 => if t3 = true then (laws_eqRuleS.f k l0_4 l1_4).bind fun t4 => if t4 = true then (laws_eqStringS.f k l0_5 l1_5).bind fun t5 => if t5 = true then (laws_eqStringS.f k l0_6 l1_6).bind fun t6 => if t6 = true then (if (a0_7 != a1_7) = true then some false else if (a0_8 != a1_8) = true then some false else some true) else some false else some false else some false else some false else some false
theorem laws_eqConfig.mono : ∀ a0 a1 a2 a3 a4 a5 a6 a7 a8 a9 a10 a11 a12 a13 a14 a15 a16 a17 k, LeO (laws_eqConfig.f k a0 a1 a2 a3 a4 a5 a6 a7 a8 a9 a10 a11 a12 a13 a14 a15 a16 a17) (laws_eqConfig.f (k + 1) a0 a1 a2 a3 a4 a5 a6 a7 a8 a9 a10 a11 a12 a13 a14 a15 a16 a17) := by
  intro a0 a1 a2 a3 a4 a5 a6 a7 a8 a9 a10 a11 a12 a13 a14 a15 a16 a17 k
  unfold laws_eqConfig.f
  repeat' first
      | (with_reducible exact laws_eqRuleS.mono _ _ _)
      | (with_reducible exact laws_eqStringS.mono _ _ _)
      | (with_reducible exact LeO.refl _)
      | (with_reducible refine LeO.ite ?_ ?_)
      | (with_reducible refine LeO.bind ?_ (fun _ => ?_))
      | exact laws_eqRuleS.mono _ _ _
      | exact laws_eqStringS.mono _ _ _
      | refine LeO.ite ?_ ?_
      | refine LeO.bind ?_ (fun _ => ?_)
theorem twoNew {w V : World} {c0 c1 : Array Value} {t : TypeId} (h : Below ((w.alloc (.cells c0 t)).alloc (.cells c1 t)).heap.size ((w.alloc (.cells c0 t)).alloc (.cells c1 t)) V) : (∀ i v, c0[i]? = some v → V.cell? ⟨w.heap.size, i, none⟩ = some v) ∧ (∀ i v, c1[i]? = some v → V.cell? ⟨w.heap.size + 1, i, none⟩ = some v) ∧ Below w.heap.size w V := by
  have h9 : ∀ (u : World) (c : Array Value) (i : Nat) (v : Value), c[i]? = some v → (u.alloc (.cells c t)).cell? ⟨u.heap.size, i, none⟩ = some v := fun u c i v h => by have h1 : c[i]? = some v := h; simp [h1]
  have hb := below_alloc (below_alloc (Below.refl w.heap.size w) (.cells c0 t)) (.cells c1 t)
  refine ⟨fun i v hv => pw_cell_below h (pw_cell_below (below_alloc (Below.refl _ _) _) (h9 w c0 i v hv)), fun i v hv => pw_cell_below h ?_, hb.trans (h.mono hb.size)⟩
  have := h9 (w.alloc (.cells c0 t)) c1 i v hv
  rwa [World.size_alloc] at this
set_option maxHeartbeats 8000000 in
set_option maxRecDepth 100000 in
theorem laws_eqConfig.calls (k : Nat) (a0_0 a0_1 : Bool) (A0_2 : Option Addr) (c0_2 : Nat) (l0_2 : List S56) (A0_3 : Option Addr) (c0_3 : Nat) (l0_3 : List S56) (A0_4 : Option Addr) (c0_4 : Nat) (l0_4 : List S56) (A0_5 : Option Addr) (c0_5 : Nat) (l0_5 : List ByteArray) (A0_6 : Option Addr) (c0_6 : Nat) (l0_6 : List ByteArray) (a0_7 a0_8 : Bool) (a1_0 a1_1 : Bool) (A1_2 : Option Addr) (c1_2 : Nat) (l1_2 : List S56) (A1_3 : Option Addr) (c1_3 : Nat) (l1_3 : List S56) (A1_4 : Option Addr) (c1_4 : Nat) (l1_4 : List S56) (A1_5 : Option Addr) (c1_5 : Nat) (l1_5 : List ByteArray) (A1_6 : Option Addr) (c1_6 : Nat) (l1_6 : List ByteArray) (a1_7 a1_8 : Bool) (r : Bool) (w : World) (hr0_2 : Kd.C k56 w A0_2 l0_2.length l0_2) (hc0_2 : l0_2.length ≤ c0_2) (hr0_3 : Kd.C k56 w A0_3 l0_3.length l0_3) (hc0_3 : l0_3.length ≤ c0_3) (hr0_4 : Kd.C k56 w A0_4 l0_4.length l0_4) (hc0_4 : l0_4.length ≤ c0_4) (hr0_5 : Kd.C Kd.string w A0_5 l0_5.length l0_5) (hc0_5 : l0_5.length ≤ c0_5) (hr0_6 : Kd.C Kd.string w A0_6 l0_6.length l0_6) (hc0_6 : l0_6.length ≤ c0_6) (hr1_2 : Kd.C k56 w A1_2 l1_2.length l1_2) (hc1_2 : l1_2.length ≤ c1_2) (hr1_3 : Kd.C k56 w A1_3 l1_3.length l1_3) (hc1_3 : l1_3.length ≤ c1_3) (hr1_4 : Kd.C k56 w A1_4 l1_4.length l1_4) (hc1_4 : l1_4.length ≤ c1_4) (hr1_5 : Kd.C Kd.string w A1_5 l1_5.length l1_5) (hc1_5 : l1_5.length ≤ c1_5) (hr1_6 : Kd.C Kd.string w A1_6 l1_6.length l1_6) (hc1_6 : l1_6.length ≤ c1_6) (h : laws_eqConfig.f k a0_0 a0_1 l0_2 l0_3 l0_4 l0_5 l0_6 a0_7 a0_8 a1_0 a1_1 l1_2 l1_3 l1_4 l1_5 l1_6 a1_7 a1_8 = some r) :
    Calls Try.prog 8 #[.agg #[.bool a0_0, .bool a0_1, .slice A0_2 l0_2.length c0_2, .slice A0_3 l0_3.length c0_3, .slice A0_4 l0_4.length c0_4, .slice A0_5 l0_5.length c0_5, .slice A0_6 l0_6.length c0_6, .bool a0_7, .bool a0_8], .agg #[.bool a1_0, .bool a1_1, .slice A1_2 l1_2.length c1_2, .slice A1_3 l1_3.length c1_3, .slice A1_4 l1_4.length c1_4, .slice A1_5 l1_5.length c1_5, .slice A1_6 l1_6.length c1_6, .bool a1_7, .bool a1_8]] w fun e w' => e = .returned (.bool r) ∧ Below w.heap.size w w' := by
  unfold laws_eqConfig.f at h
  have HB1 := Aside0.mk (Below.refl ((w.alloc (.cells #[.bool a0_0, .bool a0_1, .slice A0_2 l0_2.length c0_2, .slice A0_3 l0_3.length c0_3, .slice A0_4 l0_4.length c0_4, .slice A0_5 l0_5.length c0_5, .slice A0_6 l0_6.length c0_6, .bool a0_7, .bool a0_8] 25)).alloc (.cells #[.bool a1_0, .bool a1_1, .slice A1_2 l1_2.length c1_2, .slice A1_3 l1_3.length c1_3, .slice A1_4 l1_4.length c1_4, .slice A1_5 l1_5.length c1_5, .slice A1_6 l1_6.length c1_6, .bool a1_7, .bool a1_8] 25)).heap.size ((w.alloc (.cells #[.bool a0_0, .bool a0_1, .slice A0_2 l0_2.length c0_2, .slice A0_3 l0_3.length c0_3, .slice A0_4 l0_4.length c0_4, .slice A0_5 l0_5.length c0_5, .slice A0_6 l0_6.length c0_6, .bool a0_7, .bool a0_8] 25)).alloc (.cells #[.bool a1_0, .bool a1_1, .slice A1_2 l1_2.length c1_2, .slice A1_3 l1_3.length c1_3, .slice A1_4 l1_4.length c1_4, .slice A1_5 l1_5.length c1_5, .slice A1_6 l1_6.length c1_6, .bool a1_7, .bool a1_8] 25)))
  have E := fun V (h : Aside0 (Below ((w.alloc (.cells #[.bool a0_0, .bool a0_1, .slice A0_2 l0_2.length c0_2, .slice A0_3 l0_3.length c0_3, .slice A0_4 l0_4.length c0_4, .slice A0_5 l0_5.length c0_5, .slice A0_6 l0_6.length c0_6, .bool a0_7, .bool a0_8] 25)).alloc (.cells #[.bool a1_0, .bool a1_1, .slice A1_2 l1_2.length c1_2, .slice A1_3 l1_3.length c1_3, .slice A1_4 l1_4.length c1_4, .slice A1_5 l1_5.length c1_5, .slice A1_6 l1_6.length c1_6, .bool a1_7, .bool a1_8] 25)).heap.size ((w.alloc (.cells #[.bool a0_0, .bool a0_1, .slice A0_2 l0_2.length c0_2, .slice A0_3 l0_3.length c0_3, .slice A0_4 l0_4.length c0_4, .slice A0_5 l0_5.length c0_5, .slice A0_6 l0_6.length c0_6, .bool a0_7, .bool a0_8] 25)).alloc (.cells #[.bool a1_0, .bool a1_1, .slice A1_2 l1_2.length c1_2, .slice A1_3 l1_3.length c1_3, .slice A1_4 l1_4.length c1_4, .slice A1_5 l1_5.length c1_5, .slice A1_6 l1_6.length c1_6, .bool a1_7, .bool a1_8] 25)) V)) => twoNew h.out
  have E := Aside0.mk E
  have Q2 : Aside0 (∀ t V, laws_eqRuleS.f k l0_2 l1_2 = some t → Below w.heap.size w V → Calls Try.prog 26 #[.slice A0_2 l0_2.length c0_2, .slice A1_2 l1_2.length c1_2] V fun e w' => e = .returned (.bool t) ∧ Below V.heap.size V w') := ⟨fun t V e hV => laws_eqRuleS.calls k A0_2 c0_2 l0_2 A1_2 c1_2 l1_2 t V (Kd.C_below hr0_2 hV) hc0_2 (Kd.C_below hr1_2 hV) hc1_2 e⟩
  have Q3 : Aside0 (∀ t V, laws_eqRuleS.f k l0_3 l1_3 = some t → Below w.heap.size w V → Calls Try.prog 26 #[.slice A0_3 l0_3.length c0_3, .slice A1_3 l1_3.length c1_3] V fun e w' => e = .returned (.bool t) ∧ Below V.heap.size V w') := ⟨fun t V e hV => laws_eqRuleS.calls k A0_3 c0_3 l0_3 A1_3 c1_3 l1_3 t V (Kd.C_below hr0_3 hV) hc0_3 (Kd.C_below hr1_3 hV) hc1_3 e⟩
  have Q4 : Aside0 (∀ t V, laws_eqRuleS.f k l0_4 l1_4 = some t → Below w.heap.size w V → Calls Try.prog 26 #[.slice A0_4 l0_4.length c0_4, .slice A1_4 l1_4.length c1_4] V fun e w' => e = .returned (.bool t) ∧ Below V.heap.size V w') := ⟨fun t V e hV => laws_eqRuleS.calls k A0_4 c0_4 l0_4 A1_4 c1_4 l1_4 t V (Kd.C_below hr0_4 hV) hc0_4 (Kd.C_below hr1_4 hV) hc1_4 e⟩
  have Q5 : Aside0 (∀ t V, laws_eqStringS.f k l0_5 l1_5 = some t → Below w.heap.size w V → Calls Try.prog 27 #[.slice A0_5 l0_5.length c0_5, .slice A1_5 l1_5.length c1_5] V fun e w' => e = .returned (.bool t) ∧ Below V.heap.size V w') := ⟨fun t V e hV => (laws_eqStringS.calls k A0_5 c0_5 l0_5 A1_5 c1_5 l1_5 t V (Kd.C_below hr0_5 hV) hc0_5 (Kd.C_below hr1_5 hV) hc1_5 e).mono fun e w' ⟨he, hd⟩ => ⟨he, hd.below⟩⟩
  have Q6 : Aside0 (∀ t V, laws_eqStringS.f k l0_6 l1_6 = some t → Below w.heap.size w V → Calls Try.prog 27 #[.slice A0_6 l0_6.length c0_6, .slice A1_6 l1_6.length c1_6] V fun e w' => e = .returned (.bool t) ∧ Below V.heap.size V w') := ⟨fun t V e hV => (laws_eqStringS.calls k A0_6 c0_6 l0_6 A1_6 c1_6 l1_6 t V (Kd.C_below hr0_6 hV) hc0_6 (Kd.C_below hr1_6 hV) hc1_6 e).mono fun e w' ⟨he, hd⟩ => ⟨he, hd.below⟩⟩
  clear hr0_2 hc0_2 hr0_3 hc0_3 hr0_4 hc0_4 hr0_5 hc0_5 hr0_6 hc0_6
  clear hr1_2 hc1_2 hr1_3 hc1_3 hr1_4 hc1_4 hr1_5 hc1_5 hr1_6 hc1_6
  generalize l0_2.length = n0_2 at *
  generalize l0_3.length = n0_3 at *
  generalize l0_4.length = n0_4 at *
  generalize l0_5.length = n0_5 at *
  generalize l0_6.length = n0_6 at *
  generalize l1_2.length = n1_2 at *
  generalize l1_3.length = n1_3 at *
  generalize l1_4.length = n1_4 at *
  generalize l1_5.length = n1_5 at *
  generalize l1_6.length = n1_6 at *
  by_cases b0 : a0_0 = a1_0
  case neg =>
   have z0 : (a0_0 != a1_0) = true := by simpa using b0
   have u0 : (a0_0 == a1_0) = false := by simpa using b0
   clear b0
   rw [if_pos z0] at h
   obtain rfl := Option.some.inj h
   clear h
   go_enter Try.func8, Try.ntmps8
   go_wp2
   go_ret
   exact ⟨rfl, (E.out _ HB1).2.2⟩
  subst b0
  have z0 : (a0_0 != a0_0) = false := by simp
  rw [if_neg (by rw [z0]; exact Bool.false_ne_true)] at h
  by_cases b1 : a0_1 = a1_1
  case neg =>
   have z1 : (a0_1 != a1_1) = true := by simpa using b1
   have u1 : (a0_1 == a1_1) = false := by simpa using b1
   clear b1
   rw [if_pos z1] at h
   obtain rfl := Option.some.inj h
   clear h
   go_enter Try.func8, Try.ntmps8
   go_wp2
   go_ret
   exact ⟨rfl, (E.out _ HB1).2.2⟩
  subst b1
  have z1 : (a0_1 != a0_1) = false := by simp
  rw [if_neg (by rw [z1]; exact Bool.false_ne_true)] at h
  have h9 := Option.bind_eq_some_iff.mp h
  clear h
  obtain ⟨t2, e2, h⟩ := h9
  cases t2
  case false =>
   rw [if_neg Bool.false_ne_true] at h
   obtain rfl := Option.some.inj h
   clear h
   go_enter Try.func8, Try.ntmps8
   go_wp2_with (first | (go_at_call 26; (with_reducible refine (Q2.out _ _ e2 (E.out _ HB1).2.2).mono ?_); rintro e w2 ⟨rfl, hb⟩; have HB2 := Aside0.mk (HB1.out.trans (hb.mono HB1.out.size)); have x23 := (E.out _ HB2).1 3 (.slice A0_3 n0_3 c0_3) rfl; have y23 := (E.out _ HB2).2.1 3 (.slice A1_3 n1_3 c1_3) rfl; clear hb))
   go_ret
   exact ⟨rfl, (E.out _ HB2).2.2⟩
  rw [if_pos rfl] at h
  have h9 := Option.bind_eq_some_iff.mp h
  clear h
  obtain ⟨t3, e3, h⟩ := h9
  cases t3
  case false =>
   rw [if_neg Bool.false_ne_true] at h
   obtain rfl := Option.some.inj h
   clear h
   go_enter Try.func8, Try.ntmps8
   go_wp2_with (first | (go_at_call 26; (with_reducible refine (Q2.out _ _ e2 (E.out _ HB1).2.2).mono ?_); rintro e w2 ⟨rfl, hb⟩; have HB2 := Aside0.mk (HB1.out.trans (hb.mono HB1.out.size)); have x23 := (E.out _ HB2).1 3 (.slice A0_3 n0_3 c0_3) rfl; have y23 := (E.out _ HB2).2.1 3 (.slice A1_3 n1_3 c1_3) rfl; clear hb) | (go_at_call 26; (with_reducible refine (Q3.out _ _ e3 (E.out _ HB2).2.2).mono ?_); rintro e w3 ⟨rfl, hb⟩; have HB3 := Aside0.mk (HB2.out.trans (hb.mono HB2.out.size)); have x34 := (E.out _ HB3).1 4 (.slice A0_4 n0_4 c0_4) rfl; have y34 := (E.out _ HB3).2.1 4 (.slice A1_4 n1_4 c1_4) rfl; clear hb))
   go_ret
   exact ⟨rfl, (E.out _ HB3).2.2⟩
  rw [if_pos rfl] at h
  have h9 := Option.bind_eq_some_iff.mp h
  clear h
  obtain ⟨t4, e4, h⟩ := h9
  cases t4
  case false =>
   rw [if_neg Bool.false_ne_true] at h
   obtain rfl := Option.some.inj h
   clear h
   go_enter Try.func8, Try.ntmps8
   go_wp2_with (first | (go_at_call 26; (with_reducible refine (Q2.out _ _ e2 (E.out _ HB1).2.2).mono ?_); rintro e w2 ⟨rfl, hb⟩; have HB2 := Aside0.mk (HB1.out.trans (hb.mono HB1.out.size)); have x23 := (E.out _ HB2).1 3 (.slice A0_3 n0_3 c0_3) rfl; have y23 := (E.out _ HB2).2.1 3 (.slice A1_3 n1_3 c1_3) rfl; clear hb) | (go_at_call 26; (with_reducible refine (Q3.out _ _ e3 (E.out _ HB2).2.2).mono ?_); rintro e w3 ⟨rfl, hb⟩; have HB3 := Aside0.mk (HB2.out.trans (hb.mono HB2.out.size)); have x34 := (E.out _ HB3).1 4 (.slice A0_4 n0_4 c0_4) rfl; have y34 := (E.out _ HB3).2.1 4 (.slice A1_4 n1_4 c1_4) rfl; clear hb) | (go_at_call 26; (with_reducible refine (Q4.out _ _ e4 (E.out _ HB3).2.2).mono ?_); rintro e w4 ⟨rfl, hb⟩; have HB4 := Aside0.mk (HB3.out.trans (hb.mono HB3.out.size)); have x45 := (E.out _ HB4).1 5 (.slice A0_5 n0_5 c0_5) rfl; have y45 := (E.out _ HB4).2.1 5 (.slice A1_5 n1_5 c1_5) rfl; clear hb))
   go_ret
   exact ⟨rfl, (E.out _ HB4).2.2⟩
  rw [if_pos rfl] at h
  have h9 := Option.bind_eq_some_iff.mp h
  clear h
  obtain ⟨t5, e5, h⟩ := h9
  cases t5
  case false =>
   rw [if_neg Bool.false_ne_true] at h
   obtain rfl := Option.some.inj h
   clear h
   go_enter Try.func8, Try.ntmps8
   go_wp2_with (first | (go_at_call 26; (with_reducible refine (Q2.out _ _ e2 (E.out _ HB1).2.2).mono ?_); rintro e w2 ⟨rfl, hb⟩; have HB2 := Aside0.mk (HB1.out.trans (hb.mono HB1.out.size)); have x23 := (E.out _ HB2).1 3 (.slice A0_3 n0_3 c0_3) rfl; have y23 := (E.out _ HB2).2.1 3 (.slice A1_3 n1_3 c1_3) rfl; clear hb) | (go_at_call 26; (with_reducible refine (Q3.out _ _ e3 (E.out _ HB2).2.2).mono ?_); rintro e w3 ⟨rfl, hb⟩; have HB3 := Aside0.mk (HB2.out.trans (hb.mono HB2.out.size)); have x34 := (E.out _ HB3).1 4 (.slice A0_4 n0_4 c0_4) rfl; have y34 := (E.out _ HB3).2.1 4 (.slice A1_4 n1_4 c1_4) rfl; clear hb) | (go_at_call 26; (with_reducible refine (Q4.out _ _ e4 (E.out _ HB3).2.2).mono ?_); rintro e w4 ⟨rfl, hb⟩; have HB4 := Aside0.mk (HB3.out.trans (hb.mono HB3.out.size)); have x45 := (E.out _ HB4).1 5 (.slice A0_5 n0_5 c0_5) rfl; have y45 := (E.out _ HB4).2.1 5 (.slice A1_5 n1_5 c1_5) rfl; clear hb) | (go_at_call 27; (with_reducible refine (Q5.out _ _ e5 (E.out _ HB4).2.2).mono ?_); rintro e w5 ⟨rfl, hb⟩; have HB5 := Aside0.mk (HB4.out.trans (hb.mono HB4.out.size)); have x56 := (E.out _ HB5).1 6 (.slice A0_6 n0_6 c0_6) rfl; have y56 := (E.out _ HB5).2.1 6 (.slice A1_6 n1_6 c1_6) rfl; clear hb))
   go_ret
   exact ⟨rfl, (E.out _ HB5).2.2⟩
  rw [if_pos rfl] at h
  have h9 := Option.bind_eq_some_iff.mp h
  clear h
  obtain ⟨t6, e6, h⟩ := h9
  cases t6
  case false =>
   rw [if_neg Bool.false_ne_true] at h
   obtain rfl := Option.some.inj h
   clear h
   go_enter Try.func8, Try.ntmps8
   go_wp2_with (first | (go_at_call 26; (with_reducible refine (Q2.out _ _ e2 (E.out _ HB1).2.2).mono ?_); rintro e w2 ⟨rfl, hb⟩; have HB2 := Aside0.mk (HB1.out.trans (hb.mono HB1.out.size)); have x23 := (E.out _ HB2).1 3 (.slice A0_3 n0_3 c0_3) rfl; have y23 := (E.out _ HB2).2.1 3 (.slice A1_3 n1_3 c1_3) rfl; clear hb) | (go_at_call 26; (with_reducible refine (Q3.out _ _ e3 (E.out _ HB2).2.2).mono ?_); rintro e w3 ⟨rfl, hb⟩; have HB3 := Aside0.mk (HB2.out.trans (hb.mono HB2.out.size)); have x34 := (E.out _ HB3).1 4 (.slice A0_4 n0_4 c0_4) rfl; have y34 := (E.out _ HB3).2.1 4 (.slice A1_4 n1_4 c1_4) rfl; clear hb) | (go_at_call 26; (with_reducible refine (Q4.out _ _ e4 (E.out _ HB3).2.2).mono ?_); rintro e w4 ⟨rfl, hb⟩; have HB4 := Aside0.mk (HB3.out.trans (hb.mono HB3.out.size)); have x45 := (E.out _ HB4).1 5 (.slice A0_5 n0_5 c0_5) rfl; have y45 := (E.out _ HB4).2.1 5 (.slice A1_5 n1_5 c1_5) rfl; clear hb) | (go_at_call 27; (with_reducible refine (Q5.out _ _ e5 (E.out _ HB4).2.2).mono ?_); rintro e w5 ⟨rfl, hb⟩; have HB5 := Aside0.mk (HB4.out.trans (hb.mono HB4.out.size)); have x56 := (E.out _ HB5).1 6 (.slice A0_6 n0_6 c0_6) rfl; have y56 := (E.out _ HB5).2.1 6 (.slice A1_6 n1_6 c1_6) rfl; clear hb) | (go_at_call 27; (with_reducible refine (Q6.out _ _ e6 (E.out _ HB5).2.2).mono ?_); rintro e w6 ⟨rfl, hb⟩; have HB6 := Aside0.mk (HB5.out.trans (hb.mono HB5.out.size)); have x67 := (E.out _ HB6).1 7 (.bool _) rfl; have y67 := (E.out _ HB6).2.1 7 (.bool _) rfl; have x68 := (E.out _ HB6).1 8 (.bool _) rfl; have y68 := (E.out _ HB6).2.1 8 (.bool _) rfl; clear hb))
   go_ret
   exact ⟨rfl, (E.out _ HB6).2.2⟩
  rw [if_pos rfl] at h
  by_cases b7 : a0_7 = a1_7
  case neg =>
   have z7 : (a0_7 != a1_7) = true := by simpa using b7
   have u7 : (a0_7 == a1_7) = false := by simpa using b7
   clear b7
   rw [if_pos z7] at h
   obtain rfl := Option.some.inj h
   clear h
   go_enter Try.func8, Try.ntmps8
   go_wp2_with (first | (go_at_call 26; (with_reducible refine (Q2.out _ _ e2 (E.out _ HB1).2.2).mono ?_); rintro e w2 ⟨rfl, hb⟩; have HB2 := Aside0.mk (HB1.out.trans (hb.mono HB1.out.size)); have x23 := (E.out _ HB2).1 3 (.slice A0_3 n0_3 c0_3) rfl; have y23 := (E.out _ HB2).2.1 3 (.slice A1_3 n1_3 c1_3) rfl; clear hb) | (go_at_call 26; (with_reducible refine (Q3.out _ _ e3 (E.out _ HB2).2.2).mono ?_); rintro e w3 ⟨rfl, hb⟩; have HB3 := Aside0.mk (HB2.out.trans (hb.mono HB2.out.size)); have x34 := (E.out _ HB3).1 4 (.slice A0_4 n0_4 c0_4) rfl; have y34 := (E.out _ HB3).2.1 4 (.slice A1_4 n1_4 c1_4) rfl; clear hb) | (go_at_call 26; (with_reducible refine (Q4.out _ _ e4 (E.out _ HB3).2.2).mono ?_); rintro e w4 ⟨rfl, hb⟩; have HB4 := Aside0.mk (HB3.out.trans (hb.mono HB3.out.size)); have x45 := (E.out _ HB4).1 5 (.slice A0_5 n0_5 c0_5) rfl; have y45 := (E.out _ HB4).2.1 5 (.slice A1_5 n1_5 c1_5) rfl; clear hb) | (go_at_call 27; (with_reducible refine (Q5.out _ _ e5 (E.out _ HB4).2.2).mono ?_); rintro e w5 ⟨rfl, hb⟩; have HB5 := Aside0.mk (HB4.out.trans (hb.mono HB4.out.size)); have x56 := (E.out _ HB5).1 6 (.slice A0_6 n0_6 c0_6) rfl; have y56 := (E.out _ HB5).2.1 6 (.slice A1_6 n1_6 c1_6) rfl; clear hb) | (go_at_call 27; (with_reducible refine (Q6.out _ _ e6 (E.out _ HB5).2.2).mono ?_); rintro e w6 ⟨rfl, hb⟩; have HB6 := Aside0.mk (HB5.out.trans (hb.mono HB5.out.size)); have x67 := (E.out _ HB6).1 7 (.bool _) rfl; have y67 := (E.out _ HB6).2.1 7 (.bool _) rfl; have x68 := (E.out _ HB6).1 8 (.bool _) rfl; have y68 := (E.out _ HB6).2.1 8 (.bool _) rfl; clear hb))
   go_ret
   exact ⟨rfl, (E.out _ HB6).2.2⟩
  subst b7
  have z7 : (a0_7 != a0_7) = false := by simp
  rw [if_neg (by rw [z7]; exact Bool.false_ne_true)] at h
  by_cases b8 : a0_8 = a1_8
  case neg =>
   have z8 : (a0_8 != a1_8) = true := by simpa using b8
   have u8 : (a0_8 == a1_8) = false := by simpa using b8
   clear b8
   rw [if_pos z8] at h
   obtain rfl := Option.some.inj h
   clear h
   go_enter Try.func8, Try.ntmps8
   go_wp2_with (first | (go_at_call 26; (with_reducible refine (Q2.out _ _ e2 (E.out _ HB1).2.2).mono ?_); rintro e w2 ⟨rfl, hb⟩; have HB2 := Aside0.mk (HB1.out.trans (hb.mono HB1.out.size)); have x23 := (E.out _ HB2).1 3 (.slice A0_3 n0_3 c0_3) rfl; have y23 := (E.out _ HB2).2.1 3 (.slice A1_3 n1_3 c1_3) rfl; clear hb) | (go_at_call 26; (with_reducible refine (Q3.out _ _ e3 (E.out _ HB2).2.2).mono ?_); rintro e w3 ⟨rfl, hb⟩; have HB3 := Aside0.mk (HB2.out.trans (hb.mono HB2.out.size)); have x34 := (E.out _ HB3).1 4 (.slice A0_4 n0_4 c0_4) rfl; have y34 := (E.out _ HB3).2.1 4 (.slice A1_4 n1_4 c1_4) rfl; clear hb) | (go_at_call 26; (with_reducible refine (Q4.out _ _ e4 (E.out _ HB3).2.2).mono ?_); rintro e w4 ⟨rfl, hb⟩; have HB4 := Aside0.mk (HB3.out.trans (hb.mono HB3.out.size)); have x45 := (E.out _ HB4).1 5 (.slice A0_5 n0_5 c0_5) rfl; have y45 := (E.out _ HB4).2.1 5 (.slice A1_5 n1_5 c1_5) rfl; clear hb) | (go_at_call 27; (with_reducible refine (Q5.out _ _ e5 (E.out _ HB4).2.2).mono ?_); rintro e w5 ⟨rfl, hb⟩; have HB5 := Aside0.mk (HB4.out.trans (hb.mono HB4.out.size)); have x56 := (E.out _ HB5).1 6 (.slice A0_6 n0_6 c0_6) rfl; have y56 := (E.out _ HB5).2.1 6 (.slice A1_6 n1_6 c1_6) rfl; clear hb) | (go_at_call 27; (with_reducible refine (Q6.out _ _ e6 (E.out _ HB5).2.2).mono ?_); rintro e w6 ⟨rfl, hb⟩; have HB6 := Aside0.mk (HB5.out.trans (hb.mono HB5.out.size)); have x67 := (E.out _ HB6).1 7 (.bool _) rfl; have y67 := (E.out _ HB6).2.1 7 (.bool _) rfl; have x68 := (E.out _ HB6).1 8 (.bool _) rfl; have y68 := (E.out _ HB6).2.1 8 (.bool _) rfl; clear hb))
   go_ret
   exact ⟨rfl, (E.out _ HB6).2.2⟩
  subst b8
  have z8 : (a0_8 != a0_8) = false := by simp
  rw [if_neg (by rw [z8]; exact Bool.false_ne_true)] at h
  obtain rfl := Option.some.inj h
  clear h
  go_enter Try.func8, Try.ntmps8
  go_wp2_with (first | (go_at_call 26; (with_reducible refine (Q2.out _ _ e2 (E.out _ HB1).2.2).mono ?_); rintro e w2 ⟨rfl, hb⟩; have HB2 := Aside0.mk (HB1.out.trans (hb.mono HB1.out.size)); have x23 := (E.out _ HB2).1 3 (.slice A0_3 n0_3 c0_3) rfl; have y23 := (E.out _ HB2).2.1 3 (.slice A1_3 n1_3 c1_3) rfl; clear hb) | (go_at_call 26; (with_reducible refine (Q3.out _ _ e3 (E.out _ HB2).2.2).mono ?_); rintro e w3 ⟨rfl, hb⟩; have HB3 := Aside0.mk (HB2.out.trans (hb.mono HB2.out.size)); have x34 := (E.out _ HB3).1 4 (.slice A0_4 n0_4 c0_4) rfl; have y34 := (E.out _ HB3).2.1 4 (.slice A1_4 n1_4 c1_4) rfl; clear hb) | (go_at_call 26; (with_reducible refine (Q4.out _ _ e4 (E.out _ HB3).2.2).mono ?_); rintro e w4 ⟨rfl, hb⟩; have HB4 := Aside0.mk (HB3.out.trans (hb.mono HB3.out.size)); have x45 := (E.out _ HB4).1 5 (.slice A0_5 n0_5 c0_5) rfl; have y45 := (E.out _ HB4).2.1 5 (.slice A1_5 n1_5 c1_5) rfl; clear hb) | (go_at_call 27; (with_reducible refine (Q5.out _ _ e5 (E.out _ HB4).2.2).mono ?_); rintro e w5 ⟨rfl, hb⟩; have HB5 := Aside0.mk (HB4.out.trans (hb.mono HB4.out.size)); have x56 := (E.out _ HB5).1 6 (.slice A0_6 n0_6 c0_6) rfl; have y56 := (E.out _ HB5).2.1 6 (.slice A1_6 n1_6 c1_6) rfl; clear hb) | (go_at_call 27; (with_reducible refine (Q6.out _ _ e6 (E.out _ HB5).2.2).mono ?_); rintro e w6 ⟨rfl, hb⟩; have HB6 := Aside0.mk (HB5.out.trans (hb.mono HB5.out.size)); have x67 := (E.out _ HB6).1 7 (.bool _) rfl; have y67 := (E.out _ HB6).2.1 7 (.bool _) rfl; have x68 := (E.out _ HB6).1 8 (.bool _) rfl; have y68 := (E.out _ HB6).2.1 8 (.bool _) rfl; clear hb))
  go_ret
  exact ⟨rfl, (E.out _ HB6).2.2⟩


/-! ### laws_markText: function 54 -/
def laws_markText.l0 : Nat → Int → ByteArray → Option (ByteArray)
  | 0, _, _ => none
  | k + 1, x0, x3 => if x0 > 0 then ((some (([(wrap64 (48 + (Int.tmod x0 10))) % 256] : List Int) : List Int)).bind fun y161 => (if (strOfNums y161).size + x3.size ≤ 9223372036854775807 then (laws_markText.l0 k (wrap64 (Int.tdiv x0 10)) ((strOfNums y161) ++ x3)) else (none))) else (if 1 + x3.size ≤ 9223372036854775807 then (some ((⟨#[109]⟩ : ByteArray) ++ x3)) else (none))
def laws_markText.f (k : Nat) (a0 : Int) : Option (ByteArray) := if a0 ≤ 0 then (some (⟨#[109, 48]⟩ : ByteArray)) else (laws_markText.l0 k a0 (⟨#[]⟩ : ByteArray))
theorem laws_markText.mono_l : ∀ k, (∀ y0 y1, LeO (laws_markText.l0 k y0 y1) (laws_markText.l0 (k + 1) y0 y1))
  | 0 => fun _ _ r h => by simp [laws_markText.l0] at h
  | k + 1 => by
    have ih0 := laws_markText.mono_l k
    · intro y0 y1
      unfold laws_markText.l0
      repeat' first
      | (with_reducible exact ih0 _ _)
      | (with_reducible exact LeO.refl _)
      | (with_reducible exact LeO.none _)
      | (with_reducible refine LeO.ite ?_ ?_)
      | (with_reducible refine LeO.bind ?_ (fun _ => ?_))
      | exact ih0 _ _
      | exact LeO.none _
      | refine LeO.ite ?_ ?_
      | refine LeO.bind ?_ (fun _ => ?_)
theorem laws_markText.mono : ∀ a0 k, LeO (laws_markText.f k a0) (laws_markText.f (k + 1) a0) := by
  intro a0 k
  have ih0 := laws_markText.mono_l k
  unfold laws_markText.f
  repeat' first
      | (with_reducible exact ih0 _ _)
      | (with_reducible exact LeO.refl _)
      | (with_reducible exact LeO.none _)
      | (with_reducible refine LeO.ite ?_ ?_)
      | (with_reducible refine LeO.bind ?_ (fun _ => ?_))
      | exact ih0 _ _
      | exact LeO.none _
      | refine LeO.ite ?_ ?_
      | refine LeO.bind ?_ (fun _ => ?_)
set_option maxHeartbeats 8000000 in
set_option maxRecDepth 100000 in
theorem laws_markText.calls (k : Nat) (a0 : Int) (r : ByteArray) (w : World) (h : laws_markText.f k a0 = some r) :
    Calls Try.prog 54 #[.int .i64 a0] w fun e w' => e = .returned (.string r) ∧ Below w.heap.size w w' := by
  have HB := Aside0.mk (Below.refl w.heap.size w)
  have H : (if a0 ≤ 0 then (some (⟨#[109, 48]⟩ : ByteArray)) else (laws_markText.l0 k a0 (⟨#[]⟩ : ByteArray))) = some r := h
  clear h
  by_cases c2 : a0 ≤ 0
  · rw [if_pos c2] at H
    have c2b0 : decide (a0 ≤ 0) = true := decide_eq_true c2
    clear c2
    obtain rfl := Option.some.inj H
    go_enter Try.func54, Try.ntmps54
    go_wp2
    go_ret
    exact ⟨by first | rfl | (simp [errW_none, errW_some] <;> rfl) | (simp [*, errW_none, errW_some] <;> rfl), by repeat (first | (with_reducible first | exact HB.out | apply below_alloc | apply pw_below_drewN | apply below_drew1) | exact HB.out)⟩
  · rw [if_neg c2] at H
    have c2b0 : decide (a0 ≤ 0) = false := decide_eq_false c2
    clear c2
    have H' := Aside0.mk H
    clear H
    go_enter Try.func54, Try.ntmps54
    go_wp2
    go_loopg [0, 3] k (fun kq v0 v3 w' => ∃ (x0_1 : Int) (x3_1 : ByteArray), v0 = .int .i64 x0_1 ∧ v3 = .string x3_1 ∧ Aside0 (laws_markText.l0 kq x0_1 x3_1 = some r) ∧ Aside0 (kq ≤ k) ∧ Aside0 (Below w.heap.size w w'))
    case atStart => exact ⟨(a0), ((⟨#[]⟩ : ByteArray)), (by first | rfl | (simp; done) | (simp [*]; done)), (by first | rfl | (simp; done) | (simp [*]; done)), H', ⟨Nat.le_refl _⟩, ⟨by repeat (first | (with_reducible first | exact HB.out | apply below_alloc | apply pw_below_drewN | apply below_drew1) | exact HB.out)⟩⟩
    case round =>
      clear H'
      try clear c2
      try clear c2b0
      try clear p2
      obtain ⟨x0_1, x3_1, rfl, rfl, HA, HK1, HB⟩ := hrel
      cases gk with
      | zero => exact absurd HA.out (by simp [laws_markText.l0])
      | succ k1 =>
        have H := HA.out
        clear HA
        simp only [laws_markText.l0] at H
        by_cases c3 : x0_1 > 0
        · rw [if_pos c3] at H
          have c3b0 : decide (0 < x0_1) = true := decide_eq_true c3
          clear c3
          obtain ⟨y161, hy161⟩ : ∃ y_ : List Int, y_ = (([(wrap64 (48 + (Int.tmod x0_1 10))) % 256] : List Int)) := ⟨_, rfl⟩
          replace H : (if (strOfNums y161).size + x3_1.size ≤ 9223372036854775807 then (laws_markText.l0 k1 (wrap64 (Int.tdiv x0_1 10)) ((strOfNums y161) ++ x3_1)) else (none)) = some r := by first | (rw [hy161]; with_reducible exact H) | (have H2_ := (Option.bind_some _ _).symm.trans H; rw [hy161]; with_reducible exact H2_) | (have H2_ := (Option.bind_some _ _).symm.trans H; with_reducible exact H2_) | with_reducible exact H | (rw [hy161]; exact H) | exact H
          have Ny161 := Aside0.mk hy161
          clear hy161
          by_cases c4 : (strOfNums y161).size + x3_1.size ≤ 9223372036854775807
          · rw [if_pos c4] at H
            have c4b0 := eq_true c4
            have c4b1 : decide ((strOfNums y161).size + x3_1.size ≤ 9223372036854775807) = true := decide_eq_true c4
            try have c4b2 : (9223372036854775807 < (strOfNums y161).size + x3_1.size) = False := eq_false (Nat.not_lt.2 c4)
            have H' := Aside0.mk H
            clear H
            go_wp2_with (first | ((with_reducible refine gate_dst (N := 12) rfl ?_); refine Kd.R_lit (Kd.int .u8) _ 5 ?hg (N := 12) ?hd (xs := ([(wrap64 (48 + (Int.tmod x0_1 10))) % 256] : List Int)) (inner := [.int .u8 ((wrap64 (48 + (Int.tmod x0_1 10))) % 256)]) (ok := fun _ => True) (okp := fun _ => True) ?hr ?hp (fun _ hk => hk) trivial (Below.refl _ _) (Nat.le_refl _) (by simp) ?_; (case hd => rfl); (case hg => rfl); (case hr => first | (go_simp; done) | (go_simp; rfl) | (first | (go_simp; done) | (go_simp; rfl))); (case hp => exact (Reps.one (show Kd.M (Kd.int .u8) _ _ _ ((wrap64 (48 + (Int.tmod x0_1 10))) % 256) [.int .u8 ((wrap64 (48 + (Int.tmod x0_1 10))) % 256)] from rfl) (Reps.none _ _))); intro v162 w5 ho6 hb hg_ hnew_; clear hg_ hnew_; (first | rw [← Ny161.out] at ho6 | (simp only [Int.reduceToNat] at ho6; rw [← Ny161.out] at ho6)); have n0_ := Aside0.mk (Kd.R_lower ho6 (below_size (by repeat (first | (with_reducible first | exact HB.out | apply below_alloc | apply pw_below_drewN | apply below_drew1) | exact HB.out)))); have n1_ := Aside0.mk (below_step (by repeat (first | (with_reducible first | exact HB.out | apply below_alloc | apply pw_below_drewN | apply below_drew1) | exact HB.out)) hb); clear HB; have HO163 := n0_; have HB := n1_; clear n0_ n1_; clear hb ho6; have hcv7 := own_string (P := Try.prog) Try.underlying30 Try.underlying5 Try.underlying9 (Kd.own_of_R HO163.out)))
            go_roundg k1
            case measure => have := HK1.out; omega
            case rel => exact ⟨(wrap64 (Int.tdiv x0_1 10)), ((strOfNums y161) ++ x3_1), (by first | rfl | (simp; done) | (simp [*]; done)), (by first | rfl | (simp; done) | (simp [*]; done)), H', ⟨by have := HK1.out; omega⟩, ⟨by repeat (first | (with_reducible first | exact HB.out | apply below_alloc | apply pw_below_drewN | apply below_drew1) | exact HB.out)⟩⟩
          · rw [if_neg c4] at H
            exact absurd H (by simp)
        · rw [if_neg c3] at H
          have c3b0 : decide (0 < x0_1) = false := decide_eq_false c3
          clear c3
          by_cases c8 : 1 + x3_1.size ≤ 9223372036854775807
          · rw [if_pos c8] at H
            have c8b0 := eq_true c8
            have c8b1 : decide (1 + x3_1.size ≤ 9223372036854775807) = true := decide_eq_true c8
            try have c8b2 : (9223372036854775807 < 1 + x3_1.size) = False := eq_false (Nat.not_lt.2 c8)
            obtain rfl := Option.some.inj H
            go_wp2
            go_ret
            exact ⟨by first | rfl | (simp [errW_none, errW_some] <;> rfl) | (simp [*, errW_none, errW_some] <;> rfl), by repeat (first | (with_reducible first | exact HB.out | apply below_alloc | apply pw_below_drewN | apply below_drew1) | exact HB.out)⟩
          · rw [if_neg c8] at H
            exact absurd H (by simp)

end Go.Proofs.Ytmeafbneklphnaa.PFnExactDefaultConfig
