/- By a program of this session, out of the kit's print and contracts made by hand: the machine side of a law; Lean checks it. No conditions. -/
import Derived.Test.YtaimaagpfppggaaPFnExactUnwrapsx0
import Derived.Test.YtaimaagpfppggaaPFnExactUnwrapsx1
namespace Go.Proofs.Ytaimaagpfppggaa.PFnExactUnwraps
open Go.RowKit Go.Proofs.YtaimaagpfppggaaW.PrintWords Go.Proofs.YtaimaagpfppggaaW.PrintLast Go.Proofs.YtaimaagpfppggaaW.PrintMore
attribute [local go_sem] max2_int min2_int max_two min_two max_three min_three max_four min_four   -- for this text's walks alone
set_option linter.unusedVariables false
set_option linter.unusedSimpArgs false

/-! ### laws_szRuleS: function 14 -/
def laws_szRuleS.l0 : Nat → List (S58) → Int → Int → Option (Int)
  | 0, _, _, _ => none
  | k + 1, x0, x1, x5 => if x5 < (x0.length : Int) then (if 0 ≤ x5 then ((laws_szRule.f k ((rd_T58 x0 x5).f0) ((rd_T58 x0 x5).f1) ((rd_T58 x0 x5).f2) x1).bind fun t105 => (if t105 < 0 then (some (-1)) else (laws_szRuleS.l0 k x0 t105 (wrap64 (x5 + 1))))) else (none)) else (some x1)
def laws_szRuleS.f (k : Nat) (l0 : List (S58)) (a1 : Int) : Option (Int) := if (wrap64 (a1 - (l0.length : Int))) < 0 then (some (-1)) else (laws_szRuleS.l0 k l0 (wrap64 (a1 - (l0.length : Int))) 0)
theorem laws_szRuleS.mono_l : ∀ k, (∀ y0 y1 y2, LeO (laws_szRuleS.l0 k y0 y1 y2) (laws_szRuleS.l0 (k + 1) y0 y1 y2))
  | 0 => fun _ _ _ r h => by simp [laws_szRuleS.l0] at h
  | k + 1 => by
    have ih0 := laws_szRuleS.mono_l k
    · intro y0 y1 y2
      unfold laws_szRuleS.l0
      repeat' first
      | (with_reducible exact ih0 _ _ _)
      | (with_reducible exact laws_szRule.mono _ _ _ _ _)
      | (with_reducible exact LeO.refl _)
      | (with_reducible exact LeO.none _)
      | (with_reducible refine LeO.ite ?_ ?_)
      | (with_reducible refine LeO.bind ?_ (fun _ => ?_))
      | exact ih0 _ _ _
      | exact laws_szRule.mono _ _ _ _ _
      | exact LeO.none _
      | refine LeO.ite ?_ ?_
      | refine LeO.bind ?_ (fun _ => ?_)
theorem laws_szRuleS.mono : ∀ a0 a1 k, LeO (laws_szRuleS.f k a0 a1) (laws_szRuleS.f (k + 1) a0 a1) := by
  intro a0 a1 k
  have ih0 := laws_szRuleS.mono_l k
  unfold laws_szRuleS.f
  repeat' first
      | (with_reducible exact ih0 _ _ _)
      | (with_reducible exact laws_szRule.mono _ _ _ _ _)
      | (with_reducible exact LeO.refl _)
      | (with_reducible exact LeO.none _)
      | (with_reducible refine LeO.ite ?_ ?_)
      | (with_reducible refine LeO.bind ?_ (fun _ => ?_))
      | exact ih0 _ _ _
      | exact laws_szRule.mono _ _ _ _ _
      | exact LeO.none _
      | refine LeO.ite ?_ ?_
      | refine LeO.bind ?_ (fun _ => ?_)
set_option maxHeartbeats 8000000 in
set_option maxRecDepth 100000 in
theorem laws_szRuleS.calls (k : Nat) (A0 : Option Addr) (c0 : Nat) (l0 : List (S58)) (a1 : Int) (r : Int) (w : World) (hr0 : Kd.C k58 w A0 l0.length l0) (hc0 : l0.length ≤ c0) (h : laws_szRuleS.f k l0 a1 = some r) :
    Calls Try.prog 14 #[.slice A0 l0.length c0, .int .i64 a1] w fun e w' => e = .returned (.int .i64 r) ∧ Below w.heap.size w w' := by
  have hu58 := Try.underlying58
  have HR0 := Aside0.mk hr0
  have HC0 := Aside0.mk hc0
  clear hr0 hc0
  have HB := Aside0.mk (Below.refl w.heap.size w)
  have H : (if (wrap64 (a1 - (l0.length : Int))) < 0 then (some (-1)) else (laws_szRuleS.l0 k l0 (wrap64 (a1 - (l0.length : Int))) 0)) = some r := h
  clear h
  by_cases c3 : (wrap64 (a1 - (l0.length : Int))) < 0
  · rw [if_pos c3] at H
    have c3b0 : decide ((wrap64 (a1 - (l0.length : Int))) < 0) = true := decide_eq_true c3
    clear c3
    obtain rfl := Option.some.inj H
    go_enter Try.func14, Try.ntmps14
    go_wp2
    go_ret
    exact ⟨by first | rfl | (simp [errW_none, errW_some] <;> rfl) | (simp [*, errW_none, errW_some] <;> rfl), by repeat (first | (with_reducible first | exact HB.out | apply below_alloc | apply pw_below_drewN | apply below_drew1) | exact HB.out)⟩
  · rw [if_neg c3] at H
    have c3b0 : decide ((wrap64 (a1 - (l0.length : Int))) < 0) = false := decide_eq_false c3
    clear c3
    have H' := Aside0.mk H
    clear H
    go_enter Try.func14, Try.ntmps14
    go_wp2
    go_loopg [1, 5] k (fun kq v1 v5 w' => ∃ (x1_1 : Int) (x5_1 : Int), v1 = .int .i64 x1_1 ∧ v5 = .int .i64 x5_1 ∧ Aside0 (laws_szRuleS.l0 kq l0 x1_1 x5_1 = some r) ∧ Aside0 (kq ≤ k) ∧ Aside0 (Below w.heap.size w w'))
    case atStart => exact ⟨(wrap64 (a1 - (l0.length : Int))), (0), (by first | rfl | (simp; done) | (simp [*]; done)), (by first | rfl | (simp; done) | (simp [*]; done)), H', ⟨Nat.le_refl _⟩, ⟨by repeat (first | (with_reducible first | exact HB.out | apply below_alloc | apply pw_below_drewN | apply below_drew1) | exact HB.out)⟩⟩
    case round =>
      clear H'
      try clear c1
      try clear p2
      try clear c3
      try clear c3b0
      obtain ⟨x1_1, x5_1, rfl, rfl, HA, HK1, HB⟩ := hrel
      cases gk with
      | zero => exact absurd HA.out (by simp [laws_szRuleS.l0])
      | succ k1 =>
        have H := HA.out
        clear HA
        simp only [laws_szRuleS.l0] at H
        by_cases c4 : x5_1 < (l0.length : Int)
        · rw [if_pos c4] at H
          have c4b0 : decide (x5_1 < (l0.length : Int)) = true := decide_eq_true c4
          clear c4
          by_cases c5 : 0 ≤ x5_1
          · rw [if_pos c5] at H
            have c5b0 : decide (0 ≤ x5_1) = true := decide_eq_true c5
            clear c5
            replace H := Option.bind_eq_some_iff.mp H
            obtain ⟨t105, A60, H⟩ := H
            replace H : (if t105 < 0 then (some (-1)) else (laws_szRuleS.l0 k1 l0 t105 (wrap64 (x5_1 + 1)))) = some r := H
            have A6 := Aside0.mk A60
            clear A60
            by_cases c7 : t105 < 0
            · rw [if_pos c7] at H
              have c7b0 : decide (t105 < 0) = true := decide_eq_true c7
              clear c7
              obtain rfl := Option.some.inj H
              have p104 : 0 ≤ (x5_1 : Int) := of_decide_eq_true (by first | (with_reducible assumption) | assumption)
              have q104 : x5_1 < (l0.length : Int) := of_decide_eq_true (by first | (with_reducible assumption) | assumption)
              obtain ⟨ad104, A104_2, c104_2, e104, hx104_0, hx104_1, hx104_2, hl104_2, hi104_2⟩ := at_T58 HR0.out x5_1 p104 q104
              cases e104
              replace hx104_0 := (HB.out.cell (World.block_lt_of_cell? w _ hx104_0)).trans hx104_0
              replace hx104_1 := (HB.out.cell (World.block_lt_of_cell? w _ hx104_1)).trans hx104_1
              replace hx104_2 := (HB.out.cell (World.block_lt_of_cell? w _ hx104_2)).trans hx104_2
              have HR104_2 := Aside0.mk hi104_2
              have HC104_2 := Aside0.mk hl104_2
              clear hi104_2 hl104_2
              replace p104 := eq_true p104
              replace q104 := eq_true q104
              go_wp2_with (first | ((with_reducible refine gate_callee (f := 28) rfl ?_); refine goesL_ (some 23) rfl rfl Try.func28 (by kernel_rfl) rfl #[.agg #[.int .i64 ((rd_T58 l0 x5_1).f0), .string ((rd_T58 l0 x5_1).f1), .slice A104_2 ((rd_T58 l0 x5_1).f2).length c104_2], .int .i64 x1_1] rfl (by (try simp only [List.map_toArray, List.map_cons, List.map_nil]); first | done | rfl | (simp only [List.length_drop, List.length_take]; rfl)) ?_; (with_reducible refine (laws_szRule.calls k1 ((rd_T58 l0 x5_1).f0) ((rd_T58 l0 x5_1).f1) _ _ ((rd_T58 l0 x5_1).f2) x1_1 t105 _ ?side1 ?side2 A6.out).mono ?_); (case side1 => repeat (first | exact (Kd.C_below HR104_2.out HB.out) | (with_reducible refine Kd.C_alloc ?_ _) | (with_reducible refine Kd.C_drewN ?_ _) | (with_reducible refine Kd.C_drew ?_))); (case side2 => exact HC104_2.out); rintro e w8 ⟨rfl, hb⟩; refine ⟨_, rfl, ?_⟩; have n0_ := Aside0.mk (below_step (by repeat (first | (with_reducible first | exact HB.out | apply below_alloc | apply pw_below_drewN | apply below_drew1) | exact HB.out)) hb); clear HB; have HB := n0_; clear n0_; (try clear hb); (try clear hb2); (try clear hk); (try clear hi)))
              go_ret
              exact ⟨by first | rfl | (simp [errW_none, errW_some] <;> rfl) | (simp [*, errW_none, errW_some] <;> rfl), by repeat (first | (with_reducible first | exact HB.out | apply below_alloc | apply pw_below_drewN | apply below_drew1) | exact HB.out)⟩
            · rw [if_neg c7] at H
              have c7b0 : decide (t105 < 0) = false := decide_eq_false c7
              clear c7
              have H' := Aside0.mk H
              clear H
              have p104 : 0 ≤ (x5_1 : Int) := of_decide_eq_true (by first | (with_reducible assumption) | assumption)
              have q104 : x5_1 < (l0.length : Int) := of_decide_eq_true (by first | (with_reducible assumption) | assumption)
              obtain ⟨ad104, A104_2, c104_2, e104, hx104_0, hx104_1, hx104_2, hl104_2, hi104_2⟩ := at_T58 HR0.out x5_1 p104 q104
              cases e104
              replace hx104_0 := (HB.out.cell (World.block_lt_of_cell? w _ hx104_0)).trans hx104_0
              replace hx104_1 := (HB.out.cell (World.block_lt_of_cell? w _ hx104_1)).trans hx104_1
              replace hx104_2 := (HB.out.cell (World.block_lt_of_cell? w _ hx104_2)).trans hx104_2
              have HR104_2 := Aside0.mk hi104_2
              have HC104_2 := Aside0.mk hl104_2
              clear hi104_2 hl104_2
              replace p104 := eq_true p104
              replace q104 := eq_true q104
              go_wp2_with (first | ((with_reducible refine gate_callee (f := 28) rfl ?_); refine goesL_ (some 23) rfl rfl Try.func28 (by kernel_rfl) rfl #[.agg #[.int .i64 ((rd_T58 l0 x5_1).f0), .string ((rd_T58 l0 x5_1).f1), .slice A104_2 ((rd_T58 l0 x5_1).f2).length c104_2], .int .i64 x1_1] rfl (by (try simp only [List.map_toArray, List.map_cons, List.map_nil]); first | done | rfl | (simp only [List.length_drop, List.length_take]; rfl)) ?_; (with_reducible refine (laws_szRule.calls k1 ((rd_T58 l0 x5_1).f0) ((rd_T58 l0 x5_1).f1) _ _ ((rd_T58 l0 x5_1).f2) x1_1 t105 _ ?side1 ?side2 A6.out).mono ?_); (case side1 => repeat (first | exact (Kd.C_below HR104_2.out HB.out) | (with_reducible refine Kd.C_alloc ?_ _) | (with_reducible refine Kd.C_drewN ?_ _) | (with_reducible refine Kd.C_drew ?_))); (case side2 => exact HC104_2.out); rintro e w9 ⟨rfl, hb⟩; refine ⟨_, rfl, ?_⟩; have n0_ := Aside0.mk (below_step (by repeat (first | (with_reducible first | exact HB.out | apply below_alloc | apply pw_below_drewN | apply below_drew1) | exact HB.out)) hb); clear HB; have HB := n0_; clear n0_; (try clear hb); (try clear hb2); (try clear hk); (try clear hi)))
              go_roundg k1
              case measure => have := HK1.out; omega
              case rel => exact ⟨(t105), (wrap64 (x5_1 + 1)), (by first | rfl | (simp; done) | (simp [*]; done)), (by first | rfl | (simp; done) | (simp [*]; done)), H', ⟨by have := HK1.out; omega⟩, ⟨by repeat (first | (with_reducible first | exact HB.out | apply below_alloc | apply pw_below_drewN | apply below_drew1) | exact HB.out)⟩⟩
          · rw [if_neg c5] at H
            exact absurd H (by simp)
        · rw [if_neg c4] at H
          have c4b0 : decide (x5_1 < (l0.length : Int)) = false := decide_eq_false c4
          clear c4
          obtain rfl := Option.some.inj H
          go_wp2
          go_ret
          exact ⟨by first | rfl | (simp [errW_none, errW_some] <;> rfl) | (simp [*, errW_none, errW_some] <;> rfl), by repeat (first | (with_reducible first | exact HB.out | apply below_alloc | apply pw_below_drewN | apply below_drew1) | exact HB.out)⟩

/-! ### laws_szConfig: function 5, by hand -/
def laws_szConfig.f (k : Nat) (_a0_0 _a0_1 : Bool) (l0_2 l0_3 l0_4 : List S58) (l0_5 l0_6 : List ByteArray) (_a0_7 _a0_8 : Bool) (a1 : Int) : Option Int :=
  (laws_szRuleS.f k l0_2 a1).bind fun t2 => if t2 < 0 then some (-1) else (laws_szRuleS.f k l0_3 t2).bind fun t3 => if t3 < 0 then some (-1) else (laws_szRuleS.f k l0_4 t3).bind fun t4 => if t4 < 0 then some (-1) else (laws_szStringS.f k l0_5 t4).bind fun t5 => if t5 < 0 then some (-1) else (laws_szStringS.f k l0_6 t5).bind fun t6 => if t6 < 0 then some (-1) else some t6
theorem laws_szConfig.mono : ∀ a0 a1 a2 a3 a4 a5 a6 a7 a8 a9 k, LeO (laws_szConfig.f k a0 a1 a2 a3 a4 a5 a6 a7 a8 a9) (laws_szConfig.f (k + 1) a0 a1 a2 a3 a4 a5 a6 a7 a8 a9) := by
  intro a0 a1 a2 a3 a4 a5 a6 a7 a8 a9 k
  unfold laws_szConfig.f
  repeat' first
      | (with_reducible exact laws_szRuleS.mono _ _ _)
      | (with_reducible exact laws_szStringS.mono _ _ _)
      | (with_reducible exact LeO.refl _)
      | (with_reducible refine LeO.ite ?_ ?_)
      | (with_reducible refine LeO.bind ?_ (fun _ => ?_))
      | exact laws_szRuleS.mono _ _ _
      | exact laws_szStringS.mono _ _ _
      | refine LeO.ite ?_ ?_
      | refine LeO.bind ?_ (fun _ => ?_)
theorem szNew {w V : World} {c : Array Value} {t : TypeId} (h : Below (w.alloc (.cells c t)).heap.size (w.alloc (.cells c t)) V) : (∀ i v, c[i]? = some v → V.cell? ⟨w.heap.size, i, none⟩ = some v) ∧ Below w.heap.size w V := by
  have hb := below_alloc (Below.refl w.heap.size w) (.cells c t)
  exact ⟨fun i v hv => pw_cell_below h (by have h1 : c[i]? = some v := hv; simp [h1]), hb.trans (h.mono hb.size)⟩
set_option maxHeartbeats 8000000 in
set_option maxRecDepth 100000 in
theorem laws_szConfig.calls (k : Nat) (a0_0 a0_1 : Bool) (A0_2 : Option Addr) (c0_2 : Nat) (l0_2 : List S58) (A0_3 : Option Addr) (c0_3 : Nat) (l0_3 : List S58) (A0_4 : Option Addr) (c0_4 : Nat) (l0_4 : List S58) (A0_5 : Option Addr) (c0_5 : Nat) (l0_5 : List ByteArray) (A0_6 : Option Addr) (c0_6 : Nat) (l0_6 : List ByteArray) (a0_7 a0_8 : Bool) (a1 : Int) (r : Int) (w : World) (hr0_2 : Kd.C k58 w A0_2 l0_2.length l0_2) (hc0_2 : l0_2.length ≤ c0_2) (hr0_3 : Kd.C k58 w A0_3 l0_3.length l0_3) (hc0_3 : l0_3.length ≤ c0_3) (hr0_4 : Kd.C k58 w A0_4 l0_4.length l0_4) (hc0_4 : l0_4.length ≤ c0_4) (hr0_5 : Kd.C Kd.string w A0_5 l0_5.length l0_5) (hc0_5 : l0_5.length ≤ c0_5) (hr0_6 : Kd.C Kd.string w A0_6 l0_6.length l0_6) (hc0_6 : l0_6.length ≤ c0_6) (h : laws_szConfig.f k a0_0 a0_1 l0_2 l0_3 l0_4 l0_5 l0_6 a0_7 a0_8 a1 = some r) :
    Calls Try.prog 5 #[.agg #[.bool a0_0, .bool a0_1, .slice A0_2 l0_2.length c0_2, .slice A0_3 l0_3.length c0_3, .slice A0_4 l0_4.length c0_4, .slice A0_5 l0_5.length c0_5, .slice A0_6 l0_6.length c0_6, .bool a0_7, .bool a0_8], .int .i64 a1] w fun e w' => e = .returned (.int .i64 r) ∧ Below w.heap.size w w' := by
  unfold laws_szConfig.f at h
  have HB1 := Aside0.mk (Below.refl (w.alloc (.cells #[.bool a0_0, .bool a0_1, .slice A0_2 l0_2.length c0_2, .slice A0_3 l0_3.length c0_3, .slice A0_4 l0_4.length c0_4, .slice A0_5 l0_5.length c0_5, .slice A0_6 l0_6.length c0_6, .bool a0_7, .bool a0_8] 25)).heap.size (w.alloc (.cells #[.bool a0_0, .bool a0_1, .slice A0_2 l0_2.length c0_2, .slice A0_3 l0_3.length c0_3, .slice A0_4 l0_4.length c0_4, .slice A0_5 l0_5.length c0_5, .slice A0_6 l0_6.length c0_6, .bool a0_7, .bool a0_8] 25)))
  have E := fun V (h : Aside0 (Below (w.alloc (.cells #[.bool a0_0, .bool a0_1, .slice A0_2 l0_2.length c0_2, .slice A0_3 l0_3.length c0_3, .slice A0_4 l0_4.length c0_4, .slice A0_5 l0_5.length c0_5, .slice A0_6 l0_6.length c0_6, .bool a0_7, .bool a0_8] 25)).heap.size (w.alloc (.cells #[.bool a0_0, .bool a0_1, .slice A0_2 l0_2.length c0_2, .slice A0_3 l0_3.length c0_3, .slice A0_4 l0_4.length c0_4, .slice A0_5 l0_5.length c0_5, .slice A0_6 l0_6.length c0_6, .bool a0_7, .bool a0_8] 25)) V)) => szNew h.out
  have E := Aside0.mk E
  have Q2 : Aside0 (∀ a t V, laws_szRuleS.f k l0_2 a = some t → Below w.heap.size w V → Calls Try.prog 14 #[.slice A0_2 l0_2.length c0_2, .int .i64 a] V fun e w' => e = .returned (.int .i64 t) ∧ Below V.heap.size V w') := ⟨fun a t V e hV => (laws_szRuleS.calls k A0_2 c0_2 l0_2 a t V (Kd.C_below hr0_2 hV) hc0_2 e).mono fun e w' ⟨he, hd⟩ => ⟨he, hd⟩⟩
  have Q3 : Aside0 (∀ a t V, laws_szRuleS.f k l0_3 a = some t → Below w.heap.size w V → Calls Try.prog 14 #[.slice A0_3 l0_3.length c0_3, .int .i64 a] V fun e w' => e = .returned (.int .i64 t) ∧ Below V.heap.size V w') := ⟨fun a t V e hV => (laws_szRuleS.calls k A0_3 c0_3 l0_3 a t V (Kd.C_below hr0_3 hV) hc0_3 e).mono fun e w' ⟨he, hd⟩ => ⟨he, hd⟩⟩
  have Q4 : Aside0 (∀ a t V, laws_szRuleS.f k l0_4 a = some t → Below w.heap.size w V → Calls Try.prog 14 #[.slice A0_4 l0_4.length c0_4, .int .i64 a] V fun e w' => e = .returned (.int .i64 t) ∧ Below V.heap.size V w') := ⟨fun a t V e hV => (laws_szRuleS.calls k A0_4 c0_4 l0_4 a t V (Kd.C_below hr0_4 hV) hc0_4 e).mono fun e w' ⟨he, hd⟩ => ⟨he, hd⟩⟩
  have Q5 : Aside0 (∀ a t V, laws_szStringS.f k l0_5 a = some t → Below w.heap.size w V → Calls Try.prog 15 #[.slice A0_5 l0_5.length c0_5, .int .i64 a] V fun e w' => e = .returned (.int .i64 t) ∧ Below V.heap.size V w') := ⟨fun a t V e hV => (laws_szStringS.calls k A0_5 c0_5 l0_5 a t V (Kd.C_below hr0_5 hV) hc0_5 e).mono fun e w' ⟨he, hd⟩ => ⟨he, hd.below⟩⟩
  have Q6 : Aside0 (∀ a t V, laws_szStringS.f k l0_6 a = some t → Below w.heap.size w V → Calls Try.prog 15 #[.slice A0_6 l0_6.length c0_6, .int .i64 a] V fun e w' => e = .returned (.int .i64 t) ∧ Below V.heap.size V w') := ⟨fun a t V e hV => (laws_szStringS.calls k A0_6 c0_6 l0_6 a t V (Kd.C_below hr0_6 hV) hc0_6 e).mono fun e w' ⟨he, hd⟩ => ⟨he, hd.below⟩⟩
  clear hr0_2 hc0_2 hr0_3 hc0_3 hr0_4 hc0_4 hr0_5 hc0_5 hr0_6 hc0_6
  generalize l0_2.length = n2 at *
  generalize l0_3.length = n3 at *
  generalize l0_4.length = n4 at *
  generalize l0_5.length = n5 at *
  generalize l0_6.length = n6 at *
  have h9 := Option.bind_eq_some_iff.mp h
  clear h
  obtain ⟨t2, e2, h⟩ := h9
  by_cases b2 : t2 < 0
  case pos =>
   rw [if_pos b2] at h
   have z2 : decide (t2 < 0) = true := decide_eq_true b2
   clear b2
   obtain rfl := Option.some.inj h
   clear h
   go_enter Try.func5, Try.ntmps5
   go_wp2_with (first | (go_at_call 14; (with_reducible refine (Q2.out _ _ _ e2 (E.out _ HB1).2).mono ?_); rintro e w2 ⟨rfl, hb⟩; have HB2 := Aside0.mk (HB1.out.trans (hb.mono HB1.out.size)); have x2 := (E.out _ HB2).1 3 (.slice A0_3 n3 c0_3) rfl; clear hb))
   go_ret
   exact ⟨rfl, (E.out _ HB2).2⟩
  rw [if_neg b2] at h
  have z2 : decide (t2 < 0) = false := decide_eq_false b2
  clear b2
  have h9 := Option.bind_eq_some_iff.mp h
  clear h
  obtain ⟨t3, e3, h⟩ := h9
  by_cases b3 : t3 < 0
  case pos =>
   rw [if_pos b3] at h
   have z3 : decide (t3 < 0) = true := decide_eq_true b3
   clear b3
   obtain rfl := Option.some.inj h
   clear h
   go_enter Try.func5, Try.ntmps5
   go_wp2_with (first | (go_at_call 14; (with_reducible refine (Q2.out _ _ _ e2 (E.out _ HB1).2).mono ?_); rintro e w2 ⟨rfl, hb⟩; have HB2 := Aside0.mk (HB1.out.trans (hb.mono HB1.out.size)); have x2 := (E.out _ HB2).1 3 (.slice A0_3 n3 c0_3) rfl; clear hb) | (go_at_call 14; (with_reducible refine (Q3.out _ _ _ e3 (E.out _ HB2).2).mono ?_); rintro e w3 ⟨rfl, hb⟩; have HB3 := Aside0.mk (HB2.out.trans (hb.mono HB2.out.size)); have x3 := (E.out _ HB3).1 4 (.slice A0_4 n4 c0_4) rfl; clear hb))
   go_ret
   exact ⟨rfl, (E.out _ HB3).2⟩
  rw [if_neg b3] at h
  have z3 : decide (t3 < 0) = false := decide_eq_false b3
  clear b3
  have h9 := Option.bind_eq_some_iff.mp h
  clear h
  obtain ⟨t4, e4, h⟩ := h9
  by_cases b4 : t4 < 0
  case pos =>
   rw [if_pos b4] at h
   have z4 : decide (t4 < 0) = true := decide_eq_true b4
   clear b4
   obtain rfl := Option.some.inj h
   clear h
   go_enter Try.func5, Try.ntmps5
   go_wp2_with (first | (go_at_call 14; (with_reducible refine (Q2.out _ _ _ e2 (E.out _ HB1).2).mono ?_); rintro e w2 ⟨rfl, hb⟩; have HB2 := Aside0.mk (HB1.out.trans (hb.mono HB1.out.size)); have x2 := (E.out _ HB2).1 3 (.slice A0_3 n3 c0_3) rfl; clear hb) | (go_at_call 14; (with_reducible refine (Q3.out _ _ _ e3 (E.out _ HB2).2).mono ?_); rintro e w3 ⟨rfl, hb⟩; have HB3 := Aside0.mk (HB2.out.trans (hb.mono HB2.out.size)); have x3 := (E.out _ HB3).1 4 (.slice A0_4 n4 c0_4) rfl; clear hb) | (go_at_call 14; (with_reducible refine (Q4.out _ _ _ e4 (E.out _ HB3).2).mono ?_); rintro e w4 ⟨rfl, hb⟩; have HB4 := Aside0.mk (HB3.out.trans (hb.mono HB3.out.size)); have x4 := (E.out _ HB4).1 5 (.slice A0_5 n5 c0_5) rfl; clear hb))
   go_ret
   exact ⟨rfl, (E.out _ HB4).2⟩
  rw [if_neg b4] at h
  have z4 : decide (t4 < 0) = false := decide_eq_false b4
  clear b4
  have h9 := Option.bind_eq_some_iff.mp h
  clear h
  obtain ⟨t5, e5, h⟩ := h9
  by_cases b5 : t5 < 0
  case pos =>
   rw [if_pos b5] at h
   have z5 : decide (t5 < 0) = true := decide_eq_true b5
   clear b5
   obtain rfl := Option.some.inj h
   clear h
   go_enter Try.func5, Try.ntmps5
   go_wp2_with (first | (go_at_call 14; (with_reducible refine (Q2.out _ _ _ e2 (E.out _ HB1).2).mono ?_); rintro e w2 ⟨rfl, hb⟩; have HB2 := Aside0.mk (HB1.out.trans (hb.mono HB1.out.size)); have x2 := (E.out _ HB2).1 3 (.slice A0_3 n3 c0_3) rfl; clear hb) | (go_at_call 14; (with_reducible refine (Q3.out _ _ _ e3 (E.out _ HB2).2).mono ?_); rintro e w3 ⟨rfl, hb⟩; have HB3 := Aside0.mk (HB2.out.trans (hb.mono HB2.out.size)); have x3 := (E.out _ HB3).1 4 (.slice A0_4 n4 c0_4) rfl; clear hb) | (go_at_call 14; (with_reducible refine (Q4.out _ _ _ e4 (E.out _ HB3).2).mono ?_); rintro e w4 ⟨rfl, hb⟩; have HB4 := Aside0.mk (HB3.out.trans (hb.mono HB3.out.size)); have x4 := (E.out _ HB4).1 5 (.slice A0_5 n5 c0_5) rfl; clear hb) | (go_at_call 15; (with_reducible refine (Q5.out _ _ _ e5 (E.out _ HB4).2).mono ?_); rintro e w5 ⟨rfl, hb⟩; have HB5 := Aside0.mk (HB4.out.trans (hb.mono HB4.out.size)); have x5 := (E.out _ HB5).1 6 (.slice A0_6 n6 c0_6) rfl; clear hb))
   go_ret
   exact ⟨rfl, (E.out _ HB5).2⟩
  rw [if_neg b5] at h
  have z5 : decide (t5 < 0) = false := decide_eq_false b5
  clear b5
  have h9 := Option.bind_eq_some_iff.mp h
  clear h
  obtain ⟨t6, e6, h⟩ := h9
  by_cases b6 : t6 < 0
  case pos =>
   rw [if_pos b6] at h
   have z6 : decide (t6 < 0) = true := decide_eq_true b6
   clear b6
   obtain rfl := Option.some.inj h
   clear h
   go_enter Try.func5, Try.ntmps5
   go_wp2_with (first | (go_at_call 14; (with_reducible refine (Q2.out _ _ _ e2 (E.out _ HB1).2).mono ?_); rintro e w2 ⟨rfl, hb⟩; have HB2 := Aside0.mk (HB1.out.trans (hb.mono HB1.out.size)); have x2 := (E.out _ HB2).1 3 (.slice A0_3 n3 c0_3) rfl; clear hb) | (go_at_call 14; (with_reducible refine (Q3.out _ _ _ e3 (E.out _ HB2).2).mono ?_); rintro e w3 ⟨rfl, hb⟩; have HB3 := Aside0.mk (HB2.out.trans (hb.mono HB2.out.size)); have x3 := (E.out _ HB3).1 4 (.slice A0_4 n4 c0_4) rfl; clear hb) | (go_at_call 14; (with_reducible refine (Q4.out _ _ _ e4 (E.out _ HB3).2).mono ?_); rintro e w4 ⟨rfl, hb⟩; have HB4 := Aside0.mk (HB3.out.trans (hb.mono HB3.out.size)); have x4 := (E.out _ HB4).1 5 (.slice A0_5 n5 c0_5) rfl; clear hb) | (go_at_call 15; (with_reducible refine (Q5.out _ _ _ e5 (E.out _ HB4).2).mono ?_); rintro e w5 ⟨rfl, hb⟩; have HB5 := Aside0.mk (HB4.out.trans (hb.mono HB4.out.size)); have x5 := (E.out _ HB5).1 6 (.slice A0_6 n6 c0_6) rfl; clear hb) | (go_at_call 15; (with_reducible refine (Q6.out _ _ _ e6 (E.out _ HB5).2).mono ?_); rintro e w6 ⟨rfl, hb⟩; have HB6 := Aside0.mk (HB5.out.trans (hb.mono HB5.out.size)); clear hb))
   go_ret
   exact ⟨rfl, (E.out _ HB6).2⟩
  rw [if_neg b6] at h
  have z6 : decide (t6 < 0) = false := decide_eq_false b6
  clear b6
  obtain rfl := Option.some.inj h
  clear h
  go_enter Try.func5, Try.ntmps5
  go_wp2_with (first | (go_at_call 14; (with_reducible refine (Q2.out _ _ _ e2 (E.out _ HB1).2).mono ?_); rintro e w2 ⟨rfl, hb⟩; have HB2 := Aside0.mk (HB1.out.trans (hb.mono HB1.out.size)); have x2 := (E.out _ HB2).1 3 (.slice A0_3 n3 c0_3) rfl; clear hb) | (go_at_call 14; (with_reducible refine (Q3.out _ _ _ e3 (E.out _ HB2).2).mono ?_); rintro e w3 ⟨rfl, hb⟩; have HB3 := Aside0.mk (HB2.out.trans (hb.mono HB2.out.size)); have x3 := (E.out _ HB3).1 4 (.slice A0_4 n4 c0_4) rfl; clear hb) | (go_at_call 14; (with_reducible refine (Q4.out _ _ _ e4 (E.out _ HB3).2).mono ?_); rintro e w4 ⟨rfl, hb⟩; have HB4 := Aside0.mk (HB3.out.trans (hb.mono HB3.out.size)); have x4 := (E.out _ HB4).1 5 (.slice A0_5 n5 c0_5) rfl; clear hb) | (go_at_call 15; (with_reducible refine (Q5.out _ _ _ e5 (E.out _ HB4).2).mono ?_); rintro e w5 ⟨rfl, hb⟩; have HB5 := Aside0.mk (HB4.out.trans (hb.mono HB4.out.size)); have x5 := (E.out _ HB5).1 6 (.slice A0_6 n6 c0_6) rfl; clear hb) | (go_at_call 15; (with_reducible refine (Q6.out _ _ _ e6 (E.out _ HB5).2).mono ?_); rintro e w6 ⟨rfl, hb⟩; have HB6 := Aside0.mk (HB5.out.trans (hb.mono HB5.out.size)); clear hb))
  go_ret
  exact ⟨rfl, (E.out _ HB6).2⟩


end Go.Proofs.Ytaimaagpfppggaa.PFnExactUnwraps
