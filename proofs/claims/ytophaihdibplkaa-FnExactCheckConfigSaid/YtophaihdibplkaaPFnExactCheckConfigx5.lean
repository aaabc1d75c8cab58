/- By a program of this session, out of the kit's print and contracts made by hand: the machine side of a law; Lean checks it. No conditions. -/
import Derived.Test.YtophaihdibplkaaPFnExactCheckConfigx0
import Derived.Test.YtophaihdibplkaaPFnExactCheckConfigx1
import Derived.Test.YtophaihdibplkaaPFnExactCheckConfigx2
import Derived.Test.YtophaihdibplkaaPFnExactCheckConfigx3
import Derived.Test.YtophaihdibplkaaPFnExactCheckConfigx4
namespace Go.Proofs.Ytophaihdibplkaa.PFnExactCheckConfig
open Go.RowKit Go.Proofs.YtophaihdibplkaaW.PrintWords Go.Proofs.YtophaihdibplkaaW.PrintLast Go.Proofs.YtophaihdibplkaaW.PrintMore
attribute [local go_sem] max2_int min2_int max_two min_two max_three min_three max_four min_four   -- for this text's walks alone
set_option linter.unusedVariables false
set_option linter.unusedSimpArgs false

/-! ### spec_l07Check: function 126, by hand -/
-- also 132
theorem quietD3 {P : Program} {f : FuncId} {args : Array Value} {W : World} {m : Nat} {v : Value} (h : Calls P f args (W.drewN m) fun e w' => e = .returned v ∧ Drawn0 (W.drewN m) w') : Calls P f args (W.drewN m) fun e w' => e = .returned v ∧ ∃ n, w' = W.drewN n :=
  h.mono fun _ _ ⟨he, ⟨⟨n, hn⟩⟩⟩ => ⟨he, m + n, by rw [hn, World.drewN_drewN]⟩
/-- What stands behind the rules' own faults. -/
def unwrapB (allow remove : List S155) (x : S155) : Bool := isIn allow x || isIn remove x
def attrsB (h1 : Bool) (attrs : List ByteArray) (x : S155) : Bool := x.f2.any fun n => !h1 || Kit.hasT attrs n
def restI (h0 h1 : Bool) (allow remove unwrap : List S155) (attrs drop : List ByteArray) (data : Bool) : Int :=
  if contraB h0 h1 allow remove attrs drop data = true then 13 else if unwrap.any (unwrapB allow remove) = true then 13 else if allow.any (attrsB h1 attrs) = true then 13 else 0
def spec_l07Check.f (k : Nat) (a0_0 a0_1 : Bool) (l0_2 l0_3 l0_4 : List S155) (l0_5 l0_6 : List ByteArray) (_a0_7 a0_8 : Bool) : Option Int :=
  (spec_l07Rules.f k l0_2 true).bind fun b1 => if b1 = true then (spec_l07Rules.f k l0_3 false).bind fun b2 => if b2 = true then (spec_l07Rules.f k l0_4 false).bind fun b3 => if b3 = true then (spec_l07Names.f l0_5).bind fun b4 => if b4 = true then (spec_l07Names.f l0_6).bind fun b5 => if b5 = true then some (restI a0_0 a0_1 l0_2 l0_3 l0_4 l0_5 l0_6 a0_8) else some 1 else some 1 else some 1 else some 1 else some 1
theorem spec_l07Check.mono : ∀ a0 a1 a2 a3 a4 a5 a6 a7 a8 k, LeO (spec_l07Check.f k a0 a1 a2 a3 a4 a5 a6 a7 a8) (spec_l07Check.f (k + 1) a0 a1 a2 a3 a4 a5 a6 a7 a8) := by
  intro a0 a1 a2 a3 a4 a5 a6 a7 a8 k
  unfold spec_l07Check.f
  repeat' first
      | (with_reducible exact spec_l07Rules.mono _ _ _)
      | (with_reducible exact LeO.refl _)
      | (with_reducible refine LeO.ite ?_ ?_)
      | (with_reducible refine LeO.bind ?_ (fun _ => ?_))
      | exact spec_l07Rules.mono _ _ _
      | refine LeO.ite ?_ ?_
      | refine LeO.bind ?_ (fun _ => ?_)
set_option maxHeartbeats 8000000 in
set_option maxRecDepth 100000 in
theorem spec_l07Check.calls (k : Nat) (a0_0 a0_1 : Bool) (A0_2 : Option Addr) (c0_2 : Nat) (l0_2 : List (S155)) (A0_3 : Option Addr) (c0_3 : Nat) (l0_3 : List (S155)) (A0_4 : Option Addr) (c0_4 : Nat) (l0_4 : List (S155)) (A0_5 : Option Addr) (c0_5 : Nat) (l0_5 : List ByteArray) (A0_6 : Option Addr) (c0_6 : Nat) (l0_6 : List ByteArray) (a0_7 : Bool) (a0_8 : Bool) (r : Int) (w : World) (hr0_2 : Kd.C k155 w A0_2 l0_2.length l0_2) (hc0_2 : l0_2.length ≤ c0_2) (hr0_3 : Kd.C k155 w A0_3 l0_3.length l0_3) (hc0_3 : l0_3.length ≤ c0_3) (hr0_4 : Kd.C k155 w A0_4 l0_4.length l0_4) (hc0_4 : l0_4.length ≤ c0_4) (hr0_5 : Kd.C Kd.string w A0_5 l0_5.length l0_5) (hc0_5 : l0_5.length ≤ c0_5) (hr0_6 : Kd.C Kd.string w A0_6 l0_6.length l0_6) (hc0_6 : l0_6.length ≤ c0_6) (h : spec_l07Check.f k a0_0 a0_1 l0_2 l0_3 l0_4 l0_5 l0_6 a0_7 a0_8 = some r) :
    Calls Try.prog 126 #[.agg #[.bool a0_0, .bool a0_1, .slice A0_2 l0_2.length c0_2, .slice A0_3 l0_3.length c0_3, .slice A0_4 l0_4.length c0_4, .slice A0_5 l0_5.length c0_5, .slice A0_6 l0_6.length c0_6, .bool a0_7, .bool a0_8]] w fun e w' => e = .returned (.int .i64 r) ∧ Below w.heap.size w w' := by
  unfold spec_l07Check.f at h
  have C0 : Aside0 ((w.alloc (.cells #[.bool a0_0, .bool a0_1, .slice A0_2 l0_2.length c0_2, .slice A0_3 l0_3.length c0_3, .slice A0_4 l0_4.length c0_4, .slice A0_5 l0_5.length c0_5, .slice A0_6 l0_6.length c0_6, .bool a0_7, .bool a0_8] 78)).cell? ⟨w.heap.size, 0, none⟩ = some (.bool a0_0)) := ⟨new_cell w _ _ 0 _ rfl⟩
  have C1 : Aside0 ((w.alloc (.cells #[.bool a0_0, .bool a0_1, .slice A0_2 l0_2.length c0_2, .slice A0_3 l0_3.length c0_3, .slice A0_4 l0_4.length c0_4, .slice A0_5 l0_5.length c0_5, .slice A0_6 l0_6.length c0_6, .bool a0_7, .bool a0_8] 78)).cell? ⟨w.heap.size, 1, none⟩ = some (.bool a0_1)) := ⟨new_cell w _ _ 1 _ rfl⟩
  have C2 : Aside0 ((w.alloc (.cells #[.bool a0_0, .bool a0_1, .slice A0_2 l0_2.length c0_2, .slice A0_3 l0_3.length c0_3, .slice A0_4 l0_4.length c0_4, .slice A0_5 l0_5.length c0_5, .slice A0_6 l0_6.length c0_6, .bool a0_7, .bool a0_8] 78)).cell? ⟨w.heap.size, 2, none⟩ = some (.slice A0_2 l0_2.length c0_2)) := ⟨new_cell w _ _ 2 _ rfl⟩
  have C3 : Aside0 ((w.alloc (.cells #[.bool a0_0, .bool a0_1, .slice A0_2 l0_2.length c0_2, .slice A0_3 l0_3.length c0_3, .slice A0_4 l0_4.length c0_4, .slice A0_5 l0_5.length c0_5, .slice A0_6 l0_6.length c0_6, .bool a0_7, .bool a0_8] 78)).cell? ⟨w.heap.size, 3, none⟩ = some (.slice A0_3 l0_3.length c0_3)) := ⟨new_cell w _ _ 3 _ rfl⟩
  have C4 : Aside0 ((w.alloc (.cells #[.bool a0_0, .bool a0_1, .slice A0_2 l0_2.length c0_2, .slice A0_3 l0_3.length c0_3, .slice A0_4 l0_4.length c0_4, .slice A0_5 l0_5.length c0_5, .slice A0_6 l0_6.length c0_6, .bool a0_7, .bool a0_8] 78)).cell? ⟨w.heap.size, 4, none⟩ = some (.slice A0_4 l0_4.length c0_4)) := ⟨new_cell w _ _ 4 _ rfl⟩
  have C5 : Aside0 ((w.alloc (.cells #[.bool a0_0, .bool a0_1, .slice A0_2 l0_2.length c0_2, .slice A0_3 l0_3.length c0_3, .slice A0_4 l0_4.length c0_4, .slice A0_5 l0_5.length c0_5, .slice A0_6 l0_6.length c0_6, .bool a0_7, .bool a0_8] 78)).cell? ⟨w.heap.size, 5, none⟩ = some (.slice A0_5 l0_5.length c0_5)) := ⟨new_cell w _ _ 5 _ rfl⟩
  have C6 : Aside0 ((w.alloc (.cells #[.bool a0_0, .bool a0_1, .slice A0_2 l0_2.length c0_2, .slice A0_3 l0_3.length c0_3, .slice A0_4 l0_4.length c0_4, .slice A0_5 l0_5.length c0_5, .slice A0_6 l0_6.length c0_6, .bool a0_7, .bool a0_8] 78)).cell? ⟨w.heap.size, 6, none⟩ = some (.slice A0_6 l0_6.length c0_6)) := ⟨new_cell w _ _ 6 _ rfl⟩
  have C8 : Aside0 ((w.alloc (.cells #[.bool a0_0, .bool a0_1, .slice A0_2 l0_2.length c0_2, .slice A0_3 l0_3.length c0_3, .slice A0_4 l0_4.length c0_4, .slice A0_5 l0_5.length c0_5, .slice A0_6 l0_6.length c0_6, .bool a0_7, .bool a0_8] 78)).cell? ⟨w.heap.size, 8, none⟩ = some (.bool a0_8)) := ⟨new_cell w _ _ 8 _ rfl⟩
  have HB0 := Aside0.mk (Below.refl (w.alloc (.cells #[.bool a0_0, .bool a0_1, .slice A0_2 l0_2.length c0_2, .slice A0_3 l0_3.length c0_3, .slice A0_4 l0_4.length c0_4, .slice A0_5 l0_5.length c0_5, .slice A0_6 l0_6.length c0_6, .bool a0_7, .bool a0_8] 78)).heap.size (w.alloc (.cells #[.bool a0_0, .bool a0_1, .slice A0_2 l0_2.length c0_2, .slice A0_3 l0_3.length c0_3, .slice A0_4 l0_4.length c0_4, .slice A0_5 l0_5.length c0_5, .slice A0_6 l0_6.length c0_6, .bool a0_7, .bool a0_8] 78)))
  have HW : Aside0 (∀ V, Below (w.alloc (.cells #[.bool a0_0, .bool a0_1, .slice A0_2 l0_2.length c0_2, .slice A0_3 l0_3.length c0_3, .slice A0_4 l0_4.length c0_4, .slice A0_5 l0_5.length c0_5, .slice A0_6 l0_6.length c0_6, .bool a0_7, .bool a0_8] 78)).heap.size (w.alloc (.cells #[.bool a0_0, .bool a0_1, .slice A0_2 l0_2.length c0_2, .slice A0_3 l0_3.length c0_3, .slice A0_4 l0_4.length c0_4, .slice A0_5 l0_5.length c0_5, .slice A0_6 l0_6.length c0_6, .bool a0_7, .bool a0_8] 78)) V → Below w.heap.size w V) := ⟨fun V h => (below_alloc (Below.refl w.heap.size w) _).trans (h.mono (below_alloc (Below.refl w.heap.size w) _).size)⟩
  have HR2 : Aside0 (Kd.C k155 w A0_2 l0_2.length l0_2) := ⟨hr0_2⟩
  have HC2 : Aside0 (l0_2.length ≤ c0_2) := ⟨hc0_2⟩
  have HR3 : Aside0 (Kd.C k155 w A0_3 l0_3.length l0_3) := ⟨hr0_3⟩
  have HC3 : Aside0 (l0_3.length ≤ c0_3) := ⟨hc0_3⟩
  have HR4 : Aside0 (Kd.C k155 w A0_4 l0_4.length l0_4) := ⟨hr0_4⟩
  have HC4 : Aside0 (l0_4.length ≤ c0_4) := ⟨hc0_4⟩
  have HR5 : Aside0 (Kd.C Kd.string w A0_5 l0_5.length l0_5) := ⟨hr0_5⟩
  have HC5 : Aside0 (l0_5.length ≤ c0_5) := ⟨hc0_5⟩
  have HR6 : Aside0 (Kd.C Kd.string w A0_6 l0_6.length l0_6) := ⟨hr0_6⟩
  have HC6 : Aside0 (l0_6.length ≤ c0_6) := ⟨hc0_6⟩
  clear hr0_2 hr0_3 hr0_4 hr0_5 hr0_6 hc0_2 hc0_3 hc0_4 hc0_5 hc0_6
  have h9 := Option.bind_eq_some_iff.mp h
  clear h
  obtain ⟨b1, e1, h⟩ := h9
  have Q1 : Aside0 (∀ V, Below w.heap.size w V → Calls Try.prog 168 #[.slice A0_2 l0_2.length c0_2, .bool true] V fun e w' => e = .returned (.bool b1) ∧ Below V.heap.size V w') := ⟨fun V hV => spec_l07Rules.calls k A0_2 c0_2 l0_2 true _ V (Kd.C_below HR2.out hV) HC2.out e1⟩
  clear e1
  cases b1 with
  | false =>
   rw [if_neg (by decide)] at h
   obtain rfl := Option.some.inj h
   clear h
   go_enter Try.func126, Try.ntmps126
   go_wp2_with (first | (go_at_call 168; (with_reducible refine (Q1.out _ (HW.out _ HB0.out)).mono ?_); rintro e w1 ⟨rfl, hb⟩; have HB1 := Aside0.mk (HB0.out.trans (hb.mono HB0.out.size)); have m13 := pw_cell_below HB1.out C3.out; clear hb))
   go_ret
   exact ⟨rfl, HW.out _ HB1.out⟩
  | true =>
   rw [if_pos rfl] at h
   have h9 := Option.bind_eq_some_iff.mp h
   clear h
   obtain ⟨b2, e2, h⟩ := h9
   have Q2 : Aside0 (∀ V, Below w.heap.size w V → Calls Try.prog 168 #[.slice A0_3 l0_3.length c0_3, .bool false] V fun e w' => e = .returned (.bool b2) ∧ Below V.heap.size V w') := ⟨fun V hV => spec_l07Rules.calls k A0_3 c0_3 l0_3 false _ V (Kd.C_below HR3.out hV) HC3.out e2⟩
   clear e2
   cases b2 with
   | false =>
    rw [if_neg (by decide)] at h
    obtain rfl := Option.some.inj h
    clear h
    go_enter Try.func126, Try.ntmps126
    go_wp2_with (first | (go_at_call 168; (with_reducible refine (Q1.out _ (HW.out _ HB0.out)).mono ?_); rintro e w1 ⟨rfl, hb⟩; have HB1 := Aside0.mk (HB0.out.trans (hb.mono HB0.out.size)); have m13 := pw_cell_below HB1.out C3.out; clear hb) | (go_at_call 168; (with_reducible refine (Q2.out _ (HW.out _ HB1.out)).mono ?_); rintro e w2 ⟨rfl, hb⟩; have HB2 := Aside0.mk (HB1.out.trans (hb.mono HB1.out.size)); have m24 := pw_cell_below HB2.out C4.out; clear hb))
    go_ret
    exact ⟨rfl, HW.out _ HB2.out⟩
   | true =>
    rw [if_pos rfl] at h
    have h9 := Option.bind_eq_some_iff.mp h
    clear h
    obtain ⟨b3, e3, h⟩ := h9
    have Q3 : Aside0 (∀ V, Below w.heap.size w V → Calls Try.prog 168 #[.slice A0_4 l0_4.length c0_4, .bool false] V fun e w' => e = .returned (.bool b3) ∧ Below V.heap.size V w') := ⟨fun V hV => spec_l07Rules.calls k A0_4 c0_4 l0_4 false _ V (Kd.C_below HR4.out hV) HC4.out e3⟩
    clear e3
    cases b3 with
    | false =>
     rw [if_neg (by decide)] at h
     obtain rfl := Option.some.inj h
     clear h
     go_enter Try.func126, Try.ntmps126
     go_wp2_with (first | (go_at_call 168; (with_reducible refine (Q1.out _ (HW.out _ HB0.out)).mono ?_); rintro e w1 ⟨rfl, hb⟩; have HB1 := Aside0.mk (HB0.out.trans (hb.mono HB0.out.size)); have m13 := pw_cell_below HB1.out C3.out; clear hb) | (go_at_call 168; (with_reducible refine (Q2.out _ (HW.out _ HB1.out)).mono ?_); rintro e w2 ⟨rfl, hb⟩; have HB2 := Aside0.mk (HB1.out.trans (hb.mono HB1.out.size)); have m24 := pw_cell_below HB2.out C4.out; clear hb) | (go_at_call 168; (with_reducible refine (Q3.out _ (HW.out _ HB2.out)).mono ?_); rintro e w3 ⟨rfl, hb⟩; have HB3 := Aside0.mk (HB2.out.trans (hb.mono HB2.out.size)); have m35 := pw_cell_below HB3.out C5.out; clear hb))
     go_ret
     exact ⟨rfl, HW.out _ HB3.out⟩
    | true =>
     rw [if_pos rfl] at h
     have h9 := Option.bind_eq_some_iff.mp h
     clear h
     obtain ⟨b4, e4, h⟩ := h9
     have Q4 : Aside0 (∀ V, Below w.heap.size w V → Calls Try.prog 169 #[.slice A0_5 l0_5.length c0_5] V fun e w' => e = .returned (.bool b4) ∧ Below V.heap.size V w') := ⟨fun V hV => (spec_l07Names.calls A0_5 c0_5 l0_5 _ V (Kd.C_below HR5.out hV) HC5.out e4).mono fun e w' ⟨he, hd⟩ => ⟨he, hd.below⟩⟩
     clear e4
     cases b4 with
     | false =>
      rw [if_neg (by decide)] at h
      obtain rfl := Option.some.inj h
      clear h
      go_enter Try.func126, Try.ntmps126
      go_wp2_with (first | (go_at_call 168; (with_reducible refine (Q1.out _ (HW.out _ HB0.out)).mono ?_); rintro e w1 ⟨rfl, hb⟩; have HB1 := Aside0.mk (HB0.out.trans (hb.mono HB0.out.size)); have m13 := pw_cell_below HB1.out C3.out; clear hb) | (go_at_call 168; (with_reducible refine (Q2.out _ (HW.out _ HB1.out)).mono ?_); rintro e w2 ⟨rfl, hb⟩; have HB2 := Aside0.mk (HB1.out.trans (hb.mono HB1.out.size)); have m24 := pw_cell_below HB2.out C4.out; clear hb) | (go_at_call 168; (with_reducible refine (Q3.out _ (HW.out _ HB2.out)).mono ?_); rintro e w3 ⟨rfl, hb⟩; have HB3 := Aside0.mk (HB2.out.trans (hb.mono HB2.out.size)); have m35 := pw_cell_below HB3.out C5.out; clear hb) | (go_at_call 169; (with_reducible refine (Q4.out _ (HW.out _ HB3.out)).mono ?_); rintro e w4 ⟨rfl, hb⟩; have HB4 := Aside0.mk (HB3.out.trans (hb.mono HB3.out.size)); have m46 := pw_cell_below HB4.out C6.out; clear hb))
      go_ret
      exact ⟨rfl, HW.out _ HB4.out⟩
     | true =>
      rw [if_pos rfl] at h
      have h9 := Option.bind_eq_some_iff.mp h
      clear h
      obtain ⟨b5, e5, h⟩ := h9
      have Q5 : Aside0 (∀ V, Below w.heap.size w V → Calls Try.prog 169 #[.slice A0_6 l0_6.length c0_6] V fun e w' => e = .returned (.bool b5) ∧ Below V.heap.size V w') := ⟨fun V hV => (spec_l07Names.calls A0_6 c0_6 l0_6 _ V (Kd.C_below HR6.out hV) HC6.out e5).mono fun e w' ⟨he, hd⟩ => ⟨he, hd.below⟩⟩
      clear e5
      cases b5 with
      | false =>
       rw [if_neg (by decide)] at h
       obtain rfl := Option.some.inj h
       clear h
       go_enter Try.func126, Try.ntmps126
       go_wp2_with (first | (go_at_call 168; (with_reducible refine (Q1.out _ (HW.out _ HB0.out)).mono ?_); rintro e w1 ⟨rfl, hb⟩; have HB1 := Aside0.mk (HB0.out.trans (hb.mono HB0.out.size)); have m13 := pw_cell_below HB1.out C3.out; clear hb) | (go_at_call 168; (with_reducible refine (Q2.out _ (HW.out _ HB1.out)).mono ?_); rintro e w2 ⟨rfl, hb⟩; have HB2 := Aside0.mk (HB1.out.trans (hb.mono HB1.out.size)); have m24 := pw_cell_below HB2.out C4.out; clear hb) | (go_at_call 168; (with_reducible refine (Q3.out _ (HW.out _ HB2.out)).mono ?_); rintro e w3 ⟨rfl, hb⟩; have HB3 := Aside0.mk (HB2.out.trans (hb.mono HB2.out.size)); have m35 := pw_cell_below HB3.out C5.out; clear hb) | (go_at_call 169; (with_reducible refine (Q4.out _ (HW.out _ HB3.out)).mono ?_); rintro e w4 ⟨rfl, hb⟩; have HB4 := Aside0.mk (HB3.out.trans (hb.mono HB3.out.size)); have m46 := pw_cell_below HB4.out C6.out; clear hb) | (go_at_call 169; (with_reducible refine (Q5.out _ (HW.out _ HB4.out)).mono ?_); rintro e w5 ⟨rfl, hb⟩; have HB5 := Aside0.mk (HB4.out.trans (hb.mono HB4.out.size)); have m50 := pw_cell_below HB5.out C0.out; have m51 := pw_cell_below HB5.out C1.out; have m52 := pw_cell_below HB5.out C2.out; have m53 := pw_cell_below HB5.out C3.out; have m54 := pw_cell_below HB5.out C4.out; have m55 := pw_cell_below HB5.out C5.out; have m56 := pw_cell_below HB5.out C6.out; have m58 := pw_cell_below HB5.out C8.out; clear hb))
       go_ret
       exact ⟨rfl, HW.out _ HB5.out⟩
      | true =>
       rw [if_pos rfl] at h
       obtain rfl := Option.some.inj h
       clear h
       unfold restI contraB
       by_cases hA : a0_0 = false ∧ 0 < l0_2.length
       case pos =>
        obtain ⟨rfl, z2⟩ := hA
        have d2 : decide (0 < l0_2.length) = true := decide_eq_true (by omega)
        have y2 : decide ((0 : Int) < (l0_2.length : Int)) = true := decide_eq_true (by omega)
        rw [d2]
        clear z2
        go_enter Try.func126, Try.ntmps126
        go_wp2_with (first | (go_at_call 168; (with_reducible refine (Q1.out _ (HW.out _ HB0.out)).mono ?_); rintro e w1 ⟨rfl, hb⟩; have HB1 := Aside0.mk (HB0.out.trans (hb.mono HB0.out.size)); have m13 := pw_cell_below HB1.out C3.out; clear hb) | (go_at_call 168; (with_reducible refine (Q2.out _ (HW.out _ HB1.out)).mono ?_); rintro e w2 ⟨rfl, hb⟩; have HB2 := Aside0.mk (HB1.out.trans (hb.mono HB1.out.size)); have m24 := pw_cell_below HB2.out C4.out; clear hb) | (go_at_call 168; (with_reducible refine (Q3.out _ (HW.out _ HB2.out)).mono ?_); rintro e w3 ⟨rfl, hb⟩; have HB3 := Aside0.mk (HB2.out.trans (hb.mono HB2.out.size)); have m35 := pw_cell_below HB3.out C5.out; clear hb) | (go_at_call 169; (with_reducible refine (Q4.out _ (HW.out _ HB3.out)).mono ?_); rintro e w4 ⟨rfl, hb⟩; have HB4 := Aside0.mk (HB3.out.trans (hb.mono HB3.out.size)); have m46 := pw_cell_below HB4.out C6.out; clear hb) | (go_at_call 169; (with_reducible refine (Q5.out _ (HW.out _ HB4.out)).mono ?_); rintro e w5 ⟨rfl, hb⟩; have HB5 := Aside0.mk (HB4.out.trans (hb.mono HB4.out.size)); have m50 := pw_cell_below HB5.out C0.out; have m51 := pw_cell_below HB5.out C1.out; have m52 := pw_cell_below HB5.out C2.out; have m53 := pw_cell_below HB5.out C3.out; have m54 := pw_cell_below HB5.out C4.out; have m55 := pw_cell_below HB5.out C5.out; have m56 := pw_cell_below HB5.out C6.out; have m58 := pw_cell_below HB5.out C8.out; clear hb))
        go_ret
        exact ⟨rfl, HW.out _ HB5.out⟩
       by_cases hB : a0_0 = true ∧ 0 < l0_3.length
       case pos =>
        clear hA
        obtain ⟨rfl, z3⟩ := hB
        have d3 : decide (0 < l0_3.length) = true := decide_eq_true (by omega)
        have y3 : decide ((0 : Int) < (l0_3.length : Int)) = true := decide_eq_true (by omega)
        rw [d3]
        clear z3
        go_enter Try.func126, Try.ntmps126
        go_wp2_with (first | (go_at_call 168; (with_reducible refine (Q1.out _ (HW.out _ HB0.out)).mono ?_); rintro e w1 ⟨rfl, hb⟩; have HB1 := Aside0.mk (HB0.out.trans (hb.mono HB0.out.size)); have m13 := pw_cell_below HB1.out C3.out; clear hb) | (go_at_call 168; (with_reducible refine (Q2.out _ (HW.out _ HB1.out)).mono ?_); rintro e w2 ⟨rfl, hb⟩; have HB2 := Aside0.mk (HB1.out.trans (hb.mono HB1.out.size)); have m24 := pw_cell_below HB2.out C4.out; clear hb) | (go_at_call 168; (with_reducible refine (Q3.out _ (HW.out _ HB2.out)).mono ?_); rintro e w3 ⟨rfl, hb⟩; have HB3 := Aside0.mk (HB2.out.trans (hb.mono HB2.out.size)); have m35 := pw_cell_below HB3.out C5.out; clear hb) | (go_at_call 169; (with_reducible refine (Q4.out _ (HW.out _ HB3.out)).mono ?_); rintro e w4 ⟨rfl, hb⟩; have HB4 := Aside0.mk (HB3.out.trans (hb.mono HB3.out.size)); have m46 := pw_cell_below HB4.out C6.out; clear hb) | (go_at_call 169; (with_reducible refine (Q5.out _ (HW.out _ HB4.out)).mono ?_); rintro e w5 ⟨rfl, hb⟩; have HB5 := Aside0.mk (HB4.out.trans (hb.mono HB4.out.size)); have m50 := pw_cell_below HB5.out C0.out; have m51 := pw_cell_below HB5.out C1.out; have m52 := pw_cell_below HB5.out C2.out; have m53 := pw_cell_below HB5.out C3.out; have m54 := pw_cell_below HB5.out C4.out; have m55 := pw_cell_below HB5.out C5.out; have m56 := pw_cell_below HB5.out C6.out; have m58 := pw_cell_below HB5.out C8.out; clear hb))
        go_ret
        exact ⟨rfl, HW.out _ HB5.out⟩
       cases a0_0
       case' false =>
        have z2 : ¬ 0 < l0_2.length := fun h => hA ⟨rfl, h⟩
        clear hA hB
        have d2 : decide (0 < l0_2.length) = false := decide_eq_false (by omega)
        have y2 : decide ((0 : Int) < (l0_2.length : Int)) = false := decide_eq_false (by omega)
        rw [d2]
        clear z2
       case' true =>
        have z3 : ¬ 0 < l0_3.length := fun h => hB ⟨rfl, h⟩
        clear hA hB
        have d3 : decide (0 < l0_3.length) = false := decide_eq_false (by omega)
        have y3 : decide ((0 : Int) < (l0_3.length : Int)) = false := decide_eq_false (by omega)
        rw [d3]
        clear z3
       all_goals
        cases a0_1 with
        | false =>
         by_cases z5 : 0 < l0_5.length
         case pos =>
          have d5 : decide (0 < l0_5.length) = true := decide_eq_true (by omega)
          have y5 : decide ((0 : Int) < (l0_5.length : Int)) = true := decide_eq_true (by omega)
          rw [d5]
          clear z5
          go_enter Try.func126, Try.ntmps126
          go_wp2_with (first | (go_at_call 168; (with_reducible refine (Q1.out _ (HW.out _ HB0.out)).mono ?_); rintro e w1 ⟨rfl, hb⟩; have HB1 := Aside0.mk (HB0.out.trans (hb.mono HB0.out.size)); have m13 := pw_cell_below HB1.out C3.out; clear hb) | (go_at_call 168; (with_reducible refine (Q2.out _ (HW.out _ HB1.out)).mono ?_); rintro e w2 ⟨rfl, hb⟩; have HB2 := Aside0.mk (HB1.out.trans (hb.mono HB1.out.size)); have m24 := pw_cell_below HB2.out C4.out; clear hb) | (go_at_call 168; (with_reducible refine (Q3.out _ (HW.out _ HB2.out)).mono ?_); rintro e w3 ⟨rfl, hb⟩; have HB3 := Aside0.mk (HB2.out.trans (hb.mono HB2.out.size)); have m35 := pw_cell_below HB3.out C5.out; clear hb) | (go_at_call 169; (with_reducible refine (Q4.out _ (HW.out _ HB3.out)).mono ?_); rintro e w4 ⟨rfl, hb⟩; have HB4 := Aside0.mk (HB3.out.trans (hb.mono HB3.out.size)); have m46 := pw_cell_below HB4.out C6.out; clear hb) | (go_at_call 169; (with_reducible refine (Q5.out _ (HW.out _ HB4.out)).mono ?_); rintro e w5 ⟨rfl, hb⟩; have HB5 := Aside0.mk (HB4.out.trans (hb.mono HB4.out.size)); have m50 := pw_cell_below HB5.out C0.out; have m51 := pw_cell_below HB5.out C1.out; have m52 := pw_cell_below HB5.out C2.out; have m53 := pw_cell_below HB5.out C3.out; have m54 := pw_cell_below HB5.out C4.out; have m55 := pw_cell_below HB5.out C5.out; have m56 := pw_cell_below HB5.out C6.out; have m58 := pw_cell_below HB5.out C8.out; clear hb))
          go_ret
          exact ⟨rfl, HW.out _ HB5.out⟩
         case neg =>
          have d5 : decide (0 < l0_5.length) = false := decide_eq_false (by omega)
          have y5 : decide ((0 : Int) < (l0_5.length : Int)) = false := decide_eq_false (by omega)
          rw [d5]
          clear z5
          cases a0_8 with
          | true =>
           go_enter Try.func126, Try.ntmps126
           go_wp2_with (first | (go_at_call 168; (with_reducible refine (Q1.out _ (HW.out _ HB0.out)).mono ?_); rintro e w1 ⟨rfl, hb⟩; have HB1 := Aside0.mk (HB0.out.trans (hb.mono HB0.out.size)); have m13 := pw_cell_below HB1.out C3.out; clear hb) | (go_at_call 168; (with_reducible refine (Q2.out _ (HW.out _ HB1.out)).mono ?_); rintro e w2 ⟨rfl, hb⟩; have HB2 := Aside0.mk (HB1.out.trans (hb.mono HB1.out.size)); have m24 := pw_cell_below HB2.out C4.out; clear hb) | (go_at_call 168; (with_reducible refine (Q3.out _ (HW.out _ HB2.out)).mono ?_); rintro e w3 ⟨rfl, hb⟩; have HB3 := Aside0.mk (HB2.out.trans (hb.mono HB2.out.size)); have m35 := pw_cell_below HB3.out C5.out; clear hb) | (go_at_call 169; (with_reducible refine (Q4.out _ (HW.out _ HB3.out)).mono ?_); rintro e w4 ⟨rfl, hb⟩; have HB4 := Aside0.mk (HB3.out.trans (hb.mono HB3.out.size)); have m46 := pw_cell_below HB4.out C6.out; clear hb) | (go_at_call 169; (with_reducible refine (Q5.out _ (HW.out _ HB4.out)).mono ?_); rintro e w5 ⟨rfl, hb⟩; have HB5 := Aside0.mk (HB4.out.trans (hb.mono HB4.out.size)); have m50 := pw_cell_below HB5.out C0.out; have m51 := pw_cell_below HB5.out C1.out; have m52 := pw_cell_below HB5.out C2.out; have m53 := pw_cell_below HB5.out C3.out; have m54 := pw_cell_below HB5.out C4.out; have m55 := pw_cell_below HB5.out C5.out; have m56 := pw_cell_below HB5.out C6.out; have m58 := pw_cell_below HB5.out C8.out; clear hb))
           go_ret
           exact ⟨rfl, HW.out _ HB5.out⟩
          | false =>
           rw [if_neg (by first | decide | exact Bool.false_ne_true)]
           generalize hRV : (if l0_4.any (unwrapB l0_2 l0_3) = true then (13 : Int) else if l0_2.any (attrsB _ l0_5) = true then 13 else 0) = RV
           have HRV := Aside0.mk hRV
           clear hRV
           go_enter Try.func126, Try.ntmps126
           go_wp2_with (first | (go_at_call 168; (with_reducible refine (Q1.out _ (HW.out _ HB0.out)).mono ?_); rintro e w1 ⟨rfl, hb⟩; have HB1 := Aside0.mk (HB0.out.trans (hb.mono HB0.out.size)); have m13 := pw_cell_below HB1.out C3.out; clear hb) | (go_at_call 168; (with_reducible refine (Q2.out _ (HW.out _ HB1.out)).mono ?_); rintro e w2 ⟨rfl, hb⟩; have HB2 := Aside0.mk (HB1.out.trans (hb.mono HB1.out.size)); have m24 := pw_cell_below HB2.out C4.out; clear hb) | (go_at_call 168; (with_reducible refine (Q3.out _ (HW.out _ HB2.out)).mono ?_); rintro e w3 ⟨rfl, hb⟩; have HB3 := Aside0.mk (HB2.out.trans (hb.mono HB2.out.size)); have m35 := pw_cell_below HB3.out C5.out; clear hb) | (go_at_call 169; (with_reducible refine (Q4.out _ (HW.out _ HB3.out)).mono ?_); rintro e w4 ⟨rfl, hb⟩; have HB4 := Aside0.mk (HB3.out.trans (hb.mono HB3.out.size)); have m46 := pw_cell_below HB4.out C6.out; clear hb) | (go_at_call 169; (with_reducible refine (Q5.out _ (HW.out _ HB4.out)).mono ?_); rintro e w5 ⟨rfl, hb⟩; have HB5 := Aside0.mk (HB4.out.trans (hb.mono HB4.out.size)); have m50 := pw_cell_below HB5.out C0.out; have m51 := pw_cell_below HB5.out C1.out; have m52 := pw_cell_below HB5.out C2.out; have m53 := pw_cell_below HB5.out C3.out; have m54 := pw_cell_below HB5.out C4.out; have m55 := pw_cell_below HB5.out C5.out; have m56 := pw_cell_below HB5.out C6.out; have m58 := pw_cell_below HB5.out C8.out; clear hb))
           try clear d2 y2
           try clear d3 y3
           try clear d5 y5
           try clear d6 y6
           have hn2 : l0_2.length ≤ 9223372036854775807 := HR2.out.2.1
           have hn4 : l0_4.length ≤ 9223372036854775807 := HR4.out.2.1
           have P1 := Aside0.mk m51
           have P2 := Aside0.mk m52
           have P3 := Aside0.mk m53
           have P4 := Aside0.mk m54
           have P5 := Aside0.mk m55
           go_loopg [3, 4] l0_4.length (fun gg s3 _ wr => ∃ kk : Nat, kk ≤ l0_4.length ∧ l0_4.length - kk ≤ gg ∧ s3 = .int .i64 kk ∧ Aside0 (Below w.heap.size w wr) ∧ Aside0 (Below w5.heap.size w5 wr) ∧ Aside0 (∀ j, j < kk → unwrapB l0_2 l0_3 (l0_4.getD j z155) = false))
           case atStart => exact ⟨0, Nat.zero_le _, by omega, rfl, ⟨HW.out _ HB5.out⟩, ⟨Below.refl _ _⟩, ⟨fun j hj => absurd hj (Nat.not_lt_zero _)⟩⟩
           case round =>
             obtain ⟨kk, hkk, hg, rfl, BW, BV, AA⟩ := hrel
             clear m50 m51 m52 m53 m54 m55 m56 m58
             by_cases hlt : kk < l0_4.length
             · have hltz : (kk : Int) < (l0_4.length : Int) := by omega
               have M2 := pw_cell_below BV.out P2.out
               have M3 := pw_cell_below BV.out P3.out
               have M4 := pw_cell_below BV.out P4.out
               obtain ⟨ad, c, e, hcl, hK, hc⟩ := Kd.C_get (Kd.C_below HR4.out BW.out) z155 (kk : Int) (by omega) (by omega)
               rw [Int.toNat_natCast] at hK hc
               obtain ⟨A9, c9, rfl, _, _⟩ := k155_open hK
               subst e
               have hmem : l0_4.getD kk z155 ∈ l0_4 := by rw [List.getD_eq_getElem?_getD, List.getElem?_eq_getElem hlt]; exact List.getElem_mem hlt
               have HX : ∀ x, l0_4.getD kk z155 = x → Aside0 (unwrapB l0_2 l0_3 x = true → RV = 13) := fun x hx => ⟨fun hy => by rw [← HRV.out, if_pos (List.any_eq_true.2 ⟨x, hx ▸ hmem, hy⟩)]⟩
               have HN : ∀ x, l0_4.getD kk z155 = x → Aside0 (unwrapB l0_2 l0_3 x = false → ∀ j, j < kk + 1 → unwrapB l0_2 l0_3 (l0_4.getD j z155) = false) := fun x hx => ⟨fun hy j hj => by
                 by_cases e : j = kk
                 · subst e; rw [hx]; exact hy
                 · exact AA.out j (by omega)⟩
               have g0 : wr.cell? (ad.add (kk * 3)) = some (.int .i64 (l0_4.getD kk z155).f0) := hc 0 _ rfl
               have g1 : wr.cell? ⟨(ad.add (kk * 3)).block, (ad.add (kk * 3)).off + 1, none⟩ = some (.string (l0_4.getD kk z155).f1) := by rw [← add_field _ _ 1 (by omega)]; exact hc 1 _ rfl
               have g2 : wr.cell? ⟨(ad.add (kk * 3)).block, (ad.add (kk * 3)).off + 2, none⟩ = some (.slice A9 (l0_4.getD kk z155).f2.length c9) := by rw [← add_field _ _ 2 (by omega)]; exact hc 2 _ rfl
               clear hc hK hcl
               generalize hx : l0_4.getD kk z155 = x at *
               have HX := HX x rfl
               have HN := HN x rfl
               clear hmem hx
               have HBX := Aside0.mk (below_alloc BW.out (.cells #[.int .i64 x.f0, .string x.f1, .slice A9 x.f2.length c9] 155))
               have BVX := Aside0.mk (below_alloc BV.out (.cells #[.int .i64 x.f0, .string x.f1, .slice A9 x.f2.length c9] 155))
               have N2 := old_cell (.cells #[.int .i64 x.f0, .string x.f1, .slice A9 x.f2.length c9] 155) M2
               have N3 := Aside0.mk (old_cell (.cells #[.int .i64 x.f0, .string x.f1, .slice A9 x.f2.length c9] 155) M3)
               have X0 : Aside0 ((wr.alloc (.cells #[.int .i64 x.f0, .string x.f1, .slice A9 x.f2.length c9] 155)).cell? ⟨wr.heap.size, 0, none⟩ = some (.int .i64 x.f0)) := ⟨new_cell wr _ _ 0 _ rfl⟩
               have X1 : Aside0 ((wr.alloc (.cells #[.int .i64 x.f0, .string x.f1, .slice A9 x.f2.length c9] 155)).cell? ⟨wr.heap.size, 1, none⟩ = some (.string x.f1)) := ⟨new_cell wr _ _ 1 _ rfl⟩
               have QA : Aside0 (∀ V, Below w.heap.size w V → Calls Try.prog 170 #[.slice A0_2 l0_2.length c0_2, .int .i64 x.f0, .string x.f1] V fun e w' => e = .returned (.int .i64 (ruleAtI l0_2 x.f0 x.f1)) ∧ Below V.heap.size V w') := ⟨fun V hV => spec_l07At.pure A0_2 c0_2 l0_2 x.f0 x.f1 V (Kd.C_below HR2.out hV) HC2.out⟩
               have QB : Aside0 (∀ V, Below w.heap.size w V → Calls Try.prog 170 #[.slice A0_3 l0_3.length c0_3, .int .i64 x.f0, .string x.f1] V fun e w' => e = .returned (.int .i64 (ruleAtI l0_3 x.f0 x.f1)) ∧ Below V.heap.size V w') := ⟨fun V hV => spec_l07At.pure A0_3 c0_3 l0_3 x.f0 x.f1 V (Kd.C_below HR3.out hV) HC3.out⟩
               have hu : unwrapB l0_2 l0_3 x = (decide (0 ≤ ruleAtI l0_2 x.f0 x.f1) || decide (0 ≤ ruleAtI l0_3 x.f0 x.f1)) := rfl
               rw [hu] at HX HN
               clear hu M2 M3
               generalize ruleAtI l0_2 x.f0 x.f1 = r1 at *
               generalize ruleAtI l0_3 x.f0 x.f1 = r2 at *
               cases y1 : decide (0 ≤ r1) with
               | true =>
                 rw [y1, Bool.true_or] at HX
                 clear HN
                 go_wp2_with (go_at_call 170; (with_reducible refine (QA.out _ HBX.out).mono ?_); rintro e v1 ⟨rfl, hv1⟩; have HX1 := Aside0.mk (HBX.out.trans (hv1.mono HBX.out.size)); clear hv1)
                 go_ret
                 obtain rfl := HX.out (by simp)
                 exact ⟨rfl, HX1.out⟩
               | false =>
                 rw [y1, Bool.false_or] at HX HN
                 cases y2 : decide (0 ≤ r2) with
                 | true =>
                   rw [y2] at HX
                   clear HN
                   go_wp2_with (first | (go_at_call 170; (with_reducible refine (QA.out _ HBX.out).mono ?_); rintro e v1 ⟨rfl, hv1⟩; have HX1 := Aside0.mk (HBX.out.trans (hv1.mono HBX.out.size)); have N13 := pw_cell_below hv1 N3.out; have X10 := pw_cell_below hv1 X0.out; have X11 := pw_cell_below hv1 X1.out; clear hv1) | (go_at_call 170; (with_reducible refine (QB.out _ HX1.out).mono ?_); rintro e v2 ⟨rfl, hv2⟩; have HX2 := Aside0.mk (HX1.out.trans (hv2.mono HX1.out.size)); clear hv2))
                   go_ret
                   obtain rfl := HX.out (by simp)
                   exact ⟨rfl, HX2.out⟩
                 | false =>
                   rw [y2] at HN
                   clear HX
                   go_wp2_with (first | (go_at_call 170; (with_reducible refine (QA.out _ HBX.out).mono ?_); rintro e v1 ⟨rfl, hv1⟩; have HX1 := Aside0.mk (HBX.out.trans (hv1.mono HBX.out.size)); have BX1 := Aside0.mk (BVX.out.trans (hv1.mono BVX.out.size)); have N13 := pw_cell_below hv1 N3.out; have X10 := pw_cell_below hv1 X0.out; have X11 := pw_cell_below hv1 X1.out; clear hv1) | (go_at_call 170; (with_reducible refine (QB.out _ HX1.out).mono ?_); rintro e v2 ⟨rfl, hv2⟩; have HX2 := Aside0.mk (HX1.out.trans (hv2.mono HX1.out.size)); have BX2 := Aside0.mk (BX1.out.trans (hv2.mono BX1.out.size)); clear hv2))
                   go_roundg (l0_4.length - (kk + 1))
                   case measure => omega
                   case rel => exact ⟨kk + 1, by omega, by omega, by go_num, HX2, BX2, ⟨HN.out (by simp)⟩⟩
             · have hltz : ¬ (kk : Int) < (l0_4.length : Int) := by omega
               have hany : ¬ l0_4.any (unwrapB l0_2 l0_3) = true := by
                 intro h
                 obtain ⟨x, hx, hy⟩ := List.any_eq_true.1 h
                 obtain ⟨j, hj, rfl⟩ := List.getElem_of_mem hx
                 have := AA.out j (by omega)
                 rw [List.getD_eq_getElem?_getD, List.getElem?_eq_getElem hj] at this
                 rw [show unwrapB l0_2 l0_3 l0_4[j] = false from this] at hy
                 cases hy
               rw [if_neg hany] at HRV
               clear hany AA
               have M4 := pw_cell_below BV.out P4.out
               go_wp2_with (fail)
               clear M4
               go_loopg [5, 6] l0_2.length (fun gg s5 _ wr2 => ∃ k2 : Nat, k2 ≤ l0_2.length ∧ l0_2.length - k2 ≤ gg ∧ s5 = .int .i64 k2 ∧ Aside0 (Below w.heap.size w wr2) ∧ Aside0 (Below w5.heap.size w5 wr2) ∧ Aside0 (∀ j, j < k2 → attrsB false l0_5 (l0_2.getD j z155) = false))
               case atStart => exact ⟨0, Nat.zero_le _, by omega, rfl, BW, BV, ⟨fun j hj => absurd hj (Nat.not_lt_zero _)⟩⟩
               case round =>
                 clear BW BV hltz hlt hkk hg
                 obtain ⟨k2, hk2, hg2, rfl, BW, BV, AA⟩ := hrel
                 by_cases hlt : k2 < l0_2.length
                 · have hltz : (k2 : Int) < (l0_2.length : Int) := by omega
                   have M2 := pw_cell_below BV.out P2.out
                   obtain ⟨ad, c, e, hcl, hK, hc⟩ := Kd.C_get HR2.out z155 (k2 : Int) (by omega) (by omega)
                   rw [Int.toNat_natCast] at hK hc
                   obtain ⟨A9, c9, rfl, hcx, hrx⟩ := k155_open hK
                   subst e
                   have hmem : l0_2.getD k2 z155 ∈ l0_2 := by rw [List.getD_eq_getElem?_getD, List.getElem?_eq_getElem hlt]; exact List.getElem_mem hlt
                   have HX : ∀ x, l0_2.getD k2 z155 = x → Aside0 (attrsB false l0_5 x = true → RV = 13) := fun x hx => ⟨fun hy => by rw [← HRV.out, if_pos (List.any_eq_true.2 ⟨x, hx ▸ hmem, hy⟩)]⟩
                   have HN : ∀ x, l0_2.getD k2 z155 = x → Aside0 (attrsB false l0_5 x = false → ∀ j, j < k2 + 1 → attrsB false l0_5 (l0_2.getD j z155) = false) := fun x hx => ⟨fun hy j hj => by
                     by_cases e : j = k2
                     · subst e; rw [hx]; exact hy
                     · exact AA.out j (by omega)⟩
                   have g2 : Aside0 (w.cell? ⟨(ad.add (k2 * 3)).block, (ad.add (k2 * 3)).off + 2, none⟩ = some (.slice A9 (l0_2.getD k2 z155).f2.length c9)) := ⟨by rw [← add_field _ _ 2 (by omega)]; exact hc 2 _ rfl⟩
                   clear hc hK hcl
                   generalize hx : l0_2.getD k2 z155 = x at *
                   have HX := HX x rfl
                   have HN := HN x rfl
                   clear hmem hx
                   have HR9 : Aside0 (Kd.C Kd.string w A9 x.f2.length x.f2) := ⟨hrx⟩
                   have hn9 : x.f2.length ≤ 9223372036854775807 := hrx.2.1
                   clear hcx hrx
                   go_wp2_with (fail)
                   have hnil : (∀ j, j < x.f2.length → (!false || Kit.hasT l0_5 (x.f2.getD j ByteArray.empty)) = false) → attrsB false l0_5 x = false := fun h => by
                     unfold attrsB
                     rw [Bool.eq_false_iff]
                     intro hh
                     obtain ⟨n, hn, hy⟩ := List.any_eq_true.1 hh
                     obtain ⟨j, hj, rfl⟩ := List.getElem_of_mem hn
                     have := h j hj
                     rw [List.getD_eq_getElem?_getD, List.getElem?_eq_getElem hj] at this
                     rw [show (!false || Kit.hasT l0_5 x.f2[j]) = false from this] at hy
                     cases hy
                   have hhit : ∀ j, j < x.f2.length → (!false || Kit.hasT l0_5 (x.f2.getD j ByteArray.empty)) = true → RV = 13 := fun j hj hy => HX.out (by
                     unfold attrsB
                     refine List.any_eq_true.2 ⟨x.f2.getD j ByteArray.empty, ?_, hy⟩
                     rw [List.getD_eq_getElem?_getD, List.getElem?_eq_getElem hj]; exact List.getElem_mem hj)
                   have HNIL := Aside0.mk hnil
                   have HHIT := Aside0.mk hhit
                   clear hnil hhit HX AA M2
                   go_loopg [6] x.f2.length (fun gg s6 wr3 => ∃ k3 : Nat, k3 ≤ x.f2.length ∧ x.f2.length - k3 ≤ gg ∧ s6 = .int .i64 k3 ∧ Aside0 (Below w.heap.size w wr3) ∧ Aside0 (Below w5.heap.size w5 wr3) ∧ Aside0 (∀ j, j < k3 → (!false || Kit.hasT l0_5 (x.f2.getD j ByteArray.empty)) = false))
                   case atStart => exact ⟨0, Nat.zero_le _, by omega, rfl, BW, BV, ⟨fun j hj => absurd hj (Nat.not_lt_zero _)⟩⟩
                   case round =>
                     clear BW BV
                     obtain ⟨k3, hk3, hg3, rfl, BW, BV, AA⟩ := hrel
                     have M2 := pw_cell_below BV.out P2.out
                     have G2 := pw_cell_below BW.out g2.out
                     by_cases hl3 : k3 < x.f2.length
                     · have hlz3 : (k3 : Int) < (x.f2.length : Int) := by omega
                       have M1 := pw_cell_below BV.out P1.out
                       have M5 := pw_cell_below BV.out P5.out
                       obtain ⟨ad9, e9, l1⟩ := Kd.at_string HR9.out (k3 : Int) (by omega) hlz3
                       subst e9
                       rw [Kit.rdOf_nat, Int.toNat_natCast] at l1
                       have L1 := pw_cell_below BW.out l1
                       clear l1
                       have HH := HHIT.out k3 hl3
                       have HSTEP : ∀ y, x.f2.getD k3 ByteArray.empty = y → Aside0 ((!false || Kit.hasT l0_5 y) = false → ∀ j, j < k3 + 1 → (!false || Kit.hasT l0_5 (x.f2.getD j ByteArray.empty)) = false) := fun y hy => ⟨fun hf j hj => by
                         by_cases e : j = k3
                         · subst e; rw [hy]; exact hf
                         · exact AA.out j (by omega)⟩
                       have q := fun W (h : Below w.heap.size w W) => spec_l01Has.pure A0_5 c0_5 l0_5 (x.f2.getD k3 ByteArray.empty) W (Kd.C_below HR5.out h) HC5.out
                       generalize hy : x.f2.getD k3 ByteArray.empty = y at *
                       have HSTEP := HSTEP y rfl
                       clear hy
                       obtain rfl := HH (by simp)
                       clear HH q HSTEP
                       go_wp2_with (fail)
                       go_quiet (fail)
                       go_wp2
                       go_ret
                       exact ⟨rfl, by first | exact pw_below_drewN BW.out _ | exact BW.out⟩
                     · have hlz3 : ¬ (k3 : Int) < (x.f2.length : Int) := by omega
                       have HAB := HN.out (HNIL.out (fun j hj => AA.out j (by omega)))
                       have HAB := Aside0.mk HAB
                       clear HN HNIL AA
                       go_wp2_with (fail)
                       go_roundg (l0_2.length - (k2 + 1))
                       case measure => omega
                       case rel => exact ⟨k2 + 1, by omega, by omega, by go_num, BW, BV, HAB⟩
                 · have hltz : ¬ (k2 : Int) < (l0_2.length : Int) := by omega
                   have hany : ¬ l0_2.any (attrsB false l0_5) = true := by
                     intro h
                     obtain ⟨x, hx, hy⟩ := List.any_eq_true.1 h
                     obtain ⟨j, hj, rfl⟩ := List.getElem_of_mem hx
                     have := AA.out j (by omega)
                     rw [List.getD_eq_getElem?_getD, List.getElem?_eq_getElem hj] at this
                     rw [show attrsB false l0_5 l0_2[j] = false from this] at hy
                     cases hy
                   rw [if_neg hany] at HRV
                   obtain rfl := HRV.out
                   clear hany AA HRV
                   have M2 := pw_cell_below BV.out P2.out
                   go_wp2_with (fail)
                   go_ret
                   exact ⟨rfl, BW.out⟩
        | true =>
         by_cases z6 : 0 < l0_6.length
         case pos =>
          have d6 : decide (0 < l0_6.length) = true := decide_eq_true (by omega)
          have y6 : decide ((0 : Int) < (l0_6.length : Int)) = true := decide_eq_true (by omega)
          rw [d6]
          clear z6
          go_enter Try.func126, Try.ntmps126
          go_wp2_with (first | (go_at_call 168; (with_reducible refine (Q1.out _ (HW.out _ HB0.out)).mono ?_); rintro e w1 ⟨rfl, hb⟩; have HB1 := Aside0.mk (HB0.out.trans (hb.mono HB0.out.size)); have m13 := pw_cell_below HB1.out C3.out; clear hb) | (go_at_call 168; (with_reducible refine (Q2.out _ (HW.out _ HB1.out)).mono ?_); rintro e w2 ⟨rfl, hb⟩; have HB2 := Aside0.mk (HB1.out.trans (hb.mono HB1.out.size)); have m24 := pw_cell_below HB2.out C4.out; clear hb) | (go_at_call 168; (with_reducible refine (Q3.out _ (HW.out _ HB2.out)).mono ?_); rintro e w3 ⟨rfl, hb⟩; have HB3 := Aside0.mk (HB2.out.trans (hb.mono HB2.out.size)); have m35 := pw_cell_below HB3.out C5.out; clear hb) | (go_at_call 169; (with_reducible refine (Q4.out _ (HW.out _ HB3.out)).mono ?_); rintro e w4 ⟨rfl, hb⟩; have HB4 := Aside0.mk (HB3.out.trans (hb.mono HB3.out.size)); have m46 := pw_cell_below HB4.out C6.out; clear hb) | (go_at_call 169; (with_reducible refine (Q5.out _ (HW.out _ HB4.out)).mono ?_); rintro e w5 ⟨rfl, hb⟩; have HB5 := Aside0.mk (HB4.out.trans (hb.mono HB4.out.size)); have m50 := pw_cell_below HB5.out C0.out; have m51 := pw_cell_below HB5.out C1.out; have m52 := pw_cell_below HB5.out C2.out; have m53 := pw_cell_below HB5.out C3.out; have m54 := pw_cell_below HB5.out C4.out; have m55 := pw_cell_below HB5.out C5.out; have m56 := pw_cell_below HB5.out C6.out; have m58 := pw_cell_below HB5.out C8.out; clear hb))
          go_ret
          exact ⟨rfl, HW.out _ HB5.out⟩
         case neg =>
          have d6 : decide (0 < l0_6.length) = false := decide_eq_false (by omega)
          have y6 : decide ((0 : Int) < (l0_6.length : Int)) = false := decide_eq_false (by omega)
          rw [d6]
          clear z6
          rw [if_neg (by first | decide | exact Bool.false_ne_true)]
          generalize hRV : (if l0_4.any (unwrapB l0_2 l0_3) = true then (13 : Int) else if l0_2.any (attrsB _ l0_5) = true then 13 else 0) = RV
          have HRV := Aside0.mk hRV
          clear hRV
          go_enter Try.func126, Try.ntmps126
          go_wp2_with (first | (go_at_call 168; (with_reducible refine (Q1.out _ (HW.out _ HB0.out)).mono ?_); rintro e w1 ⟨rfl, hb⟩; have HB1 := Aside0.mk (HB0.out.trans (hb.mono HB0.out.size)); have m13 := pw_cell_below HB1.out C3.out; clear hb) | (go_at_call 168; (with_reducible refine (Q2.out _ (HW.out _ HB1.out)).mono ?_); rintro e w2 ⟨rfl, hb⟩; have HB2 := Aside0.mk (HB1.out.trans (hb.mono HB1.out.size)); have m24 := pw_cell_below HB2.out C4.out; clear hb) | (go_at_call 168; (with_reducible refine (Q3.out _ (HW.out _ HB2.out)).mono ?_); rintro e w3 ⟨rfl, hb⟩; have HB3 := Aside0.mk (HB2.out.trans (hb.mono HB2.out.size)); have m35 := pw_cell_below HB3.out C5.out; clear hb) | (go_at_call 169; (with_reducible refine (Q4.out _ (HW.out _ HB3.out)).mono ?_); rintro e w4 ⟨rfl, hb⟩; have HB4 := Aside0.mk (HB3.out.trans (hb.mono HB3.out.size)); have m46 := pw_cell_below HB4.out C6.out; clear hb) | (go_at_call 169; (with_reducible refine (Q5.out _ (HW.out _ HB4.out)).mono ?_); rintro e w5 ⟨rfl, hb⟩; have HB5 := Aside0.mk (HB4.out.trans (hb.mono HB4.out.size)); have m50 := pw_cell_below HB5.out C0.out; have m51 := pw_cell_below HB5.out C1.out; have m52 := pw_cell_below HB5.out C2.out; have m53 := pw_cell_below HB5.out C3.out; have m54 := pw_cell_below HB5.out C4.out; have m55 := pw_cell_below HB5.out C5.out; have m56 := pw_cell_below HB5.out C6.out; have m58 := pw_cell_below HB5.out C8.out; clear hb))
          try clear d2 y2
          try clear d3 y3
          try clear d5 y5
          try clear d6 y6
          have hn2 : l0_2.length ≤ 9223372036854775807 := HR2.out.2.1
          have hn4 : l0_4.length ≤ 9223372036854775807 := HR4.out.2.1
          have P1 := Aside0.mk m51
          have P2 := Aside0.mk m52
          have P3 := Aside0.mk m53
          have P4 := Aside0.mk m54
          have P5 := Aside0.mk m55
          go_loopg [3, 4] l0_4.length (fun gg s3 _ wr => ∃ kk : Nat, kk ≤ l0_4.length ∧ l0_4.length - kk ≤ gg ∧ s3 = .int .i64 kk ∧ Aside0 (Below w.heap.size w wr) ∧ Aside0 (Below w5.heap.size w5 wr) ∧ Aside0 (∀ j, j < kk → unwrapB l0_2 l0_3 (l0_4.getD j z155) = false))
          case atStart => exact ⟨0, Nat.zero_le _, by omega, rfl, ⟨HW.out _ HB5.out⟩, ⟨Below.refl _ _⟩, ⟨fun j hj => absurd hj (Nat.not_lt_zero _)⟩⟩
          case round =>
            obtain ⟨kk, hkk, hg, rfl, BW, BV, AA⟩ := hrel
            clear m50 m51 m52 m53 m54 m55 m56 m58
            by_cases hlt : kk < l0_4.length
            · have hltz : (kk : Int) < (l0_4.length : Int) := by omega
              have M2 := pw_cell_below BV.out P2.out
              have M3 := pw_cell_below BV.out P3.out
              have M4 := pw_cell_below BV.out P4.out
              obtain ⟨ad, c, e, hcl, hK, hc⟩ := Kd.C_get (Kd.C_below HR4.out BW.out) z155 (kk : Int) (by omega) (by omega)
              rw [Int.toNat_natCast] at hK hc
              obtain ⟨A9, c9, rfl, _, _⟩ := k155_open hK
              subst e
              have hmem : l0_4.getD kk z155 ∈ l0_4 := by rw [List.getD_eq_getElem?_getD, List.getElem?_eq_getElem hlt]; exact List.getElem_mem hlt
              have HX : ∀ x, l0_4.getD kk z155 = x → Aside0 (unwrapB l0_2 l0_3 x = true → RV = 13) := fun x hx => ⟨fun hy => by rw [← HRV.out, if_pos (List.any_eq_true.2 ⟨x, hx ▸ hmem, hy⟩)]⟩
              have HN : ∀ x, l0_4.getD kk z155 = x → Aside0 (unwrapB l0_2 l0_3 x = false → ∀ j, j < kk + 1 → unwrapB l0_2 l0_3 (l0_4.getD j z155) = false) := fun x hx => ⟨fun hy j hj => by
                by_cases e : j = kk
                · subst e; rw [hx]; exact hy
                · exact AA.out j (by omega)⟩
              have g0 : wr.cell? (ad.add (kk * 3)) = some (.int .i64 (l0_4.getD kk z155).f0) := hc 0 _ rfl
              have g1 : wr.cell? ⟨(ad.add (kk * 3)).block, (ad.add (kk * 3)).off + 1, none⟩ = some (.string (l0_4.getD kk z155).f1) := by rw [← add_field _ _ 1 (by omega)]; exact hc 1 _ rfl
              have g2 : wr.cell? ⟨(ad.add (kk * 3)).block, (ad.add (kk * 3)).off + 2, none⟩ = some (.slice A9 (l0_4.getD kk z155).f2.length c9) := by rw [← add_field _ _ 2 (by omega)]; exact hc 2 _ rfl
              clear hc hK hcl
              generalize hx : l0_4.getD kk z155 = x at *
              have HX := HX x rfl
              have HN := HN x rfl
              clear hmem hx
              have HBX := Aside0.mk (below_alloc BW.out (.cells #[.int .i64 x.f0, .string x.f1, .slice A9 x.f2.length c9] 155))
              have BVX := Aside0.mk (below_alloc BV.out (.cells #[.int .i64 x.f0, .string x.f1, .slice A9 x.f2.length c9] 155))
              have N2 := old_cell (.cells #[.int .i64 x.f0, .string x.f1, .slice A9 x.f2.length c9] 155) M2
              have N3 := Aside0.mk (old_cell (.cells #[.int .i64 x.f0, .string x.f1, .slice A9 x.f2.length c9] 155) M3)
              have X0 : Aside0 ((wr.alloc (.cells #[.int .i64 x.f0, .string x.f1, .slice A9 x.f2.length c9] 155)).cell? ⟨wr.heap.size, 0, none⟩ = some (.int .i64 x.f0)) := ⟨new_cell wr _ _ 0 _ rfl⟩
              have X1 : Aside0 ((wr.alloc (.cells #[.int .i64 x.f0, .string x.f1, .slice A9 x.f2.length c9] 155)).cell? ⟨wr.heap.size, 1, none⟩ = some (.string x.f1)) := ⟨new_cell wr _ _ 1 _ rfl⟩
              have QA : Aside0 (∀ V, Below w.heap.size w V → Calls Try.prog 170 #[.slice A0_2 l0_2.length c0_2, .int .i64 x.f0, .string x.f1] V fun e w' => e = .returned (.int .i64 (ruleAtI l0_2 x.f0 x.f1)) ∧ Below V.heap.size V w') := ⟨fun V hV => spec_l07At.pure A0_2 c0_2 l0_2 x.f0 x.f1 V (Kd.C_below HR2.out hV) HC2.out⟩
              have QB : Aside0 (∀ V, Below w.heap.size w V → Calls Try.prog 170 #[.slice A0_3 l0_3.length c0_3, .int .i64 x.f0, .string x.f1] V fun e w' => e = .returned (.int .i64 (ruleAtI l0_3 x.f0 x.f1)) ∧ Below V.heap.size V w') := ⟨fun V hV => spec_l07At.pure A0_3 c0_3 l0_3 x.f0 x.f1 V (Kd.C_below HR3.out hV) HC3.out⟩
              have hu : unwrapB l0_2 l0_3 x = (decide (0 ≤ ruleAtI l0_2 x.f0 x.f1) || decide (0 ≤ ruleAtI l0_3 x.f0 x.f1)) := rfl
              rw [hu] at HX HN
              clear hu M2 M3
              generalize ruleAtI l0_2 x.f0 x.f1 = r1 at *
              generalize ruleAtI l0_3 x.f0 x.f1 = r2 at *
              cases y1 : decide (0 ≤ r1) with
              | true =>
                rw [y1, Bool.true_or] at HX
                clear HN
                go_wp2_with (go_at_call 170; (with_reducible refine (QA.out _ HBX.out).mono ?_); rintro e v1 ⟨rfl, hv1⟩; have HX1 := Aside0.mk (HBX.out.trans (hv1.mono HBX.out.size)); clear hv1)
                go_ret
                obtain rfl := HX.out (by simp)
                exact ⟨rfl, HX1.out⟩
              | false =>
                rw [y1, Bool.false_or] at HX HN
                cases y2 : decide (0 ≤ r2) with
                | true =>
                  rw [y2] at HX
                  clear HN
                  go_wp2_with (first | (go_at_call 170; (with_reducible refine (QA.out _ HBX.out).mono ?_); rintro e v1 ⟨rfl, hv1⟩; have HX1 := Aside0.mk (HBX.out.trans (hv1.mono HBX.out.size)); have N13 := pw_cell_below hv1 N3.out; have X10 := pw_cell_below hv1 X0.out; have X11 := pw_cell_below hv1 X1.out; clear hv1) | (go_at_call 170; (with_reducible refine (QB.out _ HX1.out).mono ?_); rintro e v2 ⟨rfl, hv2⟩; have HX2 := Aside0.mk (HX1.out.trans (hv2.mono HX1.out.size)); clear hv2))
                  go_ret
                  obtain rfl := HX.out (by simp)
                  exact ⟨rfl, HX2.out⟩
                | false =>
                  rw [y2] at HN
                  clear HX
                  go_wp2_with (first | (go_at_call 170; (with_reducible refine (QA.out _ HBX.out).mono ?_); rintro e v1 ⟨rfl, hv1⟩; have HX1 := Aside0.mk (HBX.out.trans (hv1.mono HBX.out.size)); have BX1 := Aside0.mk (BVX.out.trans (hv1.mono BVX.out.size)); have N13 := pw_cell_below hv1 N3.out; have X10 := pw_cell_below hv1 X0.out; have X11 := pw_cell_below hv1 X1.out; clear hv1) | (go_at_call 170; (with_reducible refine (QB.out _ HX1.out).mono ?_); rintro e v2 ⟨rfl, hv2⟩; have HX2 := Aside0.mk (HX1.out.trans (hv2.mono HX1.out.size)); have BX2 := Aside0.mk (BX1.out.trans (hv2.mono BX1.out.size)); clear hv2))
                  go_roundg (l0_4.length - (kk + 1))
                  case measure => omega
                  case rel => exact ⟨kk + 1, by omega, by omega, by go_num, HX2, BX2, ⟨HN.out (by simp)⟩⟩
            · have hltz : ¬ (kk : Int) < (l0_4.length : Int) := by omega
              have hany : ¬ l0_4.any (unwrapB l0_2 l0_3) = true := by
                intro h
                obtain ⟨x, hx, hy⟩ := List.any_eq_true.1 h
                obtain ⟨j, hj, rfl⟩ := List.getElem_of_mem hx
                have := AA.out j (by omega)
                rw [List.getD_eq_getElem?_getD, List.getElem?_eq_getElem hj] at this
                rw [show unwrapB l0_2 l0_3 l0_4[j] = false from this] at hy
                cases hy
              rw [if_neg hany] at HRV
              clear hany AA
              have M4 := pw_cell_below BV.out P4.out
              go_wp2_with (fail)
              clear M4
              go_loopg [5, 6] l0_2.length (fun gg s5 _ wr2 => ∃ k2 : Nat, k2 ≤ l0_2.length ∧ l0_2.length - k2 ≤ gg ∧ s5 = .int .i64 k2 ∧ Aside0 (Below w.heap.size w wr2) ∧ Aside0 (Below w5.heap.size w5 wr2) ∧ Aside0 (∀ j, j < k2 → attrsB true l0_5 (l0_2.getD j z155) = false))
              case atStart => exact ⟨0, Nat.zero_le _, by omega, rfl, BW, BV, ⟨fun j hj => absurd hj (Nat.not_lt_zero _)⟩⟩
              case round =>
                clear BW BV hltz hlt hkk hg
                obtain ⟨k2, hk2, hg2, rfl, BW, BV, AA⟩ := hrel
                by_cases hlt : k2 < l0_2.length
                · have hltz : (k2 : Int) < (l0_2.length : Int) := by omega
                  have M2 := pw_cell_below BV.out P2.out
                  obtain ⟨ad, c, e, hcl, hK, hc⟩ := Kd.C_get HR2.out z155 (k2 : Int) (by omega) (by omega)
                  rw [Int.toNat_natCast] at hK hc
                  obtain ⟨A9, c9, rfl, hcx, hrx⟩ := k155_open hK
                  subst e
                  have hmem : l0_2.getD k2 z155 ∈ l0_2 := by rw [List.getD_eq_getElem?_getD, List.getElem?_eq_getElem hlt]; exact List.getElem_mem hlt
                  have HX : ∀ x, l0_2.getD k2 z155 = x → Aside0 (attrsB true l0_5 x = true → RV = 13) := fun x hx => ⟨fun hy => by rw [← HRV.out, if_pos (List.any_eq_true.2 ⟨x, hx ▸ hmem, hy⟩)]⟩
                  have HN : ∀ x, l0_2.getD k2 z155 = x → Aside0 (attrsB true l0_5 x = false → ∀ j, j < k2 + 1 → attrsB true l0_5 (l0_2.getD j z155) = false) := fun x hx => ⟨fun hy j hj => by
                    by_cases e : j = k2
                    · subst e; rw [hx]; exact hy
                    · exact AA.out j (by omega)⟩
                  have g2 : Aside0 (w.cell? ⟨(ad.add (k2 * 3)).block, (ad.add (k2 * 3)).off + 2, none⟩ = some (.slice A9 (l0_2.getD k2 z155).f2.length c9)) := ⟨by rw [← add_field _ _ 2 (by omega)]; exact hc 2 _ rfl⟩
                  clear hc hK hcl
                  generalize hx : l0_2.getD k2 z155 = x at *
                  have HX := HX x rfl
                  have HN := HN x rfl
                  clear hmem hx
                  have HR9 : Aside0 (Kd.C Kd.string w A9 x.f2.length x.f2) := ⟨hrx⟩
                  have hn9 : x.f2.length ≤ 9223372036854775807 := hrx.2.1
                  clear hcx hrx
                  go_wp2_with (fail)
                  have hnil : (∀ j, j < x.f2.length → (!true || Kit.hasT l0_5 (x.f2.getD j ByteArray.empty)) = false) → attrsB true l0_5 x = false := fun h => by
                    unfold attrsB
                    rw [Bool.eq_false_iff]
                    intro hh
                    obtain ⟨n, hn, hy⟩ := List.any_eq_true.1 hh
                    obtain ⟨j, hj, rfl⟩ := List.getElem_of_mem hn
                    have := h j hj
                    rw [List.getD_eq_getElem?_getD, List.getElem?_eq_getElem hj] at this
                    rw [show (!true || Kit.hasT l0_5 x.f2[j]) = false from this] at hy
                    cases hy
                  have hhit : ∀ j, j < x.f2.length → (!true || Kit.hasT l0_5 (x.f2.getD j ByteArray.empty)) = true → RV = 13 := fun j hj hy => HX.out (by
                    unfold attrsB
                    refine List.any_eq_true.2 ⟨x.f2.getD j ByteArray.empty, ?_, hy⟩
                    rw [List.getD_eq_getElem?_getD, List.getElem?_eq_getElem hj]; exact List.getElem_mem hj)
                  have HNIL := Aside0.mk hnil
                  have HHIT := Aside0.mk hhit
                  clear hnil hhit HX AA M2
                  go_loopg [6] x.f2.length (fun gg s6 wr3 => ∃ k3 : Nat, k3 ≤ x.f2.length ∧ x.f2.length - k3 ≤ gg ∧ s6 = .int .i64 k3 ∧ Aside0 (Below w.heap.size w wr3) ∧ Aside0 (Below w5.heap.size w5 wr3) ∧ Aside0 (∀ j, j < k3 → (!true || Kit.hasT l0_5 (x.f2.getD j ByteArray.empty)) = false))
                  case atStart => exact ⟨0, Nat.zero_le _, by omega, rfl, BW, BV, ⟨fun j hj => absurd hj (Nat.not_lt_zero _)⟩⟩
                  case round =>
                    clear BW BV
                    obtain ⟨k3, hk3, hg3, rfl, BW, BV, AA⟩ := hrel
                    have M2 := pw_cell_below BV.out P2.out
                    have G2 := pw_cell_below BW.out g2.out
                    by_cases hl3 : k3 < x.f2.length
                    · have hlz3 : (k3 : Int) < (x.f2.length : Int) := by omega
                      have M1 := pw_cell_below BV.out P1.out
                      have M5 := pw_cell_below BV.out P5.out
                      obtain ⟨ad9, e9, l1⟩ := Kd.at_string HR9.out (k3 : Int) (by omega) hlz3
                      subst e9
                      rw [Kit.rdOf_nat, Int.toNat_natCast] at l1
                      have L1 := pw_cell_below BW.out l1
                      clear l1
                      have HH := HHIT.out k3 hl3
                      have HSTEP : ∀ y, x.f2.getD k3 ByteArray.empty = y → Aside0 ((!true || Kit.hasT l0_5 y) = false → ∀ j, j < k3 + 1 → (!true || Kit.hasT l0_5 (x.f2.getD j ByteArray.empty)) = false) := fun y hy => ⟨fun hf j hj => by
                        by_cases e : j = k3
                        · subst e; rw [hy]; exact hf
                        · exact AA.out j (by omega)⟩
                      have q := fun W (h : Below w.heap.size w W) => spec_l01Has.pure A0_5 c0_5 l0_5 (x.f2.getD k3 ByteArray.empty) W (Kd.C_below HR5.out h) HC5.out
                      generalize hy : x.f2.getD k3 ByteArray.empty = y at *
                      have HSTEP := HSTEP y rfl
                      clear hy
                      have q9 := fun m => q (wr.drewN m) (pw_below_drewN BW.out m)
                      clear q
                      cases hh : Kit.hasT l0_5 y with
                      | true =>
                        rw [hh] at q9
                        obtain rfl := HH (by rw [hh]; rfl)
                        clear HH HSTEP hh
                        go_wp2_with (fail)
                        go_quiet (first | (go_at_call 149; exact quietD3 (q9 _)))
                        go_wp2
                        go_ret
                        exact ⟨rfl, by first | exact pw_below_drewN BW.out _ | exact BW.out⟩
                      | false =>
                        rw [hh] at HSTEP q9
                        clear HH hh
                        go_wp2_with (fail)
                        go_quiet (first | (go_at_call 149; exact quietD3 (q9 _)))
                        go_wp2
                        go_roundg (x.f2.length - (k3 + 1))
                        case measure => omega
                        case rel => exact ⟨k3 + 1, by omega, by omega, by go_num, ⟨pw_below_drewN BW.out _⟩, ⟨pw_below_drewN BV.out _⟩, ⟨HSTEP.out (by simp)⟩⟩
                    · have hlz3 : ¬ (k3 : Int) < (x.f2.length : Int) := by omega
                      have HAB := HN.out (HNIL.out (fun j hj => AA.out j (by omega)))
                      have HAB := Aside0.mk HAB
                      clear HN HNIL AA
                      go_wp2_with (fail)
                      go_roundg (l0_2.length - (k2 + 1))
                      case measure => omega
                      case rel => exact ⟨k2 + 1, by omega, by omega, by go_num, BW, BV, HAB⟩
                · have hltz : ¬ (k2 : Int) < (l0_2.length : Int) := by omega
                  have hany : ¬ l0_2.any (attrsB true l0_5) = true := by
                    intro h
                    obtain ⟨x, hx, hy⟩ := List.any_eq_true.1 h
                    obtain ⟨j, hj, rfl⟩ := List.getElem_of_mem hx
                    have := AA.out j (by omega)
                    rw [List.getD_eq_getElem?_getD, List.getElem?_eq_getElem hj] at this
                    rw [show attrsB true l0_5 l0_2[j] = false from this] at hy
                    cases hy
                  rw [if_neg hany] at HRV
                  obtain rfl := HRV.out
                  clear hany AA HRV
                  have M2 := pw_cell_below BV.out P2.out
                  go_wp2_with (fail)
                  go_ret
                  exact ⟨rfl, BW.out⟩


/-! ### spec_CheckConfig: function 64 -/
def spec_CheckConfig.f (k : Nat) (a0_0 : Bool) (a0_1 : Bool) (l0_2 : List (S155)) (l0_3 : List (S155)) (l0_4 : List (S155)) (l0_5 : List ByteArray) (l0_6 : List ByteArray) (a0_7 : Bool) (a0_8 : Bool) : Option (Int) := (spec_l07Check.f k a0_0 a0_1 l0_2 l0_3 l0_4 l0_5 l0_6 a0_7 a0_8).bind fun t125 => (some t125)
theorem spec_CheckConfig.mono : ∀ a0 a1 a2 a3 a4 a5 a6 a7 a8 k, LeO (spec_CheckConfig.f k a0 a1 a2 a3 a4 a5 a6 a7 a8) (spec_CheckConfig.f (k + 1) a0 a1 a2 a3 a4 a5 a6 a7 a8) := by
  intro a0 a1 a2 a3 a4 a5 a6 a7 a8 k
  unfold spec_CheckConfig.f
  repeat' first
      | (with_reducible exact spec_l07Check.mono _ _ _ _ _ _ _ _ _ _)
      | (with_reducible exact LeO.refl _)
      | (with_reducible exact LeO.none _)
      | (with_reducible refine LeO.ite ?_ ?_)
      | (with_reducible refine LeO.bind ?_ (fun _ => ?_))
      | exact spec_l07Check.mono _ _ _ _ _ _ _ _ _ _
      | exact LeO.none _
      | refine LeO.ite ?_ ?_
      | refine LeO.bind ?_ (fun _ => ?_)
set_option maxHeartbeats 8000000 in
set_option maxRecDepth 100000 in
theorem spec_CheckConfig.calls (k : Nat) (a0_0 : Bool) (a0_1 : Bool) (A0_2 : Option Addr) (c0_2 : Nat) (l0_2 : List (S155)) (A0_3 : Option Addr) (c0_3 : Nat) (l0_3 : List (S155)) (A0_4 : Option Addr) (c0_4 : Nat) (l0_4 : List (S155)) (A0_5 : Option Addr) (c0_5 : Nat) (l0_5 : List ByteArray) (A0_6 : Option Addr) (c0_6 : Nat) (l0_6 : List ByteArray) (a0_7 : Bool) (a0_8 : Bool) (r : Int) (w : World) (hr0_2 : Kd.C k155 w A0_2 l0_2.length l0_2) (hc0_2 : l0_2.length ≤ c0_2) (hr0_3 : Kd.C k155 w A0_3 l0_3.length l0_3) (hc0_3 : l0_3.length ≤ c0_3) (hr0_4 : Kd.C k155 w A0_4 l0_4.length l0_4) (hc0_4 : l0_4.length ≤ c0_4) (hr0_5 : Kd.C Kd.string w A0_5 l0_5.length l0_5) (hc0_5 : l0_5.length ≤ c0_5) (hr0_6 : Kd.C Kd.string w A0_6 l0_6.length l0_6) (hc0_6 : l0_6.length ≤ c0_6) (h : spec_CheckConfig.f k a0_0 a0_1 l0_2 l0_3 l0_4 l0_5 l0_6 a0_7 a0_8 = some r) :
    Calls Try.prog 64 #[.agg #[.bool a0_0, .bool a0_1, .slice A0_2 l0_2.length c0_2, .slice A0_3 l0_3.length c0_3, .slice A0_4 l0_4.length c0_4, .slice A0_5 l0_5.length c0_5, .slice A0_6 l0_6.length c0_6, .bool a0_7, .bool a0_8]] w fun e w' => e = .returned (.int .i64 r) ∧ Below w.heap.size w w' := by
  have hu78 := Try.underlying78
  have HR0_2 := Aside0.mk hr0_2
  have HC0_2 := Aside0.mk hc0_2
  clear hr0_2 hc0_2
  have HR0_3 := Aside0.mk hr0_3
  have HC0_3 := Aside0.mk hc0_3
  clear hr0_3 hc0_3
  have HR0_4 := Aside0.mk hr0_4
  have HC0_4 := Aside0.mk hc0_4
  clear hr0_4 hc0_4
  have HR0_5 := Aside0.mk hr0_5
  have HC0_5 := Aside0.mk hc0_5
  clear hr0_5 hc0_5
  have HR0_6 := Aside0.mk hr0_6
  have HC0_6 := Aside0.mk hc0_6
  clear hr0_6 hc0_6
  have HB := Aside0.mk (Below.refl w.heap.size w)
  have H : ((spec_l07Check.f k a0_0 a0_1 l0_2 l0_3 l0_4 l0_5 l0_6 a0_7 a0_8).bind fun t125 => (some t125)) = some r := h
  clear h
  replace H := Option.bind_eq_some_iff.mp H
  obtain ⟨t125, A20, H⟩ := H
  replace H : (some t125) = some r := H
  have A2 := Aside0.mk A20
  clear A20
  obtain rfl := Option.some.inj H
  go_enter Try.func64, Try.ntmps64
  go_wp2_with (first | ((with_reducible refine gate_dst (N := 1) rfl ?_); refine box_event ?hg (N := 1) ?hd (cs := #[.bool a0_0, .bool a0_1, .slice A0_2 l0_2.length c0_2, .slice A0_3 l0_3.length c0_3, .slice A0_4 l0_4.length c0_4, .slice A0_5 l0_5.length c0_5, .slice A0_6 l0_6.length c0_6, .bool a0_7, .bool a0_8]) (t := 78) ?hr ?_; (case hd => rfl); (case hg => rfl); (case hr => first | (go_simp; done) | (go_simp; rfl)); intro gb124 hg w3 hbox hb; have n0_ := Aside0.mk (below_step (by repeat (first | (with_reducible first | exact HB.out | apply below_alloc | apply pw_below_drewN | apply below_drew1) | exact HB.out)) hb); have n1_ := Aside0.mk (hbox); have n2_ := Aside0.mk ((by rw [hg]; exact (below_size (by repeat (first | (with_reducible first | exact HB.out | apply below_alloc | apply pw_below_drewN | apply below_drew1) | exact HB.out))) : w.heap.size ≤ gb124)); have n3_ := Aside0.mk ((by rw [hg]; exact (below_size (by repeat (first | (with_reducible first | exact HB.out | apply below_alloc | apply pw_below_drewN | apply below_drew1) | exact HB.out))) : w.heap.size ≤ gb124)); clear HB; have HB := n0_; have BK124 := n1_; have GW124 := n2_; have GE124 := n3_; clear n0_ n1_ n2_ n3_; clear hb hbox hg; have hcz4_0 : w3.cell? ⟨gb124, 0, none⟩ = some (.bool a0_0) := (blk_cell BK124.out 0).trans rfl; have hcz4_1 : w3.cell? ⟨gb124, 1, none⟩ = some (.bool a0_1) := (blk_cell BK124.out 1).trans rfl; have hcz4_2 : w3.cell? ⟨gb124, 2, none⟩ = some (.slice A0_2 l0_2.length c0_2) := (blk_cell BK124.out 2).trans rfl; have hcz4_3 : w3.cell? ⟨gb124, 3, none⟩ = some (.slice A0_3 l0_3.length c0_3) := (blk_cell BK124.out 3).trans rfl; have hcz4_4 : w3.cell? ⟨gb124, 4, none⟩ = some (.slice A0_4 l0_4.length c0_4) := (blk_cell BK124.out 4).trans rfl; have hcz4_5 : w3.cell? ⟨gb124, 5, none⟩ = some (.slice A0_5 l0_5.length c0_5) := (blk_cell BK124.out 5).trans rfl; have hcz4_6 : w3.cell? ⟨gb124, 6, none⟩ = some (.slice A0_6 l0_6.length c0_6) := (blk_cell BK124.out 6).trans rfl; have hcz4_7 : w3.cell? ⟨gb124, 7, none⟩ = some (.bool a0_7) := (blk_cell BK124.out 7).trans rfl; have hcz4_8 : w3.cell? ⟨gb124, 8, none⟩ = some (.bool a0_8) := (blk_cell BK124.out 8).trans rfl; have hfz4_0 := blk_frozen BK124.out 0; have hfz4_1 := blk_frozen BK124.out 1; have hfz4_2 := blk_frozen BK124.out 2; have hfz4_3 := blk_frozen BK124.out 3; have hfz4_4 := blk_frozen BK124.out 4; have hfz4_5 := blk_frozen BK124.out 5; have hfz4_6 := blk_frozen BK124.out 6; have hfz4_7 := blk_frozen BK124.out 7; have hfz4_8 := blk_frozen BK124.out 8) | ((with_reducible refine gate_callee (f := 126) rfl ?_); refine goesL_ (some 4) rfl rfl Try.func126 (by kernel_rfl) rfl #[.agg #[.bool a0_0, .bool a0_1, .slice A0_2 l0_2.length c0_2, .slice A0_3 l0_3.length c0_3, .slice A0_4 l0_4.length c0_4, .slice A0_5 l0_5.length c0_5, .slice A0_6 l0_6.length c0_6, .bool a0_7, .bool a0_8]] rfl (by (try simp only [List.map_toArray, List.map_cons, List.map_nil]); first | done | rfl | (simp only [List.length_drop, List.length_take]; rfl)) ?_; (with_reducible refine (spec_l07Check.calls k a0_0 a0_1 _ _ l0_2 _ _ l0_3 _ _ l0_4 _ _ l0_5 _ _ l0_6 a0_7 a0_8 t125 _ ?side1 ?side2 ?side3 ?side4 ?side5 ?side6 ?side7 ?side8 ?side9 ?side10 A2.out).mono ?_); (case side1 => repeat (first | exact (Kd.C_below HR0_2.out HB.out) | (with_reducible refine Kd.C_alloc ?_ _) | (with_reducible refine Kd.C_drewN ?_ _) | (with_reducible refine Kd.C_drew ?_))); (case side2 => exact HC0_2.out); (case side3 => repeat (first | exact (Kd.C_below HR0_3.out HB.out) | (with_reducible refine Kd.C_alloc ?_ _) | (with_reducible refine Kd.C_drewN ?_ _) | (with_reducible refine Kd.C_drew ?_))); (case side4 => exact HC0_3.out); (case side5 => repeat (first | exact (Kd.C_below HR0_4.out HB.out) | (with_reducible refine Kd.C_alloc ?_ _) | (with_reducible refine Kd.C_drewN ?_ _) | (with_reducible refine Kd.C_drew ?_))); (case side6 => exact HC0_4.out); (case side7 => repeat (first | exact (Kd.C_below HR0_5.out HB.out) | (with_reducible refine Kd.C_alloc ?_ _) | (with_reducible refine Kd.C_drewN ?_ _) | (with_reducible refine Kd.C_drew ?_))); (case side8 => exact HC0_5.out); (case side9 => repeat (first | exact (Kd.C_below HR0_6.out HB.out) | (with_reducible refine Kd.C_alloc ?_ _) | (with_reducible refine Kd.C_drewN ?_ _) | (with_reducible refine Kd.C_drew ?_))); (case side10 => exact HC0_6.out); rintro e w5 ⟨rfl, hb⟩; refine ⟨_, rfl, ?_⟩; have n0_ := Aside0.mk (blk_below (g := gb124) (o := .cells #[.bool a0_0, .bool a0_1, .slice A0_2 l0_2.length c0_2, .slice A0_3 l0_3.length c0_3, .slice A0_4 l0_4.length c0_4, .slice A0_5 l0_5.length c0_5, .slice A0_6 l0_6.length c0_6, .bool a0_7, .bool a0_8] 78 (0, 0)) (by (with_reducible repeat (first | refine blk_drewN ?_ _ | refine blk_drew ?_ | refine blk_alloc ?_ _)); exact BK124.out) hb); have n1_ := Aside0.mk (below_step (by repeat (first | (with_reducible first | exact HB.out | apply below_alloc | apply pw_below_drewN | apply below_drew1 | refine below_set ?_ GE124.out) | exact HB.out)) hb); clear BK124; clear HB; have BK124 := n0_; have HB := n1_; clear n0_ n1_; (try clear hb); (try clear hb2); (try clear hk); (try clear hi)))
  go_ret
  exact ⟨by first | rfl | (simp [errW_none, errW_some] <;> rfl) | (simp [*, errW_none, errW_some] <;> rfl), by repeat (first | (with_reducible first | exact HB.out | apply below_alloc | apply pw_below_drewN | apply below_drew1 | refine below_set ?_ GE124.out) | exact HB.out)⟩

/-! ### laws_toStringS: function 128 -/
def laws_toStringS.l0 : Nat → List ByteArray → List ByteArray → Int → Option (List ByteArray)
  | 0, _, _, _ => none
  | k + 1, x0, x3, x4 => if x4 < (x0.length : Int) then (if 0 ≤ x4 then (if x4 < (x3.length : Int) then (laws_toStringS.l0 k x0 (x3.set (x4 : Int).toNat (rdOf ByteArray.empty x0 x4)) (wrap64 (x4 + 1))) else (none)) else (none)) else (some x3)
def laws_toStringS.f (k : Nat) (l0 : List ByteArray) : Option (List ByteArray) := if 0 ≤ (l0.length : Int) then (if ((l0.length : Int) : Int).toNat ≤ 17592186044416 then (laws_toStringS.l0 k l0 (List.replicate ((l0.length : Int) : Int).toNat (⟨#[]⟩ : ByteArray)) 0) else (none)) else (none)
theorem laws_toStringS.mono_l : ∀ k, (∀ y0 y1 y2, LeO (laws_toStringS.l0 k y0 y1 y2) (laws_toStringS.l0 (k + 1) y0 y1 y2))
  | 0 => fun _ _ _ r h => by simp [laws_toStringS.l0] at h
  | k + 1 => by
    have ih0 := laws_toStringS.mono_l k
    · intro y0 y1 y2
      unfold laws_toStringS.l0
      repeat' first
      | (with_reducible exact ih0 _ _ _)
      | (with_reducible exact LeO.refl _)
      | (with_reducible exact LeO.none _)
      | (with_reducible refine LeO.ite ?_ ?_)
      | (with_reducible refine LeO.bind ?_ (fun _ => ?_))
      | exact ih0 _ _ _
      | exact LeO.none _
      | refine LeO.ite ?_ ?_
      | refine LeO.bind ?_ (fun _ => ?_)
theorem laws_toStringS.mono : ∀ a0 k, LeO (laws_toStringS.f k a0) (laws_toStringS.f (k + 1) a0) := by
  intro a0 k
  have ih0 := laws_toStringS.mono_l k
  unfold laws_toStringS.f
  repeat' first
      | (with_reducible exact ih0 _ _ _)
      | (with_reducible exact LeO.refl _)
      | (with_reducible exact LeO.none _)
      | (with_reducible refine LeO.ite ?_ ?_)
      | (with_reducible refine LeO.bind ?_ (fun _ => ?_))
      | exact ih0 _ _ _
      | exact LeO.none _
      | refine LeO.ite ?_ ?_
      | refine LeO.bind ?_ (fun _ => ?_)
set_option maxHeartbeats 8000000 in
set_option maxRecDepth 100000 in
theorem laws_toStringS.calls (k : Nat) (A0 : Option Addr) (c0 : Nat) (l0 : List ByteArray) (r : List ByteArray) (w : World) (hr0 : Kd.C Kd.string w A0 l0.length l0) (hc0 : l0.length ≤ c0) (h : laws_toStringS.f k l0 = some r) :
    Calls Try.prog 128 #[.slice A0 l0.length c0] w fun e w' => ∃ v0_ : Value, e = .returned (v0_) ∧ Kd.R Kd.string 9 w' w.heap.size (fun _ => True) v0_ r ∧ Below w.heap.size w w' := by
  have HR0 := Aside0.mk hr0
  have HC0 := Aside0.mk hc0
  clear hr0 hc0
  have HB := Aside0.mk (Below.refl w.heap.size w)
  have H : (if 0 ≤ (l0.length : Int) then (if ((l0.length : Int) : Int).toNat ≤ 17592186044416 then (laws_toStringS.l0 k l0 (List.replicate ((l0.length : Int) : Int).toNat (⟨#[]⟩ : ByteArray)) 0) else (none)) else (none)) = some r := h
  clear h
  by_cases c2 : 0 ≤ (l0.length : Int)
  · rw [if_pos c2] at H
    have c2b0 := eq_true c2
    have c2b1 : decide (0 ≤ (l0.length : Int)) = true := decide_eq_true c2
    clear c2
    by_cases c3 : ((l0.length : Int) : Int).toNat ≤ 17592186044416
    · rw [if_pos c3] at H
      have c3b0 := eq_true c3
      have c3b1 : decide (((l0.length : Int) : Int).toNat ≤ 17592186044416) = true := decide_eq_true c3
      clear c3
      obtain ⟨y126, hy126⟩ : ∃ y_ : List ByteArray, y_ = (List.replicate ((l0.length : Int) : Int).toNat (⟨#[]⟩ : ByteArray)) := ⟨_, rfl⟩
      replace H : (laws_toStringS.l0 k l0 y126 0) = some r := by first | (rw [hy126]; with_reducible exact H) | (have H2_ := (Option.bind_some _ _).symm.trans H; rw [hy126]; with_reducible exact H2_) | (have H2_ := (Option.bind_some _ _).symm.trans H; with_reducible exact H2_) | with_reducible exact H | (rw [hy126]; exact H) | exact H
      have Ny126 := Aside0.mk hy126
      clear hy126
      have H' := Aside0.mk H
      clear H
      go_enter Try.func128, Try.ntmps128
      go_wp2_with (first | ((with_reducible refine gate_dst (N := 7) rfl ?_); refine Kd.R_make Kd.string _ 9 rfl (N := 7) rfl 44 _ _ rfl (l0.length : Int) rfl rfl Try.underlying44 (.string ⟨#[]⟩) 16 info9 rfl (by decide) (by omega) (⟨#[]⟩ : ByteArray) (ok := fun _ => True) (okp := fun _ => True) rfl (fun _ hk => hk) trivial (of_decide_eq_true (by first | (with_reducible assumption) | assumption)) (Nat.le_trans (Nat.mul_le_mul_right _ (of_decide_eq_true (by first | (with_reducible assumption) | assumption) : (l0.length : Int).toNat ≤ 17592186044416)) (by omega)) (Below.refl _ _) (Nat.le_refl _) ?_; intro v127 w4 ho5 hb hg_ hnew_; clear hg_ hnew_; (first | rw [← Ny126.out] at ho5 | (simp only [Int.reduceToNat] at ho5; rw [← Ny126.out] at ho5)); have n0_ := Aside0.mk (Kd.R_lower ho5 (below_size (by repeat (first | (with_reducible first | exact HB.out | apply below_alloc | apply pw_below_drewN | apply below_drew1) | exact HB.out)))); have n1_ := Aside0.mk (below_step (by repeat (first | (with_reducible first | exact HB.out | apply below_alloc | apply pw_below_drewN | apply below_drew1) | exact HB.out)) hb); clear HB; have HO128 := n0_; have HB := n1_; clear n0_ n1_; clear hb ho5))
      go_loopg [4] k (fun kq v4 w' => ∃ (x3_1 : List ByteArray) (x4_1 : Int), v4 = .int .i64 x4_1 ∧ Aside0 (laws_toStringS.l0 kq l0 x3_1 x4_1 = some r) ∧ Aside0 (kq ≤ k) ∧ Aside0 (Kd.R Kd.string 9 w' w.heap.size (fun _ => True) v127 x3_1) ∧ Aside0 (Below w.heap.size w w'))
      case atStart => exact ⟨(y126), (0), (by first | rfl | (simp; done) | (simp [*]; done)), H', ⟨Nat.le_refl _⟩, ⟨by (with_reducible repeat (first | apply Kd.R_alloc | apply Kd.R_drewN | apply Kd.R_drew)); exact HO128.out⟩, ⟨by repeat (first | (with_reducible first | exact HB.out | apply below_alloc | apply pw_below_drewN | apply below_drew1) | exact HB.out)⟩⟩
      case round =>
        clear H'
        try clear c1
        try clear c2
        try clear c2b0
        try clear c2b1
        try clear p2
        try clear c3
        try clear c3b0
        try clear c3b1
        obtain ⟨x3_1, x4_1, rfl, HA, HK1, HO_3, HB⟩ := hrel
        cases gk with
        | zero => exact absurd HA.out (by simp [laws_toStringS.l0])
        | succ k1 =>
          have H := HA.out
          clear HA
          simp only [laws_toStringS.l0] at H
          by_cases c6 : x4_1 < (l0.length : Int)
          · rw [if_pos c6] at H
            have c6b0 : decide (x4_1 < (l0.length : Int)) = true := decide_eq_true c6
            clear c6
            by_cases c7 : 0 ≤ x4_1
            · rw [if_pos c7] at H
              have c7b0 : decide (0 ≤ x4_1) = true := decide_eq_true c7
              clear c7
              by_cases c8 : x4_1 < (x3_1.length : Int)
              · rw [if_pos c8] at H
                have c8b0 : decide (x4_1 < (x3_1.length : Int)) = true := decide_eq_true c8
                clear c8
                obtain ⟨y130, hy130⟩ : ∃ y_ : List ByteArray, y_ = (x3_1.set (x4_1 : Int).toNat (rdOf ByteArray.empty l0 x4_1)) := ⟨_, rfl⟩
                replace H : (laws_toStringS.l0 k1 l0 y130 (wrap64 (x4_1 + 1))) = some r := by first | (rw [hy130]; with_reducible exact H) | (have H2_ := (Option.bind_some _ _).symm.trans H; rw [hy130]; with_reducible exact H2_) | (have H2_ := (Option.bind_some _ _).symm.trans H; with_reducible exact H2_) | with_reducible exact H | (rw [hy130]; exact H) | exact H
                have Ny130 := Aside0.mk hy130
                clear hy130
                have H' := Aside0.mk H
                clear H
                have p129 : 0 ≤ (x4_1 : Int) := of_decide_eq_true (by first | (with_reducible assumption) | assumption)
                have q129 : x4_1 < (l0.length : Int) := of_decide_eq_true (by first | (with_reducible assumption) | assumption)
                obtain ⟨ad129, e129, hx129_0⟩ := Kd.at_string HR0.out x4_1 p129 q129
                cases e129
                replace hx129_0 := (HB.out.cell (World.block_lt_of_cell? w _ hx129_0)).trans hx129_0
                replace p129 := eq_true p129
                replace q129 := eq_true q129
                have p9 : 0 ≤ (x4_1 : Int) := of_decide_eq_true (by first | (with_reducible assumption) | assumption)
                have q9 : (x4_1 : Int) < ((x3_1.length : Int) : Int) := of_decide_eq_true (by first | (with_reducible assumption) | assumption)
                obtain ⟨go9, co9, eo9, gb9, gl9, cl9, HG9⟩ := Kd.R_form HO_3.out (by omega)
                (first | cases eo9 | (injection eo9 with ea_ en_ ec_; (first | subst ea_ | (injection ea_ with ea_; subst ea_)); subst ec_; clear en_))
                have GB9 := Aside0.mk gb9
                have GG9 := Aside0.mk HG9
                clear gb9 gl9 HG9
                obtain ⟨hx9_0, hf9_0⟩ := Kd.R_celln (⟨#[]⟩ : ByteArray) HO_3.out (x4_1 : Int) p9 q9
                replace p9 := eq_true p9
                replace q9 := eq_true q9
                have HP10 := Kd.R_putg HO_3.out (x4_1 : Int) (rdOf ByteArray.empty l0 x4_1)
                go_wp2_with (first | ((with_reducible refine gate_store (t := 9) (p := 20) rfl ?_); refine store_event (t := 9) (p := 20) (v := ?vo_w11) (w1 := (wr.setCell ⟨go9, (x4_1 : Int).toNat, none⟩ (.string (rdOf ByteArray.empty l0 x4_1)))) ?hg ?ho ?hn ?hr ?_; (case ho => rfl); (case hg => rfl); (case hn => rfl); (case hr => first | (go_simp; done) | (go_simp; rfl) | ((first | (obtain ⟨_, _, rfl⟩ := Kd.R_slice HO128.out) | (obtain ⟨_, _, rfl⟩ := Kd.S_slice HO128.out) | skip); first | (go_simp; done) | (go_simp; rfl))); intro w11 hw; have hg : wr.grownBy w11 (some go9) := (by rw [hw]; exact HP10.2); have hp_ : Kd.R Kd.string 9 w11 w.heap.size (fun _ => True) (.slice (some ⟨go9, 0, none⟩) x3_1.length co9) y130 := (by rw [hw, Ny130.out]; exact HP10.1); clear HP10; have n0_ := Aside0.mk (hp_); have n1_ := Aside0.mk ((by rw [hw]; exact below_set (HB.out) GB9.out : Below w.heap.size w w11)); clear HO_3; clear HB; have HO_3 := n0_; have HB := n1_; clear n0_ n1_; clear hg hw hp_))
                go_roundg k1
                case measure => have := HK1.out; omega
                case rel => exact ⟨(y130), (wrap64 (x4_1 + 1)), (by first | rfl | (simp; done) | (simp [*]; done)), H', ⟨by have := HK1.out; omega⟩, ⟨by (with_reducible repeat (first | apply Kd.R_alloc | apply Kd.R_drewN | apply Kd.R_drew)); exact HO_3.out⟩, ⟨by repeat (first | (with_reducible first | exact HB.out | apply below_alloc | apply pw_below_drewN | apply below_drew1) | exact HB.out)⟩⟩
              · rw [if_neg c8] at H
                exact absurd H (by simp)
            · rw [if_neg c7] at H
              exact absurd H (by simp)
          · rw [if_neg c6] at H
            have c6b0 : decide (x4_1 < (l0.length : Int)) = false := decide_eq_false c6
            clear c6
            obtain rfl := Option.some.inj H
            go_wp2
            go_ret
            exact ⟨_, by first | rfl | (simp [errW_none, errW_some] <;> rfl) | (simp [*, errW_none, errW_some] <;> rfl), by (with_reducible repeat (first | apply Kd.R_alloc | apply Kd.R_drewN | apply Kd.R_drew)); exact HO_3.out, by repeat (first | (with_reducible first | exact HB.out | apply below_alloc | apply pw_below_drewN | apply below_drew1) | exact HB.out)⟩
    · rw [if_neg c3] at H
      exact absurd H (by simp)
  · rw [if_neg c2] at H
    exact absurd H (by simp)

/-! ### laws_toRule: function 171 -/
def laws_toRule.f (k : Nat) (a0_0 : Int) (a0_1 : ByteArray) (l0_2 : List ByteArray) : Option (Int × ByteArray × List ByteArray) := (laws_toStringS.f k l0_2).bind fun t134 => (some (a0_0, a0_1, t134))
theorem laws_toRule.mono : ∀ a0 a1 a2 k, LeO (laws_toRule.f k a0 a1 a2) (laws_toRule.f (k + 1) a0 a1 a2) := by
  intro a0 a1 a2 k
  unfold laws_toRule.f
  repeat' first
      | (with_reducible exact laws_toStringS.mono _ _)
      | (with_reducible exact LeO.refl _)
      | (with_reducible exact LeO.none _)
      | (with_reducible refine LeO.ite ?_ ?_)
      | (with_reducible refine LeO.bind ?_ (fun _ => ?_))
      | exact laws_toStringS.mono _ _
      | exact LeO.none _
      | refine LeO.ite ?_ ?_
      | refine LeO.bind ?_ (fun _ => ?_)
set_option maxHeartbeats 8000000 in
set_option maxRecDepth 100000 in
theorem laws_toRule.calls (k : Nat) (a0_0 : Int) (a0_1 : ByteArray) (A0_2 : Option Addr) (c0_2 : Nat) (l0_2 : List ByteArray) (r1 : Int) (r2 : ByteArray) (r3 : List ByteArray) (w : World) (hr0_2 : Kd.C Kd.string w A0_2 l0_2.length l0_2) (hc0_2 : l0_2.length ≤ c0_2) (h : laws_toRule.f k a0_0 a0_1 l0_2 = some (r1, r2, r3)) :
    Calls Try.prog 171 #[.agg #[.int .i64 a0_0, .string a0_1, .slice A0_2 l0_2.length c0_2]] w fun e w' => ∃ v2_ : Value, e = .returned (.agg #[.int .i64 r1, .string r2, v2_]) ∧ Kd.R Kd.string 9 w' w.heap.size (fun _ => True) v2_ r3 ∧ Below w.heap.size w w' := by
  have hu153 := Try.underlying153
  have hu155 := Try.underlying155
  have HR0_2 := Aside0.mk hr0_2
  have HC0_2 := Aside0.mk hc0_2
  clear hr0_2 hc0_2
  have HB := Aside0.mk (Below.refl w.heap.size w)
  have H : ((laws_toStringS.f k l0_2).bind fun t134 => (some (a0_0, a0_1, t134))) = some (r1, r2, r3) := h
  clear h
  replace H := Option.bind_eq_some_iff.mp H
  obtain ⟨t134, A20, H⟩ := H
  replace H : (some (a0_0, a0_1, t134)) = some (r1, r2, r3) := H
  have A2 := Aside0.mk A20
  clear A20
  simp only [Option.some.injEq, Prod.mk.injEq] at H
  obtain ⟨rfl, rfl, rfl⟩ := H
  go_enter Try.func171, Try.ntmps171
  go_wp2_with (first | ((with_reducible refine gate_dst (N := 1) rfl ?_); refine box_event ?hg (N := 1) ?hd (cs := #[.int .i64 a0_0, .string a0_1, .slice A0_2 l0_2.length c0_2]) (t := 153) ?hr ?_; (case hd => rfl); (case hg => rfl); (case hr => first | (go_simp; done) | (go_simp; rfl) | ((first | (obtain ⟨_, _, rfl⟩ := Kd.R_slice HO136.out) | (obtain ⟨_, _, rfl⟩ := Kd.S_slice HO136.out) | skip); first | (go_simp; done) | (go_simp; rfl))); intro gb131 hg w3 hbox hb; have n0_ := Aside0.mk (below_step (by repeat (first | (with_reducible first | exact HB.out | apply below_alloc | apply pw_below_drewN | apply below_drew1) | exact HB.out)) hb); have n1_ := Aside0.mk (hbox); have n2_ := Aside0.mk ((by rw [hg]; exact (below_size (by repeat (first | (with_reducible first | exact HB.out | apply below_alloc | apply pw_below_drewN | apply below_drew1) | exact HB.out))) : w.heap.size ≤ gb131)); have n3_ := Aside0.mk ((by rw [hg]; exact (below_size (by repeat (first | (with_reducible first | exact HB.out | apply below_alloc | apply pw_below_drewN | apply below_drew1) | exact HB.out))) : w.heap.size ≤ gb131)); clear HB; have HB := n0_; have BK131 := n1_; have GW131 := n2_; have GE131 := n3_; clear n0_ n1_ n2_ n3_; clear hb hbox hg) | ((with_reducible refine gate_dst (N := 2) rfl ?_); refine box_event ?hg (N := 2) ?hd (cs := #[.int .i64 0, .string (⟨#[]⟩ : ByteArray), .slice none 0 0]) (t := 155) ?hr ?_; (case hd => rfl); (case hg => rfl); (case hr => first | (go_simp; done) | (go_simp; rfl) | ((first | (obtain ⟨_, _, rfl⟩ := Kd.R_slice HO136.out) | (obtain ⟨_, _, rfl⟩ := Kd.S_slice HO136.out) | skip); first | (go_simp; done) | (go_simp; rfl))); intro gb132 hg w4 hbox hb; have n0_ := Aside0.mk (blk_below (g := gb131) (o := .cells #[.int .i64 a0_0, .string a0_1, .slice A0_2 l0_2.length c0_2] 153 (0, 0)) (by (with_reducible repeat (first | refine blk_drewN ?_ _ | refine blk_drew ?_ | refine blk_alloc ?_ _)); exact BK131.out) hb); have n1_ := Aside0.mk (below_step (by repeat (first | (with_reducible first | exact HB.out | apply below_alloc | apply pw_below_drewN | apply below_drew1 | refine below_set ?_ GE131.out) | exact HB.out)) hb); have n2_ := Aside0.mk (hbox); have n3_ := Aside0.mk ((by rw [hg]; exact (below_size (by repeat (first | (with_reducible first | exact HB.out | apply below_alloc | apply pw_below_drewN | apply below_drew1 | refine below_set ?_ GE131.out) | exact HB.out))) : w.heap.size ≤ gb132)); have n4_ := Aside0.mk ((by rw [hg]; exact (below_size (by repeat (first | (with_reducible first | exact HB.out | apply below_alloc | apply pw_below_drewN | apply below_drew1 | refine below_set ?_ GE131.out) | exact HB.out))) : w.heap.size ≤ gb132)); have n5_ := Aside0.mk ((by rw [hg]; exact Nat.ne_of_lt (blk_lt (g := gb131) (o := .cells #[.int .i64 a0_0, .string a0_1, .slice A0_2 l0_2.length c0_2] 153 (0, 0)) (by (with_reducible repeat (first | refine blk_drewN ?_ _ | refine blk_drew ?_ | refine blk_alloc ?_ _)); exact BK131.out)) : gb131 ≠ gb132)); have n6_ := Aside0.mk ((by rw [hg]; exact Nat.ne_of_gt (blk_lt (g := gb131) (o := .cells #[.int .i64 a0_0, .string a0_1, .slice A0_2 l0_2.length c0_2] 153 (0, 0)) (by (with_reducible repeat (first | refine blk_drewN ?_ _ | refine blk_drew ?_ | refine blk_alloc ?_ _)); exact BK131.out)) : gb132 ≠ gb131)); clear BK131; clear HB; have BK131 := n0_; have HB := n1_; have BK132 := n2_; have GW132 := n3_; have GE132 := n4_; have NB131_132 := n5_; have NB132_131 := n6_; clear n0_ n1_ n2_ n3_ n4_ n5_ n6_; clear hb hbox hg) | ((with_reducible refine gate_dst (N := 3) rfl ?_); refine box_event ?hg (N := 3) ?hd (cs := #[.int .i64 0, .string (⟨#[]⟩ : ByteArray), .slice none 0 0]) (t := 155) ?hr ?_; (case hd => rfl); (case hg => rfl); (case hr => first | (go_simp; done) | (go_simp; rfl) | ((first | (obtain ⟨_, _, rfl⟩ := Kd.R_slice HO136.out) | (obtain ⟨_, _, rfl⟩ := Kd.S_slice HO136.out) | skip); first | (go_simp; done) | (go_simp; rfl))); intro gb133 hg w5 hbox hb; have n0_ := Aside0.mk (blk_below (g := gb131) (o := .cells #[.int .i64 a0_0, .string a0_1, .slice A0_2 l0_2.length c0_2] 153 (0, 0)) (by (with_reducible repeat (first | refine blk_drewN ?_ _ | refine blk_drew ?_ | refine blk_alloc ?_ _)); exact BK131.out) hb); have n1_ := Aside0.mk (blk_below (g := gb132) (o := .cells #[.int .i64 0, .string (⟨#[]⟩ : ByteArray), .slice none 0 0] 155 (0, 0)) (by (with_reducible repeat (first | refine blk_drewN ?_ _ | refine blk_drew ?_ | refine blk_alloc ?_ _)); exact BK132.out) hb); have n2_ := Aside0.mk (below_step (by repeat (first | (with_reducible first | exact HB.out | apply below_alloc | apply pw_below_drewN | apply below_drew1 | refine below_set ?_ GE131.out | refine below_set ?_ GE132.out) | exact HB.out)) hb); have n3_ := Aside0.mk (hbox); have n4_ := Aside0.mk ((by rw [hg]; exact (below_size (by repeat (first | (with_reducible first | exact HB.out | apply below_alloc | apply pw_below_drewN | apply below_drew1 | refine below_set ?_ GE131.out | refine below_set ?_ GE132.out) | exact HB.out))) : w.heap.size ≤ gb133)); have n5_ := Aside0.mk ((by rw [hg]; exact (below_size (by repeat (first | (with_reducible first | exact HB.out | apply below_alloc | apply pw_below_drewN | apply below_drew1 | refine below_set ?_ GE131.out | refine below_set ?_ GE132.out) | exact HB.out))) : w.heap.size ≤ gb133)); have n6_ := Aside0.mk ((by rw [hg]; exact Nat.ne_of_lt (blk_lt (g := gb131) (o := .cells #[.int .i64 a0_0, .string a0_1, .slice A0_2 l0_2.length c0_2] 153 (0, 0)) (by (with_reducible repeat (first | refine blk_drewN ?_ _ | refine blk_drew ?_ | refine blk_alloc ?_ _)); exact BK131.out)) : gb131 ≠ gb133)); have n7_ := Aside0.mk ((by rw [hg]; exact Nat.ne_of_gt (blk_lt (g := gb131) (o := .cells #[.int .i64 a0_0, .string a0_1, .slice A0_2 l0_2.length c0_2] 153 (0, 0)) (by (with_reducible repeat (first | refine blk_drewN ?_ _ | refine blk_drew ?_ | refine blk_alloc ?_ _)); exact BK131.out)) : gb133 ≠ gb131)); have n8_ := Aside0.mk ((by rw [hg]; exact Nat.ne_of_lt (blk_lt (g := gb132) (o := .cells #[.int .i64 0, .string (⟨#[]⟩ : ByteArray), .slice none 0 0] 155 (0, 0)) (by (with_reducible repeat (first | refine blk_drewN ?_ _ | refine blk_drew ?_ | refine blk_alloc ?_ _)); exact BK132.out)) : gb132 ≠ gb133)); have n9_ := Aside0.mk ((by rw [hg]; exact Nat.ne_of_gt (blk_lt (g := gb132) (o := .cells #[.int .i64 0, .string (⟨#[]⟩ : ByteArray), .slice none 0 0] 155 (0, 0)) (by (with_reducible repeat (first | refine blk_drewN ?_ _ | refine blk_drew ?_ | refine blk_alloc ?_ _)); exact BK132.out)) : gb133 ≠ gb132)); clear BK131; clear BK132; clear HB; have BK131 := n0_; have BK132 := n1_; have HB := n2_; have BK133 := n3_; have GW133 := n4_; have GE133 := n5_; have NB131_133 := n6_; have NB133_131 := n7_; have NB132_133 := n8_; have NB133_132 := n9_; clear n0_ n1_ n2_ n3_ n4_ n5_ n6_ n7_ n8_ n9_; clear hb hbox hg; have hnb6 := NB131_132.out; have hnc6 := NB132_131.out; have hnb7 := NB131_133.out; have hnc7 := NB133_131.out; have hcz8_0 : w5.cell? ⟨gb131, 0, none⟩ = some (.int .i64 a0_0) := (blk_cell BK131.out 0).trans rfl; have hcz8_1 : w5.cell? ⟨gb131, 1, none⟩ = some (.string a0_1) := (blk_cell BK131.out 1).trans rfl; have hcz8_2 : w5.cell? ⟨gb131, 2, none⟩ = some (.slice A0_2 l0_2.length c0_2) := (blk_cell BK131.out 2).trans rfl; have hfz8_0 := blk_frozen BK131.out 0; have hfz8_1 := blk_frozen BK131.out 1; have hfz8_2 := blk_frozen BK131.out 2; have hnb9 := NB133_132.out; have hnc9 := NB132_133.out; have hcz10_0 : w5.cell? ⟨gb133, 0, none⟩ = some (.int .i64 0) := (blk_cell BK133.out 0).trans rfl; have hcz10_1 : w5.cell? ⟨gb133, 1, none⟩ = some (.string (⟨#[]⟩ : ByteArray)) := (blk_cell BK133.out 1).trans rfl; have hcz10_2 : w5.cell? ⟨gb133, 2, none⟩ = some (.slice none 0 0) := (blk_cell BK133.out 2).trans rfl; have hfz10_0 := blk_frozen BK133.out 0; have hfz10_1 := blk_frozen BK133.out 1; have hfz10_2 := blk_frozen BK133.out 2) | ((with_reducible refine gate_callee (f := 128) rfl ?_); refine goesL_ (some 12) rfl rfl Try.func128 (by kernel_rfl) rfl #[.slice A0_2 l0_2.length c0_2] rfl (by (try simp only [List.map_toArray, List.map_cons, List.map_nil]); first | done | rfl | (simp only [List.length_drop, List.length_take]; rfl)) ?_; (with_reducible refine (laws_toStringS.calls k _ _ l0_2 t134 _ ?side1 ?side2 A2.out).mono ?_); (case side1 => exact Kd.C_below HR0_2.out (by repeat (first | (with_reducible first | exact HB.out | apply below_alloc | apply pw_below_drewN | apply below_drew1 | refine below_set ?_ GE131.out | refine below_set ?_ GE132.out | refine below_set ?_ GE133.out) | exact HB.out))); (case side2 => exact HC0_2.out); rintro e w11 ⟨v135, rfl, ho0, hb⟩; refine ⟨_, rfl, ?_⟩; have n0_ := Aside0.mk (Kd.R_lower ho0 (below_size (by repeat (first | (with_reducible first | exact HB.out | apply below_alloc | apply pw_below_drewN | apply below_drew1 | refine below_set ?_ GE131.out | refine below_set ?_ GE132.out | refine below_set ?_ GE133.out) | exact HB.out)))); have n1_ := Aside0.mk (blk_below (g := gb131) (o := .cells #[.int .i64 a0_0, .string a0_1, .slice A0_2 l0_2.length c0_2] 153 (0, 0)) (by (with_reducible repeat (first | refine blk_drewN ?_ _ | refine blk_drew ?_ | refine blk_alloc ?_ _)); refine blk_far ?_ NB131_133.out _; (with_reducible repeat (first | refine blk_drewN ?_ _ | refine blk_drew ?_ | refine blk_alloc ?_ _)); refine blk_far ?_ NB131_133.out _; (with_reducible repeat (first | refine blk_drewN ?_ _ | refine blk_drew ?_ | refine blk_alloc ?_ _)); exact BK131.out) hb); have n2_ := Aside0.mk (blk_below (g := gb132) (o := .cells #[.int .i64 0, .string (⟨#[]⟩ : ByteArray), .slice none 0 0] 155 (0, 0)) (by (with_reducible repeat (first | refine blk_drewN ?_ _ | refine blk_drew ?_ | refine blk_alloc ?_ _)); refine blk_far ?_ NB132_133.out _; (with_reducible repeat (first | refine blk_drewN ?_ _ | refine blk_drew ?_ | refine blk_alloc ?_ _)); refine blk_far ?_ NB132_133.out _; (with_reducible repeat (first | refine blk_drewN ?_ _ | refine blk_drew ?_ | refine blk_alloc ?_ _)); exact BK132.out) hb); have n3_ := Aside0.mk (blk_below (g := gb133) (o := .cells #[.int .i64 a0_0, .string a0_1, .slice none 0 0] 155 (0, 0)) (by (with_reducible repeat (first | refine blk_drewN ?_ _ | refine blk_drew ?_ | refine blk_alloc ?_ _)); refine blk_put (cs := #[.int .i64 a0_0, .string (⟨#[]⟩ : ByteArray), .slice none 0 0]) ?_ 1 _ rfl; (with_reducible repeat (first | refine blk_drewN ?_ _ | refine blk_drew ?_ | refine blk_alloc ?_ _)); refine blk_put (cs := #[.int .i64 0, .string (⟨#[]⟩ : ByteArray), .slice none 0 0]) ?_ 0 _ rfl; (with_reducible repeat (first | refine blk_drewN ?_ _ | refine blk_drew ?_ | refine blk_alloc ?_ _)); exact BK133.out) hb); have n4_ := Aside0.mk (below_step (by repeat (first | (with_reducible first | exact HB.out | apply below_alloc | apply pw_below_drewN | apply below_drew1 | refine below_set ?_ GE131.out | refine below_set ?_ GE132.out | refine below_set ?_ GE133.out) | exact HB.out)) hb); clear BK131; clear BK132; clear BK133; clear HB; have HO136 := n0_; have BK131 := n1_; have BK132 := n2_; have BK133 := n3_; have HB := n4_; clear n0_ n1_ n2_ n3_ n4_; (try clear hb); (try clear hb2); (try clear hk); (try clear hi); (try clear ho0); obtain ⟨Ao12, co12, eo12⟩ := Kd.R_slice HO136.out; subst eo12; have hcz13_0 : w11.cell? ⟨gb133, 0, none⟩ = some (.int .i64 a0_0) := (blk_cell BK133.out 0).trans rfl; have hcz13_1 : w11.cell? ⟨gb133, 1, none⟩ = some (.string a0_1) := (blk_cell BK133.out 1).trans rfl; have hcz13_2 : w11.cell? ⟨gb133, 2, none⟩ = some (.slice none 0 0) := (blk_cell BK133.out 2).trans rfl; have hfz13_0 := blk_frozen BK133.out 0; have hfz13_1 := blk_frozen BK133.out 1; have hfz13_2 := blk_frozen BK133.out 2; have hcz14_0 : w11.cell? ⟨gb132, 0, none⟩ = some (.int .i64 0) := (blk_cell BK132.out 0).trans rfl; have hcz14_1 : w11.cell? ⟨gb132, 1, none⟩ = some (.string (⟨#[]⟩ : ByteArray)) := (blk_cell BK132.out 1).trans rfl; have hcz14_2 : w11.cell? ⟨gb132, 2, none⟩ = some (.slice none 0 0) := (blk_cell BK132.out 2).trans rfl; have hfz14_0 := blk_frozen BK132.out 0; have hfz14_1 := blk_frozen BK132.out 1; have hfz14_2 := blk_frozen BK132.out 2))
  refine bodyPost_ret (results_cell_row rfl _ _ gb132 155 #[.int .i64 a0_0, .string a0_1, .slice Ao12 t134.length co12] (0, 0) _ rfl (by (with_reducible repeat (first | refine blk_drewN ?_ _ | refine blk_drew ?_ | refine blk_alloc ?_ _)); refine blk_put (cs := #[.int .i64 a0_0, .string a0_1, .slice none 0 0]) ?_ 2 _ rfl; (with_reducible repeat (first | refine blk_drewN ?_ _ | refine blk_drew ?_ | refine blk_alloc ?_ _)); refine blk_put (cs := #[.int .i64 a0_0, .string (⟨#[]⟩ : ByteArray), .slice none 0 0]) ?_ 1 _ rfl; (with_reducible repeat (first | refine blk_drewN ?_ _ | refine blk_drew ?_ | refine blk_alloc ?_ _)); refine blk_put (cs := #[.int .i64 0, .string (⟨#[]⟩ : ByteArray), .slice none 0 0]) ?_ 0 _ rfl; (with_reducible repeat (first | refine blk_drewN ?_ _ | refine blk_drew ?_ | refine blk_alloc ?_ _)); refine blk_far ?_ NB132_133.out _; (with_reducible repeat (first | refine blk_drewN ?_ _ | refine blk_drew ?_ | refine blk_alloc ?_ _)); exact BK132.out) Try.underlying155 rfl (by kernel_rfl)) rfl ?_
  exact ⟨_, by first | rfl | (simp [errW_none, errW_some] <;> rfl) | (simp [*, errW_none, errW_some] <;> rfl), by (with_reducible repeat (first | apply Kd.R_alloc | apply Kd.R_drewN | apply Kd.R_drew)); exact Kd.R_mono (Kd.R_far (p := ⟨gb132, 2, none⟩) (Kd.R_far (p := ⟨gb132, 1, none⟩) (Kd.R_far (p := ⟨gb132, 0, none⟩) (Kd.R_far (p := ⟨gb133, 2, none⟩) (Kd.R_types (Kd.R_types HO136.out BK133.out (by decide)) BK132.out (by decide)) (fun _ hk => hk.1.2) (.slice Ao12 t134.length co12)) (fun _ hk => hk.2) (.int .i64 a0_0)) (fun _ hk => hk.2) (.string a0_1)) (fun _ hk => hk.2) (.slice Ao12 t134.length co12)) (fun _ hk => trivial), by repeat (first | (with_reducible first | exact HB.out | apply below_alloc | apply pw_below_drewN | apply below_drew1 | refine below_set ?_ GE131.out | refine below_set ?_ GE132.out | refine below_set ?_ GE133.out) | exact HB.out)⟩

end Go.Proofs.Ytophaihdibplkaa.PFnExactCheckConfig
