/- By a program of this session, out of the kit's print and contracts made by hand: the machine side of a law; Lean checks it. No conditions. -/
import Derived.Test.YtaimaagpfppggaaPFnExactUnwrapsx0
import Derived.Test.YtaimaagpfppggaaPFnExactUnwrapsx3
import Derived.Test.YtaimaagpfppggaaPFnExactUnwrapsx9
import Derived.Test.YtaimaagpfppggaaPFnExactUnwrapsx10
namespace Go.Proofs.Ytaimaagpfppggaa.PFnExactUnwraps
open Go.RowKit Go.Proofs.YtaimaagpfppggaaW.PrintWords Go.Proofs.YtaimaagpfppggaaW.PrintLast Go.Proofs.YtaimaagpfppggaaW.PrintMore
attribute [local go_sem] max2_int min2_int max_two min_two max_three min_three max_four min_four   -- for this text's walks alone
set_option linter.unusedVariables false
set_option linter.unusedSimpArgs false

/-! ### impl_Config_isAgainst: function 57, by hand -/
-- also 52
-- also 47
/-- The lists and the switches of a configuration go against each other. -/
def contraB (h0 h1 : Bool) (allow remove : List S63) (attrs drop : List ByteArray) (data : Bool) : Bool :=
  (!h0 && decide (0 < allow.length)) || (h0 && decide (0 < remove.length)) || (!h1 && (decide (0 < attrs.length) || data)) || (h1 && decide (0 < drop.length))
def againstB (h0 h1 : Bool) (allow remove unwrap : List S63) (attrs drop : List ByteArray) (data : Bool) : Bool :=
  contraB h0 h1 allow remove attrs drop data || (unwrap.any (isIn allow) || unwrap.any (isIn remove) || (!h1 && allow.any hasAttr)) || allow.any fun x => x.f2.any fun n => Kit.hasT attrs n
def impl_Config_isAgainst.f (a0_0 a0_1 : Bool) (l0_2 l0_3 l0_4 : List S63) (l0_5 l0_6 : List ByteArray) (_a0_7 a0_8 : Bool) : Option Bool := some (againstB a0_0 a0_1 l0_2 l0_3 l0_4 l0_5 l0_6 a0_8)
theorem impl_Config_isAgainst.lit1 (n : ByteArray) (A5 : Option Addr) (c5 : Nat) (l5 : List ByteArray) (B : Nat) (w : World) (h0 : w.cell? ⟨B, 5, none⟩ = some (.slice A5 l5.length c5)) (hr : Kd.C Kd.string w A5 l5.length l5) (hc : l5.length ≤ c5) :
    Calls Try.prog 74 #[.string n, .pointer (some ⟨B, 0, none⟩)] w fun e w' => e = .returned (.bool (Kit.hasT l5 n)) ∧ Below w.heap.size w w' := by
  have q := slices_Contains_string_string.pure A5 c5 l5 n w hr hc
  clear hr hc
  generalize Kit.hasT l5 n = R at *
  generalize l5.length = n5 at *
  go_enter Try.func74, Try.ntmps74
  go_wp2_with (go_at_call 47; (with_reducible refine q.mono ?_); rintro e w' ⟨rfl, ⟨nd, rfl⟩⟩)
  go_ret
  exact ⟨rfl, pw_below_drewN (Below.refl _ _) _⟩
theorem impl_Config_isAgainst.lit2 (f0 : Int) (f1 : ByteArray) (A2 : Option Addr) (c2 : Nat) (l2 : List ByteArray) (A5 : Option Addr) (c5 : Nat) (l5 : List ByteArray) (B : Nat) (w : World) (h0 : w.cell? ⟨B, 5, none⟩ = some (.slice A5 l5.length c5)) (hr : Kd.C Kd.string w A5 l5.length l5) (hc : l5.length ≤ c5) (hr2 : Kd.C Kd.string w A2 l2.length l2) (hc2 : l2.length ≤ c2) :
    Calls Try.prog 73 #[.agg #[.int .i64 f0, .string f1, .slice A2 l2.length c2], .pointer (some ⟨B, 0, none⟩)] w fun e w' => e = .returned (.bool (l2.any fun n => Kit.hasT l5 n)) ∧ Below w.heap.size w w' := by
  have hb := below_alloc (Below.refl w.heap.size w) (.cells #[.int .i64 f0, .string f1, .slice A2 l2.length c2] 63)
  have q := ContainsFunc_string.holds A2 l2.length c2 (fun j => .string (l2.getD j ByteArray.empty)) (fun j => Kit.hasT l5 (l2.getD j ByteArray.empty)) 74 #[.pointer (some ⟨B, 0, none⟩)] (Mach.enters_of Try.func74 (by kernel_rfl) rfl) (w.alloc (.cells #[.int .i64 f0, .string f1, .slice A2 l2.length c2] 63))
    (fun j _ W hb2 => (impl_Config_isAgainst.lit1 _ A5 c5 l5 B W (pw_cell_below hb2 (pw_cell_below hb h0)) (Kd.C_below (Kd.C_below hr hb) hb2) hc).mono fun e w' ⟨he, hb'⟩ => ⟨he, hb2.trans (hb'.mono hb2.size)⟩) hr2.2.1
    (fun j hj => by
      obtain ⟨ad, e, hx⟩ := Kd.at_string hr2 (j : Int) (by omega) (by omega)
      rw [Kit.rdOf_nat, Int.toNat_natCast] at hx
      exact ⟨ad, e, pw_cell_below hb hx⟩)
  rw [Mach.anyP_list (fun n => Kit.hasT l5 n)] at q
  have HB := Aside0.mk hb
  clear hb hr hc hr2 hc2
  generalize (l2.any fun n => Kit.hasT l5 n) = R at *
  generalize l2.length = n2 at *
  go_enter Try.func73, Try.ntmps73
  go_wp2_with (go_at_call 52; (with_reducible refine q.mono ?_); rintro e w' ⟨rfl, hb'⟩)
  go_ret
  exact ⟨rfl, HB.out.trans (hb'.mono HB.out.size)⟩
theorem impl_Config_isAgainst.lit3 (A0 : Option Addr) (c0 : Nat) (l0 : List S63) (A5 : Option Addr) (c5 : Nat) (l5 : List ByteArray) (B : Nat) (w : World) (h0 : w.cell? ⟨B, 5, none⟩ = some (.slice A5 l5.length c5)) (hr : Kd.C Kd.string w A5 l5.length l5) (hc : l5.length ≤ c5) (hr0 : Kd.C k63 w A0 l0.length l0) :
    Calls Try.prog 70 #[.slice A0 l0.length c0, .func (.func 73) #[] #[.pointer (some ⟨B, 0, none⟩)]] w fun e w' => e = .returned (.bool (l0.any fun x => x.f2.any fun n => Kit.hasT l5 n)) ∧ Below w.heap.size w w' := by
  obtain ⟨F, hF⟩ := ruleCells A0 l0 w hr0
  have q := ContainsFunc_Rule.holds A0 l0.length c0 (fun j => [.int .i64 (l0.getD j z63).f0, .string (l0.getD j z63).f1, .slice (F j).1 (l0.getD j z63).f2.length (F j).2]) (fun j => (l0.getD j z63).f2.any fun n => Kit.hasT l5 n) 73 #[.pointer (some ⟨B, 0, none⟩)] (Mach.enters_of Try.func73 (by kernel_rfl) rfl) w
      (fun j hj V hb2 => by
        obtain ⟨_, h1, h2⟩ := hF j hj
        exact (impl_Config_isAgainst.lit2 _ _ _ _ _ A5 c5 l5 B V (pw_cell_below hb2 h0) (Kd.C_below hr hb2) hc (Kd.C_below h2 hb2) h1).mono fun e w' ⟨he, hb'⟩ => ⟨he, hb2.trans (hb'.mono hb2.size)⟩) hr0.2.1
      (fun j hj => by
        obtain ⟨⟨ad, e, hc⟩, _⟩ := hF j hj
        exact ⟨ad, e, rfl, hc⟩)
  rw [Mach.anyP_list (fun x : S63 => x.f2.any fun n => Kit.hasT l5 n)] at q
  exact q
set_option maxHeartbeats 4000000 in
theorem impl_Config_isAgainst.calls (a0_0 a0_1 : Bool) (A0_2 : Option Addr) (c0_2 : Nat) (l0_2 : List (S63)) (A0_3 : Option Addr) (c0_3 : Nat) (l0_3 : List (S63)) (A0_4 : Option Addr) (c0_4 : Nat) (l0_4 : List (S63)) (A0_5 : Option Addr) (c0_5 : Nat) (l0_5 : List ByteArray) (A0_6 : Option Addr) (c0_6 : Nat) (l0_6 : List ByteArray) (a0_7 : Bool) (a0_8 : Bool) (r : Bool) (w : World) (hr0_2 : Kd.C k63 w A0_2 l0_2.length l0_2) (hc0_2 : l0_2.length ≤ c0_2) (hr0_3 : Kd.C k63 w A0_3 l0_3.length l0_3) (hc0_3 : l0_3.length ≤ c0_3) (hr0_4 : Kd.C k63 w A0_4 l0_4.length l0_4) (hc0_4 : l0_4.length ≤ c0_4) (hr0_5 : Kd.C Kd.string w A0_5 l0_5.length l0_5) (hc0_5 : l0_5.length ≤ c0_5) (hr0_6 : Kd.C Kd.string w A0_6 l0_6.length l0_6) (hc0_6 : l0_6.length ≤ c0_6) (h : impl_Config_isAgainst.f a0_0 a0_1 l0_2 l0_3 l0_4 l0_5 l0_6 a0_7 a0_8 = some r) :
    Calls Try.prog 57 #[.agg #[.bool a0_0, .bool a0_1, .slice A0_2 l0_2.length c0_2, .slice A0_3 l0_3.length c0_3, .slice A0_4 l0_4.length c0_4, .slice A0_5 l0_5.length c0_5, .slice A0_6 l0_6.length c0_6, .bool a0_7, .bool a0_8]] w fun e w' => e = .returned (.bool r) ∧ Below w.heap.size w w' := by
  obtain rfl := Option.some.inj h
  -- WALK
  have CS : Aside0 (∀ i v, (#[.bool a0_0, .bool a0_1, .slice A0_2 l0_2.length c0_2, .slice A0_3 l0_3.length c0_3, .slice A0_4 l0_4.length c0_4, .slice A0_5 l0_5.length c0_5, .slice A0_6 l0_6.length c0_6, .bool a0_7, .bool a0_8] : Array Value)[i]? = some v → (w.alloc (.cells #[.bool a0_0, .bool a0_1, .slice A0_2 l0_2.length c0_2, .slice A0_3 l0_3.length c0_3, .slice A0_4 l0_4.length c0_4, .slice A0_5 l0_5.length c0_5, .slice A0_6 l0_6.length c0_6, .bool a0_7, .bool a0_8] 31)).cell? ⟨w.heap.size, i, none⟩ = some v) := ⟨fun i v h => Mach.new_cell w _ _ i v h⟩
  have HB := Aside0.mk (below_alloc (Below.refl w.heap.size w) (.cells #[.bool a0_0, .bool a0_1, .slice A0_2 l0_2.length c0_2, .slice A0_3 l0_3.length c0_3, .slice A0_4 l0_4.length c0_4, .slice A0_5 l0_5.length c0_5, .slice A0_6 l0_6.length c0_6, .bool a0_7, .bool a0_8] 31))
  have Q1 : Aside0 (∀ V, Below w.heap.size w V → Calls Try.prog 72 #[.slice A0_4 l0_4.length c0_4, .slice A0_2 l0_2.length c0_2] V fun e w' => e = .returned (.bool (l0_4.any (isIn l0_2))) ∧ Below V.heap.size V w') := ⟨fun V hV => impl_haveCommon.calls A0_4 c0_4 l0_4 A0_2 c0_2 l0_2 _ V (Kd.C_below hr0_4 hV) hc0_4 (Kd.C_below hr0_2 hV) hc0_2 rfl⟩
  have Q2 : Aside0 (∀ V, Below w.heap.size w V → Calls Try.prog 72 #[.slice A0_4 l0_4.length c0_4, .slice A0_3 l0_3.length c0_3] V fun e w' => e = .returned (.bool (l0_4.any (isIn l0_3))) ∧ Below V.heap.size V w') := ⟨fun V hV => impl_haveCommon.calls A0_4 c0_4 l0_4 A0_3 c0_3 l0_3 _ V (Kd.C_below hr0_4 hV) hc0_4 (Kd.C_below hr0_3 hV) hc0_3 rfl⟩
  have Q3 : Aside0 (∀ V, Below w.heap.size w V → Calls Try.prog 55 #[.slice A0_2 l0_2.length c0_2] V fun e w' => e = .returned (.bool (l0_2.any hasAttr)) ∧ Below V.heap.size V w') := ⟨fun V hV => impl_haveAttrs.calls A0_2 c0_2 l0_2 _ V (Kd.C_below hr0_2 hV) hc0_2 rfl⟩
  have Q4 : Aside0 (∀ V, Below w.heap.size w V → V.cell? ⟨w.heap.size, 5, none⟩ = some (.slice A0_5 l0_5.length c0_5) → Calls Try.prog 70 #[.slice A0_2 l0_2.length c0_2, .func (.func 73) #[] #[.pointer (some ⟨w.heap.size, 0, none⟩)]] V fun e w' => e = .returned (.bool (l0_2.any fun x => x.f2.any fun n => Kit.hasT l0_5 n)) ∧ Below V.heap.size V w') := ⟨fun V hV h5 => impl_Config_isAgainst.lit3 A0_2 c0_2 l0_2 A0_5 c0_5 l0_5 w.heap.size V h5 (Kd.C_below hr0_5 hV) hc0_5 (Kd.C_below hr0_2 hV)⟩
  unfold againstB contraB
  clear hr0_2 hr0_3 hr0_4 hr0_5 hr0_6 hc0_2 hc0_3 hc0_4 hc0_5 hc0_6
  generalize (l0_4.any (isIn l0_2)) = u1 at *
  generalize (l0_4.any (isIn l0_3)) = u2 at *
  generalize (l0_2.any hasAttr) = u3 at *
  generalize (l0_2.any fun x => x.f2.any fun n => Kit.hasT l0_5 n) = u4 at *
  generalize l0_2.length = n2 at *
  generalize l0_3.length = n3 at *
  generalize l0_4.length = n4 at *
  generalize l0_5.length = n5 at *
  generalize l0_6.length = n6 at *
  clear h
  cases a0_0 with
  | false =>
    by_cases z2 : (0 : Int) < (n2 : Int)
    · skip
      have d2 : decide (0 < n2) = true := decide_eq_true (by omega)
      rw [d2]
      clear d2
      go_enter Try.func57, Try.ntmps57
      go_wp2
      go_ret
      exact ⟨rfl, HB.out⟩
    · skip
      obtain rfl : n2 = 0 := by omega
      clear z2
      cases a0_1 with
      | false =>
        by_cases z5 : (0 : Int) < (n5 : Int)
        · skip
          have d5 : decide (0 < n5) = true := decide_eq_true (by omega)
          rw [d5]
          clear d5
          go_enter Try.func57, Try.ntmps57
          go_wp2
          go_ret
          exact ⟨rfl, HB.out⟩
        · skip
          obtain rfl : n5 = 0 := by omega
          clear z5
          cases a0_8 with
          | true =>
            go_enter Try.func57, Try.ntmps57
            go_wp2
            go_ret
            exact ⟨rfl, HB.out⟩
          | false =>
            cases u1 with
            | true =>
              go_enter Try.func57, Try.ntmps57
              go_wp2_with (first | (go_at_call 72; (with_reducible refine (Q1.out _ HB.out).mono ?_); rintro e w1 ⟨rfl, hb1⟩; have HB1 := Aside0.mk (HB.out.trans (hb1.mono HB.out.size)); have m11 := pw_cell_below hb1 (CS.out 1 _ rfl); have m12 := pw_cell_below hb1 (CS.out 2 _ rfl); have m13 := pw_cell_below hb1 (CS.out 3 _ rfl); have m14 := pw_cell_below hb1 (CS.out 4 _ rfl); have m15 := pw_cell_below hb1 (CS.out 5 _ rfl); clear hb1) | (go_at_call 72; (with_reducible refine (Q2.out _ HB1.out).mono ?_); rintro e w2 ⟨rfl, hb2⟩; have HB2 := Aside0.mk (HB1.out.trans (hb2.mono HB1.out.size)); have m21 := pw_cell_below hb2 (m11); have m22 := pw_cell_below hb2 (m12); have m23 := pw_cell_below hb2 (m13); have m24 := pw_cell_below hb2 (m14); have m25 := pw_cell_below hb2 (m15); clear hb2) | (go_at_call 55; (with_reducible refine (Q3.out _ HB2.out).mono ?_); rintro e w3 ⟨rfl, hb3⟩; have HB3 := Aside0.mk (HB2.out.trans (hb3.mono HB2.out.size)); have m31 := pw_cell_below hb3 (m21); have m32 := pw_cell_below hb3 (m22); have m33 := pw_cell_below hb3 (m23); have m34 := pw_cell_below hb3 (m24); have m35 := pw_cell_below hb3 (m25); clear hb3) | (go_at_call 70; have q4 := Q4.out _ HB2.out m25; (with_reducible refine q4.mono ?_); clear q4; rintro e w4 ⟨rfl, hb4⟩; have HB4 := Aside0.mk (HB2.out.trans (hb4.mono HB2.out.size)); clear hb4))
              go_ret
              exact ⟨rfl, HB1.out⟩
            | false =>
              cases u2 with
              | true =>
                go_enter Try.func57, Try.ntmps57
                go_wp2_with (first | (go_at_call 72; (with_reducible refine (Q1.out _ HB.out).mono ?_); rintro e w1 ⟨rfl, hb1⟩; have HB1 := Aside0.mk (HB.out.trans (hb1.mono HB.out.size)); have m11 := pw_cell_below hb1 (CS.out 1 _ rfl); have m12 := pw_cell_below hb1 (CS.out 2 _ rfl); have m13 := pw_cell_below hb1 (CS.out 3 _ rfl); have m14 := pw_cell_below hb1 (CS.out 4 _ rfl); have m15 := pw_cell_below hb1 (CS.out 5 _ rfl); clear hb1) | (go_at_call 72; (with_reducible refine (Q2.out _ HB1.out).mono ?_); rintro e w2 ⟨rfl, hb2⟩; have HB2 := Aside0.mk (HB1.out.trans (hb2.mono HB1.out.size)); have m21 := pw_cell_below hb2 (m11); have m22 := pw_cell_below hb2 (m12); have m23 := pw_cell_below hb2 (m13); have m24 := pw_cell_below hb2 (m14); have m25 := pw_cell_below hb2 (m15); clear hb2) | (go_at_call 55; (with_reducible refine (Q3.out _ HB2.out).mono ?_); rintro e w3 ⟨rfl, hb3⟩; have HB3 := Aside0.mk (HB2.out.trans (hb3.mono HB2.out.size)); have m31 := pw_cell_below hb3 (m21); have m32 := pw_cell_below hb3 (m22); have m33 := pw_cell_below hb3 (m23); have m34 := pw_cell_below hb3 (m24); have m35 := pw_cell_below hb3 (m25); clear hb3) | (go_at_call 70; have q4 := Q4.out _ HB2.out m25; (with_reducible refine q4.mono ?_); clear q4; rintro e w4 ⟨rfl, hb4⟩; have HB4 := Aside0.mk (HB2.out.trans (hb4.mono HB2.out.size)); clear hb4))
                go_ret
                exact ⟨rfl, HB2.out⟩
              | false =>
                cases u3 with
                | true =>
                  go_enter Try.func57, Try.ntmps57
                  go_wp2_with (first | (go_at_call 72; (with_reducible refine (Q1.out _ HB.out).mono ?_); rintro e w1 ⟨rfl, hb1⟩; have HB1 := Aside0.mk (HB.out.trans (hb1.mono HB.out.size)); have m11 := pw_cell_below hb1 (CS.out 1 _ rfl); have m12 := pw_cell_below hb1 (CS.out 2 _ rfl); have m13 := pw_cell_below hb1 (CS.out 3 _ rfl); have m14 := pw_cell_below hb1 (CS.out 4 _ rfl); have m15 := pw_cell_below hb1 (CS.out 5 _ rfl); clear hb1) | (go_at_call 72; (with_reducible refine (Q2.out _ HB1.out).mono ?_); rintro e w2 ⟨rfl, hb2⟩; have HB2 := Aside0.mk (HB1.out.trans (hb2.mono HB1.out.size)); have m21 := pw_cell_below hb2 (m11); have m22 := pw_cell_below hb2 (m12); have m23 := pw_cell_below hb2 (m13); have m24 := pw_cell_below hb2 (m14); have m25 := pw_cell_below hb2 (m15); clear hb2) | (go_at_call 55; (with_reducible refine (Q3.out _ HB2.out).mono ?_); rintro e w3 ⟨rfl, hb3⟩; have HB3 := Aside0.mk (HB2.out.trans (hb3.mono HB2.out.size)); have m31 := pw_cell_below hb3 (m21); have m32 := pw_cell_below hb3 (m22); have m33 := pw_cell_below hb3 (m23); have m34 := pw_cell_below hb3 (m24); have m35 := pw_cell_below hb3 (m25); clear hb3) | (go_at_call 70; have q4 := Q4.out _ HB2.out m25; (with_reducible refine q4.mono ?_); clear q4; rintro e w4 ⟨rfl, hb4⟩; have HB4 := Aside0.mk (HB2.out.trans (hb4.mono HB2.out.size)); clear hb4))
                  go_ret
                  exact ⟨rfl, HB3.out⟩
                | false =>
                  go_enter Try.func57, Try.ntmps57
                  go_wp2_with (first | (go_at_call 72; (with_reducible refine (Q1.out _ HB.out).mono ?_); rintro e w1 ⟨rfl, hb1⟩; have HB1 := Aside0.mk (HB.out.trans (hb1.mono HB.out.size)); have m11 := pw_cell_below hb1 (CS.out 1 _ rfl); have m12 := pw_cell_below hb1 (CS.out 2 _ rfl); have m13 := pw_cell_below hb1 (CS.out 3 _ rfl); have m14 := pw_cell_below hb1 (CS.out 4 _ rfl); have m15 := pw_cell_below hb1 (CS.out 5 _ rfl); clear hb1) | (go_at_call 72; (with_reducible refine (Q2.out _ HB1.out).mono ?_); rintro e w2 ⟨rfl, hb2⟩; have HB2 := Aside0.mk (HB1.out.trans (hb2.mono HB1.out.size)); have m21 := pw_cell_below hb2 (m11); have m22 := pw_cell_below hb2 (m12); have m23 := pw_cell_below hb2 (m13); have m24 := pw_cell_below hb2 (m14); have m25 := pw_cell_below hb2 (m15); clear hb2) | (go_at_call 55; (with_reducible refine (Q3.out _ HB2.out).mono ?_); rintro e w3 ⟨rfl, hb3⟩; have HB3 := Aside0.mk (HB2.out.trans (hb3.mono HB2.out.size)); have m31 := pw_cell_below hb3 (m21); have m32 := pw_cell_below hb3 (m22); have m33 := pw_cell_below hb3 (m23); have m34 := pw_cell_below hb3 (m24); have m35 := pw_cell_below hb3 (m25); clear hb3) | (go_at_call 70; have q4 := Q4.out _ HB3.out m35; (with_reducible refine q4.mono ?_); clear q4; rintro e w4 ⟨rfl, hb4⟩; have HB4 := Aside0.mk (HB3.out.trans (hb4.mono HB3.out.size)); clear hb4))
                  go_ret
                  exact ⟨rfl, HB4.out⟩
      | true =>
        by_cases z6 : (0 : Int) < (n6 : Int)
        · skip
          have d6 : decide (0 < n6) = true := decide_eq_true (by omega)
          rw [d6]
          clear d6
          go_enter Try.func57, Try.ntmps57
          go_wp2
          go_ret
          exact ⟨rfl, HB.out⟩
        · skip
          obtain rfl : n6 = 0 := by omega
          clear z6
          cases u1 with
          | true =>
            go_enter Try.func57, Try.ntmps57
            go_wp2_with (first | (go_at_call 72; (with_reducible refine (Q1.out _ HB.out).mono ?_); rintro e w1 ⟨rfl, hb1⟩; have HB1 := Aside0.mk (HB.out.trans (hb1.mono HB.out.size)); have m11 := pw_cell_below hb1 (CS.out 1 _ rfl); have m12 := pw_cell_below hb1 (CS.out 2 _ rfl); have m13 := pw_cell_below hb1 (CS.out 3 _ rfl); have m14 := pw_cell_below hb1 (CS.out 4 _ rfl); have m15 := pw_cell_below hb1 (CS.out 5 _ rfl); clear hb1) | (go_at_call 72; (with_reducible refine (Q2.out _ HB1.out).mono ?_); rintro e w2 ⟨rfl, hb2⟩; have HB2 := Aside0.mk (HB1.out.trans (hb2.mono HB1.out.size)); have m21 := pw_cell_below hb2 (m11); have m22 := pw_cell_below hb2 (m12); have m23 := pw_cell_below hb2 (m13); have m24 := pw_cell_below hb2 (m14); have m25 := pw_cell_below hb2 (m15); clear hb2) | (go_at_call 55; (with_reducible refine (Q3.out _ HB2.out).mono ?_); rintro e w3 ⟨rfl, hb3⟩; have HB3 := Aside0.mk (HB2.out.trans (hb3.mono HB2.out.size)); have m31 := pw_cell_below hb3 (m21); have m32 := pw_cell_below hb3 (m22); have m33 := pw_cell_below hb3 (m23); have m34 := pw_cell_below hb3 (m24); have m35 := pw_cell_below hb3 (m25); clear hb3) | (go_at_call 70; have q4 := Q4.out _ HB2.out m25; (with_reducible refine q4.mono ?_); clear q4; rintro e w4 ⟨rfl, hb4⟩; have HB4 := Aside0.mk (HB2.out.trans (hb4.mono HB2.out.size)); clear hb4))
            go_ret
            exact ⟨rfl, HB1.out⟩
          | false =>
            cases u2 with
            | true =>
              go_enter Try.func57, Try.ntmps57
              go_wp2_with (first | (go_at_call 72; (with_reducible refine (Q1.out _ HB.out).mono ?_); rintro e w1 ⟨rfl, hb1⟩; have HB1 := Aside0.mk (HB.out.trans (hb1.mono HB.out.size)); have m11 := pw_cell_below hb1 (CS.out 1 _ rfl); have m12 := pw_cell_below hb1 (CS.out 2 _ rfl); have m13 := pw_cell_below hb1 (CS.out 3 _ rfl); have m14 := pw_cell_below hb1 (CS.out 4 _ rfl); have m15 := pw_cell_below hb1 (CS.out 5 _ rfl); clear hb1) | (go_at_call 72; (with_reducible refine (Q2.out _ HB1.out).mono ?_); rintro e w2 ⟨rfl, hb2⟩; have HB2 := Aside0.mk (HB1.out.trans (hb2.mono HB1.out.size)); have m21 := pw_cell_below hb2 (m11); have m22 := pw_cell_below hb2 (m12); have m23 := pw_cell_below hb2 (m13); have m24 := pw_cell_below hb2 (m14); have m25 := pw_cell_below hb2 (m15); clear hb2) | (go_at_call 55; (with_reducible refine (Q3.out _ HB2.out).mono ?_); rintro e w3 ⟨rfl, hb3⟩; have HB3 := Aside0.mk (HB2.out.trans (hb3.mono HB2.out.size)); have m31 := pw_cell_below hb3 (m21); have m32 := pw_cell_below hb3 (m22); have m33 := pw_cell_below hb3 (m23); have m34 := pw_cell_below hb3 (m24); have m35 := pw_cell_below hb3 (m25); clear hb3) | (go_at_call 70; have q4 := Q4.out _ HB2.out m25; (with_reducible refine q4.mono ?_); clear q4; rintro e w4 ⟨rfl, hb4⟩; have HB4 := Aside0.mk (HB2.out.trans (hb4.mono HB2.out.size)); clear hb4))
              go_ret
              exact ⟨rfl, HB2.out⟩
            | false =>
              go_enter Try.func57, Try.ntmps57
              go_wp2_with (first | (go_at_call 72; (with_reducible refine (Q1.out _ HB.out).mono ?_); rintro e w1 ⟨rfl, hb1⟩; have HB1 := Aside0.mk (HB.out.trans (hb1.mono HB.out.size)); have m11 := pw_cell_below hb1 (CS.out 1 _ rfl); have m12 := pw_cell_below hb1 (CS.out 2 _ rfl); have m13 := pw_cell_below hb1 (CS.out 3 _ rfl); have m14 := pw_cell_below hb1 (CS.out 4 _ rfl); have m15 := pw_cell_below hb1 (CS.out 5 _ rfl); clear hb1) | (go_at_call 72; (with_reducible refine (Q2.out _ HB1.out).mono ?_); rintro e w2 ⟨rfl, hb2⟩; have HB2 := Aside0.mk (HB1.out.trans (hb2.mono HB1.out.size)); have m21 := pw_cell_below hb2 (m11); have m22 := pw_cell_below hb2 (m12); have m23 := pw_cell_below hb2 (m13); have m24 := pw_cell_below hb2 (m14); have m25 := pw_cell_below hb2 (m15); clear hb2) | (go_at_call 55; (with_reducible refine (Q3.out _ HB2.out).mono ?_); rintro e w3 ⟨rfl, hb3⟩; have HB3 := Aside0.mk (HB2.out.trans (hb3.mono HB2.out.size)); have m31 := pw_cell_below hb3 (m21); have m32 := pw_cell_below hb3 (m22); have m33 := pw_cell_below hb3 (m23); have m34 := pw_cell_below hb3 (m24); have m35 := pw_cell_below hb3 (m25); clear hb3) | (go_at_call 70; have q4 := Q4.out _ HB2.out m25; (with_reducible refine q4.mono ?_); clear q4; rintro e w4 ⟨rfl, hb4⟩; have HB4 := Aside0.mk (HB2.out.trans (hb4.mono HB2.out.size)); clear hb4))
              go_ret
              exact ⟨rfl, HB4.out⟩
  | true =>
    by_cases z3 : (0 : Int) < (n3 : Int)
    · skip
      have d3 : decide (0 < n3) = true := decide_eq_true (by omega)
      rw [d3]
      clear d3
      go_enter Try.func57, Try.ntmps57
      go_wp2
      go_ret
      exact ⟨rfl, HB.out⟩
    · skip
      obtain rfl : n3 = 0 := by omega
      clear z3
      cases a0_1 with
      | false =>
        by_cases z5 : (0 : Int) < (n5 : Int)
        · skip
          have d5 : decide (0 < n5) = true := decide_eq_true (by omega)
          rw [d5]
          clear d5
          go_enter Try.func57, Try.ntmps57
          go_wp2
          go_ret
          exact ⟨rfl, HB.out⟩
        · skip
          obtain rfl : n5 = 0 := by omega
          clear z5
          cases a0_8 with
          | true =>
            go_enter Try.func57, Try.ntmps57
            go_wp2
            go_ret
            exact ⟨rfl, HB.out⟩
          | false =>
            cases u1 with
            | true =>
              go_enter Try.func57, Try.ntmps57
              go_wp2_with (first | (go_at_call 72; (with_reducible refine (Q1.out _ HB.out).mono ?_); rintro e w1 ⟨rfl, hb1⟩; have HB1 := Aside0.mk (HB.out.trans (hb1.mono HB.out.size)); have m11 := pw_cell_below hb1 (CS.out 1 _ rfl); have m12 := pw_cell_below hb1 (CS.out 2 _ rfl); have m13 := pw_cell_below hb1 (CS.out 3 _ rfl); have m14 := pw_cell_below hb1 (CS.out 4 _ rfl); have m15 := pw_cell_below hb1 (CS.out 5 _ rfl); clear hb1) | (go_at_call 72; (with_reducible refine (Q2.out _ HB1.out).mono ?_); rintro e w2 ⟨rfl, hb2⟩; have HB2 := Aside0.mk (HB1.out.trans (hb2.mono HB1.out.size)); have m21 := pw_cell_below hb2 (m11); have m22 := pw_cell_below hb2 (m12); have m23 := pw_cell_below hb2 (m13); have m24 := pw_cell_below hb2 (m14); have m25 := pw_cell_below hb2 (m15); clear hb2) | (go_at_call 55; (with_reducible refine (Q3.out _ HB2.out).mono ?_); rintro e w3 ⟨rfl, hb3⟩; have HB3 := Aside0.mk (HB2.out.trans (hb3.mono HB2.out.size)); have m31 := pw_cell_below hb3 (m21); have m32 := pw_cell_below hb3 (m22); have m33 := pw_cell_below hb3 (m23); have m34 := pw_cell_below hb3 (m24); have m35 := pw_cell_below hb3 (m25); clear hb3) | (go_at_call 70; have q4 := Q4.out _ HB2.out m25; (with_reducible refine q4.mono ?_); clear q4; rintro e w4 ⟨rfl, hb4⟩; have HB4 := Aside0.mk (HB2.out.trans (hb4.mono HB2.out.size)); clear hb4))
              go_ret
              exact ⟨rfl, HB1.out⟩
            | false =>
              cases u2 with
              | true =>
                go_enter Try.func57, Try.ntmps57
                go_wp2_with (first | (go_at_call 72; (with_reducible refine (Q1.out _ HB.out).mono ?_); rintro e w1 ⟨rfl, hb1⟩; have HB1 := Aside0.mk (HB.out.trans (hb1.mono HB.out.size)); have m11 := pw_cell_below hb1 (CS.out 1 _ rfl); have m12 := pw_cell_below hb1 (CS.out 2 _ rfl); have m13 := pw_cell_below hb1 (CS.out 3 _ rfl); have m14 := pw_cell_below hb1 (CS.out 4 _ rfl); have m15 := pw_cell_below hb1 (CS.out 5 _ rfl); clear hb1) | (go_at_call 72; (with_reducible refine (Q2.out _ HB1.out).mono ?_); rintro e w2 ⟨rfl, hb2⟩; have HB2 := Aside0.mk (HB1.out.trans (hb2.mono HB1.out.size)); have m21 := pw_cell_below hb2 (m11); have m22 := pw_cell_below hb2 (m12); have m23 := pw_cell_below hb2 (m13); have m24 := pw_cell_below hb2 (m14); have m25 := pw_cell_below hb2 (m15); clear hb2) | (go_at_call 55; (with_reducible refine (Q3.out _ HB2.out).mono ?_); rintro e w3 ⟨rfl, hb3⟩; have HB3 := Aside0.mk (HB2.out.trans (hb3.mono HB2.out.size)); have m31 := pw_cell_below hb3 (m21); have m32 := pw_cell_below hb3 (m22); have m33 := pw_cell_below hb3 (m23); have m34 := pw_cell_below hb3 (m24); have m35 := pw_cell_below hb3 (m25); clear hb3) | (go_at_call 70; have q4 := Q4.out _ HB2.out m25; (with_reducible refine q4.mono ?_); clear q4; rintro e w4 ⟨rfl, hb4⟩; have HB4 := Aside0.mk (HB2.out.trans (hb4.mono HB2.out.size)); clear hb4))
                go_ret
                exact ⟨rfl, HB2.out⟩
              | false =>
                cases u3 with
                | true =>
                  go_enter Try.func57, Try.ntmps57
                  go_wp2_with (first | (go_at_call 72; (with_reducible refine (Q1.out _ HB.out).mono ?_); rintro e w1 ⟨rfl, hb1⟩; have HB1 := Aside0.mk (HB.out.trans (hb1.mono HB.out.size)); have m11 := pw_cell_below hb1 (CS.out 1 _ rfl); have m12 := pw_cell_below hb1 (CS.out 2 _ rfl); have m13 := pw_cell_below hb1 (CS.out 3 _ rfl); have m14 := pw_cell_below hb1 (CS.out 4 _ rfl); have m15 := pw_cell_below hb1 (CS.out 5 _ rfl); clear hb1) | (go_at_call 72; (with_reducible refine (Q2.out _ HB1.out).mono ?_); rintro e w2 ⟨rfl, hb2⟩; have HB2 := Aside0.mk (HB1.out.trans (hb2.mono HB1.out.size)); have m21 := pw_cell_below hb2 (m11); have m22 := pw_cell_below hb2 (m12); have m23 := pw_cell_below hb2 (m13); have m24 := pw_cell_below hb2 (m14); have m25 := pw_cell_below hb2 (m15); clear hb2) | (go_at_call 55; (with_reducible refine (Q3.out _ HB2.out).mono ?_); rintro e w3 ⟨rfl, hb3⟩; have HB3 := Aside0.mk (HB2.out.trans (hb3.mono HB2.out.size)); have m31 := pw_cell_below hb3 (m21); have m32 := pw_cell_below hb3 (m22); have m33 := pw_cell_below hb3 (m23); have m34 := pw_cell_below hb3 (m24); have m35 := pw_cell_below hb3 (m25); clear hb3) | (go_at_call 70; have q4 := Q4.out _ HB2.out m25; (with_reducible refine q4.mono ?_); clear q4; rintro e w4 ⟨rfl, hb4⟩; have HB4 := Aside0.mk (HB2.out.trans (hb4.mono HB2.out.size)); clear hb4))
                  go_ret
                  exact ⟨rfl, HB3.out⟩
                | false =>
                  go_enter Try.func57, Try.ntmps57
                  go_wp2_with (first | (go_at_call 72; (with_reducible refine (Q1.out _ HB.out).mono ?_); rintro e w1 ⟨rfl, hb1⟩; have HB1 := Aside0.mk (HB.out.trans (hb1.mono HB.out.size)); have m11 := pw_cell_below hb1 (CS.out 1 _ rfl); have m12 := pw_cell_below hb1 (CS.out 2 _ rfl); have m13 := pw_cell_below hb1 (CS.out 3 _ rfl); have m14 := pw_cell_below hb1 (CS.out 4 _ rfl); have m15 := pw_cell_below hb1 (CS.out 5 _ rfl); clear hb1) | (go_at_call 72; (with_reducible refine (Q2.out _ HB1.out).mono ?_); rintro e w2 ⟨rfl, hb2⟩; have HB2 := Aside0.mk (HB1.out.trans (hb2.mono HB1.out.size)); have m21 := pw_cell_below hb2 (m11); have m22 := pw_cell_below hb2 (m12); have m23 := pw_cell_below hb2 (m13); have m24 := pw_cell_below hb2 (m14); have m25 := pw_cell_below hb2 (m15); clear hb2) | (go_at_call 55; (with_reducible refine (Q3.out _ HB2.out).mono ?_); rintro e w3 ⟨rfl, hb3⟩; have HB3 := Aside0.mk (HB2.out.trans (hb3.mono HB2.out.size)); have m31 := pw_cell_below hb3 (m21); have m32 := pw_cell_below hb3 (m22); have m33 := pw_cell_below hb3 (m23); have m34 := pw_cell_below hb3 (m24); have m35 := pw_cell_below hb3 (m25); clear hb3) | (go_at_call 70; have q4 := Q4.out _ HB3.out m35; (with_reducible refine q4.mono ?_); clear q4; rintro e w4 ⟨rfl, hb4⟩; have HB4 := Aside0.mk (HB3.out.trans (hb4.mono HB3.out.size)); clear hb4))
                  go_ret
                  exact ⟨rfl, HB4.out⟩
      | true =>
        by_cases z6 : (0 : Int) < (n6 : Int)
        · skip
          have d6 : decide (0 < n6) = true := decide_eq_true (by omega)
          rw [d6]
          clear d6
          go_enter Try.func57, Try.ntmps57
          go_wp2
          go_ret
          exact ⟨rfl, HB.out⟩
        · skip
          obtain rfl : n6 = 0 := by omega
          clear z6
          cases u1 with
          | true =>
            go_enter Try.func57, Try.ntmps57
            go_wp2_with (first | (go_at_call 72; (with_reducible refine (Q1.out _ HB.out).mono ?_); rintro e w1 ⟨rfl, hb1⟩; have HB1 := Aside0.mk (HB.out.trans (hb1.mono HB.out.size)); have m11 := pw_cell_below hb1 (CS.out 1 _ rfl); have m12 := pw_cell_below hb1 (CS.out 2 _ rfl); have m13 := pw_cell_below hb1 (CS.out 3 _ rfl); have m14 := pw_cell_below hb1 (CS.out 4 _ rfl); have m15 := pw_cell_below hb1 (CS.out 5 _ rfl); clear hb1) | (go_at_call 72; (with_reducible refine (Q2.out _ HB1.out).mono ?_); rintro e w2 ⟨rfl, hb2⟩; have HB2 := Aside0.mk (HB1.out.trans (hb2.mono HB1.out.size)); have m21 := pw_cell_below hb2 (m11); have m22 := pw_cell_below hb2 (m12); have m23 := pw_cell_below hb2 (m13); have m24 := pw_cell_below hb2 (m14); have m25 := pw_cell_below hb2 (m15); clear hb2) | (go_at_call 55; (with_reducible refine (Q3.out _ HB2.out).mono ?_); rintro e w3 ⟨rfl, hb3⟩; have HB3 := Aside0.mk (HB2.out.trans (hb3.mono HB2.out.size)); have m31 := pw_cell_below hb3 (m21); have m32 := pw_cell_below hb3 (m22); have m33 := pw_cell_below hb3 (m23); have m34 := pw_cell_below hb3 (m24); have m35 := pw_cell_below hb3 (m25); clear hb3) | (go_at_call 70; have q4 := Q4.out _ HB2.out m25; (with_reducible refine q4.mono ?_); clear q4; rintro e w4 ⟨rfl, hb4⟩; have HB4 := Aside0.mk (HB2.out.trans (hb4.mono HB2.out.size)); clear hb4))
            go_ret
            exact ⟨rfl, HB1.out⟩
          | false =>
            cases u2 with
            | true =>
              go_enter Try.func57, Try.ntmps57
              go_wp2_with (first | (go_at_call 72; (with_reducible refine (Q1.out _ HB.out).mono ?_); rintro e w1 ⟨rfl, hb1⟩; have HB1 := Aside0.mk (HB.out.trans (hb1.mono HB.out.size)); have m11 := pw_cell_below hb1 (CS.out 1 _ rfl); have m12 := pw_cell_below hb1 (CS.out 2 _ rfl); have m13 := pw_cell_below hb1 (CS.out 3 _ rfl); have m14 := pw_cell_below hb1 (CS.out 4 _ rfl); have m15 := pw_cell_below hb1 (CS.out 5 _ rfl); clear hb1) | (go_at_call 72; (with_reducible refine (Q2.out _ HB1.out).mono ?_); rintro e w2 ⟨rfl, hb2⟩; have HB2 := Aside0.mk (HB1.out.trans (hb2.mono HB1.out.size)); have m21 := pw_cell_below hb2 (m11); have m22 := pw_cell_below hb2 (m12); have m23 := pw_cell_below hb2 (m13); have m24 := pw_cell_below hb2 (m14); have m25 := pw_cell_below hb2 (m15); clear hb2) | (go_at_call 55; (with_reducible refine (Q3.out _ HB2.out).mono ?_); rintro e w3 ⟨rfl, hb3⟩; have HB3 := Aside0.mk (HB2.out.trans (hb3.mono HB2.out.size)); have m31 := pw_cell_below hb3 (m21); have m32 := pw_cell_below hb3 (m22); have m33 := pw_cell_below hb3 (m23); have m34 := pw_cell_below hb3 (m24); have m35 := pw_cell_below hb3 (m25); clear hb3) | (go_at_call 70; have q4 := Q4.out _ HB2.out m25; (with_reducible refine q4.mono ?_); clear q4; rintro e w4 ⟨rfl, hb4⟩; have HB4 := Aside0.mk (HB2.out.trans (hb4.mono HB2.out.size)); clear hb4))
              go_ret
              exact ⟨rfl, HB2.out⟩
            | false =>
              go_enter Try.func57, Try.ntmps57
              go_wp2_with (first | (go_at_call 72; (with_reducible refine (Q1.out _ HB.out).mono ?_); rintro e w1 ⟨rfl, hb1⟩; have HB1 := Aside0.mk (HB.out.trans (hb1.mono HB.out.size)); have m11 := pw_cell_below hb1 (CS.out 1 _ rfl); have m12 := pw_cell_below hb1 (CS.out 2 _ rfl); have m13 := pw_cell_below hb1 (CS.out 3 _ rfl); have m14 := pw_cell_below hb1 (CS.out 4 _ rfl); have m15 := pw_cell_below hb1 (CS.out 5 _ rfl); clear hb1) | (go_at_call 72; (with_reducible refine (Q2.out _ HB1.out).mono ?_); rintro e w2 ⟨rfl, hb2⟩; have HB2 := Aside0.mk (HB1.out.trans (hb2.mono HB1.out.size)); have m21 := pw_cell_below hb2 (m11); have m22 := pw_cell_below hb2 (m12); have m23 := pw_cell_below hb2 (m13); have m24 := pw_cell_below hb2 (m14); have m25 := pw_cell_below hb2 (m15); clear hb2) | (go_at_call 55; (with_reducible refine (Q3.out _ HB2.out).mono ?_); rintro e w3 ⟨rfl, hb3⟩; have HB3 := Aside0.mk (HB2.out.trans (hb3.mono HB2.out.size)); have m31 := pw_cell_below hb3 (m21); have m32 := pw_cell_below hb3 (m22); have m33 := pw_cell_below hb3 (m23); have m34 := pw_cell_below hb3 (m24); have m35 := pw_cell_below hb3 (m25); clear hb3) | (go_at_call 70; have q4 := Q4.out _ HB2.out m25; (with_reducible refine q4.mono ?_); clear q4; rintro e w4 ⟨rfl, hb4⟩; have HB4 := Aside0.mk (HB2.out.trans (hb4.mono HB2.out.size)); clear hb4))
              go_ret
              exact ⟨rfl, HB4.out⟩


end Go.Proofs.Ytaimaagpfppggaa.PFnExactUnwraps
