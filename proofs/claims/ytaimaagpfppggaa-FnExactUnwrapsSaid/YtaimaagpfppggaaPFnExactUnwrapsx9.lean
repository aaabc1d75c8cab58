/- By a program of this session, out of the kit's print and contracts made by hand: the machine side of a law; Lean checks it. No conditions. -/
import Derived.Test.YtaimaagpfppggaaPFnExactUnwrapsx0
import Derived.Test.YtaimaagpfppggaaPFnExactUnwrapsx3
namespace Go.Proofs.Ytaimaagpfppggaa.PFnExactUnwraps
open Go.RowKit Go.Proofs.YtaimaagpfppggaaW.PrintWords Go.Proofs.YtaimaagpfppggaaW.PrintLast Go.Proofs.YtaimaagpfppggaaW.PrintMore
attribute [local go_sem] max2_int min2_int max_two min_two max_three min_three max_four min_four   -- for this text's walks alone
set_option linter.unusedVariables false
set_option linter.unusedSimpArgs false

/-! ### ContainsFunc_Rule: function 70, by hand -/
/-- slices.ContainsFunc at this type, whatever the predicate. -/
theorem ContainsFunc_Rule.holds (A : Option Addr) (n c : Nat) (v : Nat → List Value) (p : Nat → Bool) (g : Nat) (lb : Array Value) (eg : ∀ args w, (callFunc g args).run Try.prog w = .ok (.enter g args) w) (w : World)
    (hp : ∀ j, j < n → ∀ W, Below w.heap.size w W → Calls Try.prog g (#[.agg (v j).toArray] ++ lb) W fun e w' => e = .returned (.bool (p j)) ∧ Below w.heap.size w w')
    (hbig : n ≤ 9223372036854775807) (hc : ∀ j, j < n → ∃ ad, A = some ad ∧ (v j).length = 3 ∧ ∀ i u, (v j)[i]? = some u → w.cell? (ad.add (j * 3 + i)) = some u) :
    Calls Try.prog 70 #[.slice A n c, .func (.func g) #[] lb] w fun e w' => e = .returned (.bool (Mach.anyP p n)) ∧ Below w.heap.size w w' := by
  rw [← Mach.idxP_any]
  have hcall := IndexFunc_Rule.holds A n c v p g lb eg w hp hbig hc
  clear hc hp
  go_enter Try.func70, Try.ntmps70
  go_wp2_with (go_at_call 60; refine hcall.mono ?_; rintro e w' ⟨rfl, hb'⟩)
  go_ret
  exact ⟨rfl, hb'⟩


/-! ### impl_haveAttrs: function 55, by hand -/
def hasAttr (x : S63) : Bool := decide (0 < x.f2.length)
def impl_haveAttrs.f (l0 : List S63) : Option Bool := some (l0.any hasAttr)
theorem impl_haveAttrs.lit2 (f0 : Int) (f1 : ByteArray) (A3 : Option Addr) (n3 c3 : Nat) (w : World) : Calls Try.prog 71 #[.agg #[.int .i64 f0, .string f1, .slice A3 n3 c3]] w fun e w' => e = .returned (.bool (decide (0 < n3))) ∧ Below w.heap.size w w' := by
  by_cases hq : 0 < n3
  · have hz : (0 : Int) < (n3 : Int) := by omega
    rw [decide_eq_true hq]
    go_enter Try.func71, Try.ntmps71
    go_wp2
    go_ret
    exact ⟨rfl, below_alloc (Below.refl _ _) _⟩
  · have hz : ¬ (0 : Int) < (n3 : Int) := by omega
    rw [decide_eq_false hq]
    go_enter Try.func71, Try.ntmps71
    go_wp2
    go_ret
    exact ⟨rfl, below_alloc (Below.refl _ _) _⟩
theorem impl_haveAttrs.calls (A0 : Option Addr) (c0 : Nat) (l0 : List S63) (r : Bool) (w : World) (hr0 : Kd.C k63 w A0 l0.length l0) (hc0 : l0.length ≤ c0) (h : impl_haveAttrs.f l0 = some r) :
    Calls Try.prog 55 #[.slice A0 l0.length c0] w fun e w' => e = .returned (.bool r) ∧ Below w.heap.size w w' := by
  obtain rfl := Option.some.inj h
  obtain ⟨F, hF⟩ := ruleCells A0 l0 w hr0
  have hcall := ContainsFunc_Rule.holds A0 l0.length c0 (fun j => [.int .i64 (l0.getD j z63).f0, .string (l0.getD j z63).f1, .slice (F j).1 (l0.getD j z63).f2.length (F j).2]) (fun j => hasAttr (l0.getD j z63)) 71 #[] (Mach.enters_of Try.func71 (by kernel_rfl) rfl) w
      (fun j hj V hb => (impl_haveAttrs.lit2 _ _ _ _ _ V).mono fun e w' ⟨he, hb'⟩ => ⟨he, hb.trans (hb'.mono hb.size)⟩) hr0.2.1
      (fun j hj => by
        obtain ⟨⟨ad, e, hc⟩, _⟩ := hF j hj
        exact ⟨ad, e, rfl, hc⟩)
  rw [Mach.anyP_list hasAttr] at hcall
  clear hF hr0 hc0
  generalize l0.any hasAttr = R at *
  go_enter Try.func55, Try.ntmps55
  go_wp2_with (go_at_call 70; (with_reducible refine hcall.mono ?_); rintro e w' ⟨rfl, hb'⟩)
  go_ret
  exact ⟨rfl, hb'⟩


/-! ### impl_haveCommon: function 72, by hand -/
def isIn (b : List S63) (x : S63) : Bool := decide (0 ≤ ruleAtI b x.f0 x.f1)
def impl_haveCommon.f (l0 l1 : List S63) : Option Bool := some (l0.any (isIn l1))
theorem impl_haveCommon.lit (f0 : Int) (f1 : ByteArray) (A3 : Option Addr) (n3 c3 : Nat) (A1 : Option Addr) (c1 : Nat) (l1 : List S63) (B : Nat) (w : World) (hr1 : Kd.C k63 w A1 l1.length l1) (hc1 : l1.length ≤ c1) (h0 : w.cell? ⟨B, 0, none⟩ = some (.slice A1 l1.length c1)) :
    Calls Try.prog 76 #[.agg #[.int .i64 f0, .string f1, .slice A3 n3 c3], .pointer (some ⟨B, 0, none⟩)] w fun e w' => e = .returned (.bool (decide (0 ≤ ruleAtI l1 f0 f1))) ∧ Below w.heap.size w w' := by
  have hb := below_alloc (Below.refl w.heap.size w) (.cells #[.int .i64 f0, .string f1, .slice A3 n3 c3] 63)
  have g0 := pw_cell_below hb h0
  have q := impl_ruleAt.calls A1 c1 l1 f0 f1 _ _ (Kd.C_below hr1 hb) hc1 rfl
  have HB := Aside0.mk hb
  clear hb h0 hr1 hc1
  generalize ruleAtI l1 f0 f1 = R at *
  generalize l1.length = n1 at *
  go_enter Try.func76, Try.ntmps76
  go_wp2_with (go_at_call 39; (with_reducible refine q.mono ?_); rintro e w' ⟨rfl, hb'⟩)
  go_ret
  exact ⟨rfl, HB.out.trans (hb'.mono HB.out.size)⟩
theorem impl_haveCommon.calls (A0 : Option Addr) (c0 : Nat) (l0 : List S63) (A1 : Option Addr) (c1 : Nat) (l1 : List S63) (r : Bool) (w : World) (hr0 : Kd.C k63 w A0 l0.length l0) (hc0 : l0.length ≤ c0) (hr1 : Kd.C k63 w A1 l1.length l1) (hc1 : l1.length ≤ c1) (h : impl_haveCommon.f l0 l1 = some r) :
    Calls Try.prog 72 #[.slice A0 l0.length c0, .slice A1 l1.length c1] w fun e w' => e = .returned (.bool r) ∧ Below w.heap.size w w' := by
  obtain rfl := Option.some.inj h
  obtain ⟨F, hF⟩ := ruleCells A0 l0 w hr0
  have hb := below_alloc (Below.refl w.heap.size w) (.cells #[.slice A1 l1.length c1] 29)
  have q := ContainsFunc_Rule.holds A0 l0.length c0 (fun j => [.int .i64 (l0.getD j z63).f0, .string (l0.getD j z63).f1, .slice (F j).1 (l0.getD j z63).f2.length (F j).2]) (fun j => isIn l1 (l0.getD j z63)) 76 #[.pointer (some ⟨w.heap.size, 0, none⟩)] (Mach.enters_of Try.func76 (by kernel_rfl) rfl) (w.alloc (.cells #[.slice A1 l1.length c1] 29))
      (fun j hj V hb2 => (impl_haveCommon.lit _ _ _ _ _ A1 c1 l1 w.heap.size V (Kd.C_below (Kd.C_below hr1 hb) hb2) hc1 (pw_cell_below hb2 (Mach.new_cell _ _ _ 0 _ rfl))).mono fun e w' ⟨he, hb'⟩ => ⟨he, hb2.trans (hb'.mono hb2.size)⟩) hr0.2.1
      (fun j hj => by
        obtain ⟨⟨ad, e, hc⟩, _⟩ := hF j hj
        exact ⟨ad, e, rfl, fun i u hu => pw_cell_below hb (hc i u hu)⟩)
  rw [Mach.anyP_list (isIn l1)] at q
  have HB := Aside0.mk hb
  clear hb hF hr0 hc0 hr1 hc1
  generalize l0.any (isIn l1) = R at *
  generalize l0.length = n0 at *
  generalize l1.length = n1 at *
  go_enter Try.func72, Try.ntmps72
  go_wp2_with (go_at_call 70; (with_reducible refine q.mono ?_); rintro e w' ⟨rfl, hb'⟩)
  go_ret
  exact ⟨rfl, HB.out.trans (hb'.mono HB.out.size)⟩


/-! ### IndexFunc_string: function 68, by hand -/
set_option maxHeartbeats 1000000 in
/-- slices.IndexFunc at this type, whatever the predicate: the first place at which it holds. -/
theorem IndexFunc_string.holds (A : Option Addr) (n c : Nat) (v : Nat → Value) (p : Nat → Bool) (g : Nat) (lb : Array Value) (eg : ∀ args w, (callFunc g args).run Try.prog w = .ok (.enter g args) w) (w : World)
    (hp : ∀ j, j < n → ∀ W, Below w.heap.size w W → Calls Try.prog g (#[v j] ++ lb) W fun e w' => e = .returned (.bool (p j)) ∧ Below w.heap.size w w')
    (hbig : n ≤ 9223372036854775807) (hc : ∀ j, j < n → ∃ ad, A = some ad ∧ w.cell? (ad.add j) = some (v j)) :
    Calls Try.prog 68 #[.slice A n c, .func (.func g) #[] lb] w fun e w' => e = .returned (.int .i64 (Mach.idxP p n)) ∧ Below w.heap.size w w' := by
  have HC := Aside0.mk hc
  have HP := Aside0.mk hp
  clear hc hp
  go_enter Try.func68, Try.ntmps68
  go_wp2
  go_loopg [5, 8] n (fun gg _ s8 wr => ∃ kk : Nat, kk ≤ n ∧ n - kk ≤ gg ∧ s8 = .int .i64 kk ∧ Aside0 (Below w.heap.size w wr) ∧ Aside0 (∀ j, j < kk → p j = false))
  case atStart => exact ⟨0, Nat.zero_le _, by omega, rfl, ⟨Below.refl _ w⟩, ⟨fun j hj => absurd hj (Nat.not_lt_zero _)⟩⟩
  case round =>
    obtain ⟨kk, hkk, hg, rfl, BW, AA⟩ := hrel
    by_cases hlt : kk < n
    · have hltz : (kk : Int) < (n : Int) := by omega
      obtain ⟨ad, e, l1⟩ := HC.out kk hlt
      cases e
      have l2 : wr.cell? (ad.add kk) = some (v kk) := pw_cell_below BW.out l1
      clear l1
      have hcall := HP.out kk hlt wr BW.out
      cases hq : p kk with
      | true =>
        rw [hq] at hcall
        go_wp2_with ((with_reducible refine hcall.mono ?_); rintro e w' ⟨rfl, hb'⟩)
        go_ret
        refine ⟨?_, hb'⟩
        rw [Mach.idxP_hit p n kk hlt hq AA.out]
        rfl
      | false =>
        rw [hq] at hcall
        go_wp2_with ((with_reducible refine hcall.mono ?_); rintro e w' ⟨rfl, hb'⟩)
        go_roundg (n - (kk + 1))
        case measure => omega
        case rel =>
          refine ⟨kk + 1, by omega, by omega, by go_num, ⟨hb'⟩, ⟨fun j hj => ?_⟩⟩
          by_cases e : j = kk
          · subst e; exact hq
          · exact AA.out j (by omega)
    · have hltz : ¬ (kk : Int) < (n : Int) := by omega
      have : kk = n := by omega
      subst this
      go_wp2
      go_ret
      refine ⟨?_, BW.out⟩
      rw [Mach.idxP_miss p kk AA.out]
      rfl


/-! ### ContainsFunc_string: function 52, by hand -/
/-- slices.ContainsFunc at this type, whatever the predicate. -/
theorem ContainsFunc_string.holds (A : Option Addr) (n c : Nat) (v : Nat → Value) (p : Nat → Bool) (g : Nat) (lb : Array Value) (eg : ∀ args w, (callFunc g args).run Try.prog w = .ok (.enter g args) w) (w : World)
    (hp : ∀ j, j < n → ∀ W, Below w.heap.size w W → Calls Try.prog g (#[v j] ++ lb) W fun e w' => e = .returned (.bool (p j)) ∧ Below w.heap.size w w')
    (hbig : n ≤ 9223372036854775807) (hc : ∀ j, j < n → ∃ ad, A = some ad ∧ w.cell? (ad.add j) = some (v j)) :
    Calls Try.prog 52 #[.slice A n c, .func (.func g) #[] lb] w fun e w' => e = .returned (.bool (Mach.anyP p n)) ∧ Below w.heap.size w w' := by
  rw [← Mach.idxP_any]
  have hcall := IndexFunc_string.holds A n c v p g lb eg w hp hbig hc
  clear hc hp
  go_enter Try.func52, Try.ntmps52
  go_wp2_with (go_at_call 68; refine hcall.mono ?_; rintro e w' ⟨rfl, hb'⟩)
  go_ret
  exact ⟨rfl, hb'⟩


/-! ### slices_Index_string_string: function 65 -/
def slices_Index_string_string.l0 : Nat → List ByteArray → ByteArray → Int → Int → Option (Int)
  | 0, _, _, _, _ => none
  | k + 1, x0, x1, x7, x8 => if x8 < x7 then (if 0 ≤ x8 then (if x8 < (x0.length : Int) then (if x1.toList = (rdOf ByteArray.empty x0 x8).toList then (some x8) else (slices_Index_string_string.l0 k x0 x1 x7 (wrap64 (x8 + 1)))) else (none)) else (none)) else (some (-1))
def slices_Index_string_string.f (k : Nat) (l0 : List ByteArray) (a1 : ByteArray) : Option (Int) := slices_Index_string_string.l0 k l0 a1 (l0.length : Int) 0
theorem slices_Index_string_string.mono_l : ∀ k, (∀ y0 y1 y2 y3, LeO (slices_Index_string_string.l0 k y0 y1 y2 y3) (slices_Index_string_string.l0 (k + 1) y0 y1 y2 y3))
  | 0 => fun _ _ _ _ r h => by simp [slices_Index_string_string.l0] at h
  | k + 1 => by
    have ih0 := slices_Index_string_string.mono_l k
    · intro y0 y1 y2 y3
      unfold slices_Index_string_string.l0
      repeat' first
      | (with_reducible exact ih0 _ _ _ _)
      | (with_reducible exact LeO.refl _)
      | (with_reducible exact LeO.none _)
      | (with_reducible refine LeO.ite ?_ ?_)
      | (with_reducible refine LeO.bind ?_ (fun _ => ?_))
      | exact ih0 _ _ _ _
      | exact LeO.none _
      | refine LeO.ite ?_ ?_
      | refine LeO.bind ?_ (fun _ => ?_)
theorem slices_Index_string_string.mono : ∀ a0 a1 k, LeO (slices_Index_string_string.f k a0 a1) (slices_Index_string_string.f (k + 1) a0 a1) := by
  intro a0 a1 k
  have ih0 := slices_Index_string_string.mono_l k
  unfold slices_Index_string_string.f
  repeat' first
      | (with_reducible exact ih0 _ _ _ _)
      | (with_reducible exact LeO.refl _)
      | (with_reducible exact LeO.none _)
      | (with_reducible refine LeO.ite ?_ ?_)
      | (with_reducible refine LeO.bind ?_ (fun _ => ?_))
      | exact ih0 _ _ _ _
      | exact LeO.none _
      | refine LeO.ite ?_ ?_
      | refine LeO.bind ?_ (fun _ => ?_)
set_option maxHeartbeats 8000000 in
set_option maxRecDepth 100000 in
theorem slices_Index_string_string.calls (k : Nat) (A0 : Option Addr) (c0 : Nat) (l0 : List ByteArray) (a1 : ByteArray) (r : Int) (w : World) (hr0 : Kd.C Kd.string w A0 l0.length l0) (hc0 : l0.length ≤ c0) (h : slices_Index_string_string.f k l0 a1 = some r) :
    Calls Try.prog 65 #[.slice A0 l0.length c0, .string a1] w fun e w' => e = .returned (.int .i64 r) ∧ Drawn0 w w' := by
  have HR0 := Aside0.mk hr0
  have HC0 := Aside0.mk hc0
  clear hr0 hc0
  have H : (slices_Index_string_string.l0 k l0 a1 (l0.length : Int) 0) = some r := h
  clear h
  have H' := Aside0.mk H
  clear H
  go_enter Try.func65, Try.ntmps65
  go_wp2
  go_loopg [8] k (fun kq v8 w' => ∃ (x8_1 : Int), v8 = .int .i64 x8_1 ∧ Aside0 (slices_Index_string_string.l0 kq l0 a1 (l0.length : Int) x8_1 = some r) ∧ Aside0 (kq ≤ k) ∧ Drawn0 w w')
  case atStart => exact ⟨(0), (by first | rfl | (simp; done) | (simp [*]; done)), H', ⟨Nat.le_refl _⟩, by repeat (first | exact Drawn0.refl _ | apply Drawn0.step)⟩
  case round =>
    clear H'
    try clear p2
    obtain ⟨x8_1, rfl, HA, HK1, ⟨m1, rfl⟩⟩ := hrel
    cases gk with
    | zero => exact absurd HA.out (by simp [slices_Index_string_string.l0])
    | succ k1 =>
      have H := HA.out
      clear HA
      simp only [slices_Index_string_string.l0] at H
      by_cases c3 : x8_1 < (l0.length : Int)
      · rw [if_pos c3] at H
        have c3b0 : decide (x8_1 < (l0.length : Int)) = true := decide_eq_true c3
        clear c3
        by_cases c4 : 0 ≤ x8_1
        · rw [if_pos c4] at H
          have c4b0 : decide (0 ≤ x8_1) = true := decide_eq_true c4
          clear c4
          by_cases c5 : x8_1 < (l0.length : Int)
          · rw [if_pos c5] at H
            have c5b0 : decide (x8_1 < (l0.length : Int)) = true := decide_eq_true c5
            clear c5
            by_cases c6 : a1.toList = (rdOf ByteArray.empty l0 x8_1).toList
            · rw [if_pos c6] at H
              have c6b0 : (a1.toList == (rdOf ByteArray.empty l0 x8_1).toList) = true := beq_iff_eq.mpr c6
              have c6b1 : (a1.toList != (rdOf ByteArray.empty l0 x8_1).toList) = false := bne_eq_false_iff_eq.mpr c6
              clear c6
              obtain rfl := Option.some.inj H
              have p122 : 0 ≤ (x8_1 : Int) := of_decide_eq_true (by first | (with_reducible assumption) | assumption)
              have q122 : x8_1 < (l0.length : Int) := of_decide_eq_true (by first | (with_reducible assumption) | assumption)
              obtain ⟨ad122, e122, hx122_0⟩ := Kd.at_string HR0.out x8_1 p122 q122
              cases e122
              replace p122 := eq_true p122
              replace q122 := eq_true q122
              go_wp2
              go_ret
              exact ⟨by first | rfl | (simp; done) | (simp [*]; done), by repeat (first | exact Drawn0.refl _ | apply Drawn0.step)⟩
            · rw [if_neg c6] at H
              have c6b0 : (a1.toList == (rdOf ByteArray.empty l0 x8_1).toList) = false := beq_eq_false_iff_ne.mpr c6
              have c6b1 : (a1.toList != (rdOf ByteArray.empty l0 x8_1).toList) = true := bne_iff_ne.mpr c6
              have H' := Aside0.mk H
              clear H
              have p122 : 0 ≤ (x8_1 : Int) := of_decide_eq_true (by first | (with_reducible assumption) | assumption)
              have q122 : x8_1 < (l0.length : Int) := of_decide_eq_true (by first | (with_reducible assumption) | assumption)
              obtain ⟨ad122, e122, hx122_0⟩ := Kd.at_string HR0.out x8_1 p122 q122
              cases e122
              replace p122 := eq_true p122
              replace q122 := eq_true q122
              go_wp2
              go_roundg k1
              case measure => have := HK1.out; omega
              case rel => exact ⟨(wrap64 (x8_1 + 1)), (by first | rfl | (simp; done) | (simp [*]; done)), H', ⟨by have := HK1.out; omega⟩, by repeat (first | exact Drawn0.refl _ | apply Drawn0.step)⟩
          · rw [if_neg c5] at H
            exact absurd H (by simp)
        · rw [if_neg c4] at H
          exact absurd H (by simp)
      · rw [if_neg c3] at H
        have c3b0 : decide (x8_1 < (l0.length : Int)) = false := decide_eq_false c3
        clear c3
        obtain rfl := Option.some.inj H
        go_wp2
        go_ret
        exact ⟨by first | rfl | (simp; done) | (simp [*]; done), by repeat (first | exact Drawn0.refl _ | apply Drawn0.step)⟩

end Go.Proofs.Ytaimaagpfppggaa.PFnExactUnwraps
