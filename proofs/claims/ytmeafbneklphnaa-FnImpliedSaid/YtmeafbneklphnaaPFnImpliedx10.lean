/- By a program of this session, out of the kit's print and contracts made by hand: the machine side of a law; Lean checks it. No conditions. -/
import Derived.Test.YtmeafbneklphnaaPFnImpliedx0
import Derived.Test.YtmeafbneklphnaaPFnImpliedx7
import Derived.Test.YtmeafbneklphnaaPFnImpliedx9
namespace Go.Proofs.Ytmeafbneklphnaa.PFnImplied
open Go.RowKit Go.Proofs.YtmeafbneklphnaaW.PrintWords Go.Proofs.YtmeafbneklphnaaW.PrintLast Go.Proofs.YtmeafbneklphnaaW.PrintMore
attribute [local go_sem] max2_int min2_int max_two min_two max_three min_three max_four min_four   -- for this text's walks alone
set_option linter.unusedVariables false
set_option linter.unusedSimpArgs false

/-! ### impl_faultOpen: function 36, by hand -/
open Go.Proofs.Ytmeafbneklphnaa.Kit (small digit big pos_eq neg_eq tagB isTag nameB isName lowC lowS lowS_bytes handler wantJ wantJ_eq keepC badL badFrom badFrom_zero badFrom_full badFrom_nil badFrom_skip badFrom_take indexByte_any markB namesAt namesOK)
def badOpen (o : S39) : Bool := !isTag o.f0 || !decide (0 ≤ o.f1 ∧ o.f1 ≤ 2)
def openFault (l0 : List S39) (t : ByteArray) : Int := if l0.length > 4096 ∨ t.size > 65536 then 2 else if l0.any badOpen then 1 else if !isTag t then 10 else 0
def impl_faultOpen.f (l0 : List S39) (a1 : ByteArray) : Option Int := if (∀ o ∈ l0, o.f0.size ≤ 9223372036854775807) ∧ a1.size ≤ 9223372036854775807 then some (openFault l0 a1) else none
theorem impl_faultOpen.lit (o : S39) (hs : o.f0.size ≤ 9223372036854775807) (w : World) : Calls Try.prog 63 #[.agg #[.string o.f0, .int .i64 o.f1]] w fun e w' => e = .returned (.bool (badOpen o)) ∧ Below w.heap.size w w' := by
  have q1 := fun W => impl_TagOK.pure o.f0 hs W
  have q2 := fun W => impl_within.pure o.f1 0 2 W
  have HB : Aside0 (badOpen o = (!isTag o.f0 || !decide (0 ≤ o.f1 ∧ o.f1 ≤ 2))) := ⟨rfl⟩
  cases ht : isTag o.f0 with
  | false =>
    rw [ht] at q1
    rw [HB.out, ht]
    clear ht HB
    go_enter Try.func63, Try.ntmps63
    go_wp2_with (go_at_call 64; (with_reducible refine (q1 _).mono ?_); rintro e w' ⟨rfl, ⟨nd, rfl⟩⟩)
    go_ret
    exact ⟨rfl, pw_below_drewN (below_alloc (Below.refl _ _) _) _⟩
  | true =>
    rw [ht] at q1
    rw [HB.out, ht]
    clear ht HB
    generalize decide (0 ≤ o.f1 ∧ o.f1 ≤ 2) = b at *
    go_enter Try.func63, Try.ntmps63
    go_wp2_with (first | (go_at_call 64; (with_reducible refine (q1 _).mono ?_); rintro e w' ⟨rfl, ⟨nd, rfl⟩⟩) | (go_at_call 65; (with_reducible refine (q2 _).mono ?_); rintro e w' ⟨rfl, ⟨nd2, rfl⟩⟩))
    go_ret
    exact ⟨rfl, by repeat (first | exact Below.refl _ _ | apply pw_below_drewN | apply below_alloc)⟩
theorem impl_faultOpen.any (A0 : Option Addr) (c0 : Nat) (l0 : List S39) (w : World) (hr0 : Kd.C k39 w A0 l0.length l0) (hs : ∀ o ∈ l0, o.f0.size ≤ 9223372036854775807) :
    Calls Try.prog 62 #[.slice A0 l0.length c0, .func (.func 63) #[] #[]] w fun e w' => e = .returned (.bool (l0.any badOpen)) ∧ Below w.heap.size w w' := by
  have hcall := ContainsFunc_Open.holds A0 l0.length c0 (fun j => [.string (l0.getD j z39).f0, .int .i64 (l0.getD j z39).f1]) (fun j => badOpen (l0.getD j z39)) 63 #[] (Mach.enters_of Try.func63 (by kernel_rfl) rfl) w
    (fun j hj W hb => (impl_faultOpen.lit _ (hs _ (Kit.getD_mem _ hj)) W).mono fun e w' ⟨he, hb'⟩ => ⟨he, hb.trans (hb'.mono hb.size)⟩) hr0.2.1
    (fun j hj => by
      obtain ⟨ad, c, e, hcl, hK, hc⟩ := Kd.C_get hr0 z39 (j : Int) (by omega) (by omega)
      rw [Int.toNat_natCast] at hK hc
      obtain rfl := k39_open hK
      exact ⟨ad, e, rfl, hc⟩)
  rw [Mach.anyP_list badOpen] at hcall
  exact hcall
theorem impl_faultOpen.calls (A0 : Option Addr) (c0 : Nat) (l0 : List S39) (a1 : ByteArray) (r : Int) (w : World) (hr0 : Kd.C k39 w A0 l0.length l0) (hc0 : l0.length ≤ c0) (h : impl_faultOpen.f l0 a1 = some r) :
    Calls Try.prog 36 #[.slice A0 l0.length c0, .string a1] w fun e w' => e = .returned (.int .i64 r) ∧ Below w.heap.size w w' := by
  unfold impl_faultOpen.f at h
  obtain ⟨⟨hs, hs1⟩, h⟩ := Option.ite_none_right_eq_some.mp h
  obtain rfl := Option.some.inj h
  have hn := hr0.2.1
  have qa := fun W (hb : Below w.heap.size w W) => impl_faultOpen.any A0 c0 l0 W (Kd.C_below hr0 hb) hs
  have qt := fun W => impl_TagOK.pure a1 hs1 W
  have ql := fun (W : World) => impl_isLong.one a1 W
  clear hr0 hs
  by_cases hlen : l0.length > 4096
  · have h1 : decide ((l0.length : Int) > 4096) = true := decide_eq_true (by omega)
    have HE : Aside0 (openFault l0 a1 = 2) := ⟨if_pos (.inl hlen)⟩
    go_enter Try.func36, Try.ntmps36
    go_wp2
    go_ret
    exact ⟨by rw [HE.out]; rfl, Below.refl _ _⟩
  · have h1 : decide ((l0.length : Int) > 4096) = false := decide_eq_false (by omega)
    by_cases hlg : 65536 < (a1.size : Int)
    · rw [decide_eq_true hlg] at ql
      have HE : Aside0 (openFault l0 a1 = 2) := ⟨if_pos (.inr (by omega))⟩
      clear hlg
      go_enter Try.func36, Try.ntmps36
      go_wp2_with (go_at_call 61; (with_reducible refine (ql _).mono ?_); rintro e w' ⟨rfl, hb1⟩)
      go_ret
      exact ⟨by rw [HE.out]; rfl, (below_alloc (Below.refl _ w) _).trans (hb1.mono (by simp))⟩
    · rw [decide_eq_false hlg] at ql
      have HE : Aside0 (openFault l0 a1 = if l0.any badOpen then 1 else if !isTag a1 then 10 else 0) := ⟨if_neg (by omega)⟩
      clear hlg
      cases hb : l0.any badOpen with
      | true =>
        rw [hb] at qa
        have HE2 : Aside0 (openFault l0 a1 = 1) := ⟨by rw [HE.out, hb]; rfl⟩
        clear hb HE
        go_enter Try.func36, Try.ntmps36
        go_wp2_with (first | (go_at_call 61; (with_reducible refine (ql _).mono ?_); rintro e w1 ⟨rfl, hb1⟩; have HB1 := Aside0.mk ((below_alloc (Below.refl _ w) _).trans (hb1.mono (by simp))); clear hb1) | (go_at_call 62; (with_reducible refine (qa _ HB1.out).mono ?_); rintro e w2 ⟨rfl, hb2⟩; have HB2 := Aside0.mk (HB1.out.trans (hb2.mono HB1.out.size)); clear hb2))
        go_ret
        exact ⟨by rw [HE2.out]; rfl, HB2.out⟩
      | false =>
        rw [hb] at qa
        cases ht : isTag a1 with
        | true =>
          rw [ht] at qt
          have HE2 : Aside0 (openFault l0 a1 = 0) := ⟨by rw [HE.out, hb, ht]; rfl⟩
          clear hb ht HE
          go_enter Try.func36, Try.ntmps36
          go_wp2_with (first | (go_at_call 61; (with_reducible refine (ql _).mono ?_); rintro e w1 ⟨rfl, hb1⟩; have HB1 := Aside0.mk ((below_alloc (Below.refl _ w) _).trans (hb1.mono (by simp))); clear hb1) | (go_at_call 62; (with_reducible refine (qa _ HB1.out).mono ?_); rintro e w2 ⟨rfl, hb2⟩; have HB2 := Aside0.mk (HB1.out.trans (hb2.mono HB1.out.size)); clear hb2) | (go_at_call 64; (with_reducible refine (qt _).mono ?_); rintro e w' ⟨rfl, ⟨nd, rfl⟩⟩))
          go_ret
          exact ⟨by rw [HE2.out]; rfl, pw_below_drewN HB2.out _⟩
        | false =>
          rw [ht] at qt
          have HE2 : Aside0 (openFault l0 a1 = 10) := ⟨by rw [HE.out, hb, ht]; rfl⟩
          clear hb ht HE
          go_enter Try.func36, Try.ntmps36
          go_wp2_with (first | (go_at_call 61; (with_reducible refine (ql _).mono ?_); rintro e w1 ⟨rfl, hb1⟩; have HB1 := Aside0.mk ((below_alloc (Below.refl _ w) _).trans (hb1.mono (by simp))); clear hb1) | (go_at_call 62; (with_reducible refine (qa _ HB1.out).mono ?_); rintro e w2 ⟨rfl, hb2⟩; have HB2 := Aside0.mk (HB1.out.trans (hb2.mono HB1.out.size)); clear hb2) | (go_at_call 64; (with_reducible refine (qt _).mono ?_); rintro e w' ⟨rfl, ⟨nd, rfl⟩⟩))
          go_ret
          exact ⟨by rw [HE2.out]; rfl, pw_below_drewN HB2.out _⟩


/-! ### slices_Index_string_string: function 90 -/
def slices_Index_string_string.l0 : Nat → List ByteArray → ByteArray → Int → Int → Option (Int)
  | 0, _, _, _, _ => none
  | k + 1, x0, x1, x7, x8 => if x8 < x7 then (if 0 ≤ x8 then (if x8 < (x0.length : Int) then (if x1.toList = (rdOf ByteArray.empty x0 x8).toList then (some x8) else (slices_Index_string_string.l0 k x0 x1 x7 (wrap64 (x8 + 1)))) else (none)) else (none)) else (some (-1))
def slices_Index_string_string.f (k : Nat) (l0 : List ByteArray) (a1 : ByteArray) : Option (Int) := slices_Index_string_string.l0 k l0 a1 (l0.length : Int) 0
theorem slices_Index_string_string.mono_l : ∀ k, (∀ y0 y1 y2 y3, LeO (slices_Index_string_string.l0 k y0 y1 y2 y3) (slices_Index_string_string.l0 (k + 1) y0 y1 y2 y3))
  | 0 => fun _ _ _ _ r h => by simp [slices_Index_string_string.l0] at h
  | k + 1 => by
    have ih0 := slices_Index_string_string.mono_l k
    · intro y0 y1 y2 y3
      unfold slices_Index_string_string.l0
      repeat' first
      | (with_reducible exact ih0 _ _ _ _)
      | (with_reducible exact LeO.refl _)
      | (with_reducible exact LeO.none _)
      | (with_reducible refine LeO.ite ?_ ?_)
      | (with_reducible refine LeO.bind ?_ (fun _ => ?_))
      | exact ih0 _ _ _ _
      | exact LeO.none _
      | refine LeO.ite ?_ ?_
      | refine LeO.bind ?_ (fun _ => ?_)
theorem slices_Index_string_string.mono : ∀ a0 a1 k, LeO (slices_Index_string_string.f k a0 a1) (slices_Index_string_string.f (k + 1) a0 a1) := by
  intro a0 a1 k
  have ih0 := slices_Index_string_string.mono_l k
  unfold slices_Index_string_string.f
  repeat' first
      | (with_reducible exact ih0 _ _ _ _)
      | (with_reducible exact LeO.refl _)
      | (with_reducible exact LeO.none _)
      | (with_reducible refine LeO.ite ?_ ?_)
      | (with_reducible refine LeO.bind ?_ (fun _ => ?_))
      | exact ih0 _ _ _ _
      | exact LeO.none _
      | refine LeO.ite ?_ ?_
      | refine LeO.bind ?_ (fun _ => ?_)
set_option maxHeartbeats 8000000 in
set_option maxRecDepth 100000 in
theorem slices_Index_string_string.calls (k : Nat) (A0 : Option Addr) (c0 : Nat) (l0 : List ByteArray) (a1 : ByteArray) (r : Int) (w : World) (hr0 : Kd.C Kd.string w A0 l0.length l0) (hc0 : l0.length ≤ c0) (h : slices_Index_string_string.f k l0 a1 = some r) :
    Calls Try.prog 90 #[.slice A0 l0.length c0, .string a1] w fun e w' => e = .returned (.int .i64 r) ∧ Drawn0 w w' := by
  have HR0 := Aside0.mk hr0
  have HC0 := Aside0.mk hc0
  clear hr0 hc0
  have H : (slices_Index_string_string.l0 k l0 a1 (l0.length : Int) 0) = some r := h
  clear h
  have H' := Aside0.mk H
  clear H
  go_enter Try.func90, Try.ntmps90
  go_wp2
  go_loopg [8] k (fun kq v8 w' => ∃ (x8_1 : Int), v8 = .int .i64 x8_1 ∧ Aside0 (slices_Index_string_string.l0 kq l0 a1 (l0.length : Int) x8_1 = some r) ∧ Aside0 (kq ≤ k) ∧ Drawn0 w w')
  case atStart => exact ⟨(0), (by first | rfl | (simp; done) | (simp [*]; done)), H', ⟨Nat.le_refl _⟩, by repeat (first | exact Drawn0.refl _ | apply Drawn0.step)⟩
  case round =>
    clear H'
    try clear p2
    obtain ⟨x8_1, rfl, HA, HK1, ⟨m1, rfl⟩⟩ := hrel
    cases gk with
    | zero => exact absurd HA.out (by simp [slices_Index_string_string.l0])
    | succ k1 =>
      have H := HA.out
      clear HA
      simp only [slices_Index_string_string.l0] at H
      by_cases c3 : x8_1 < (l0.length : Int)
      · rw [if_pos c3] at H
        have c3b0 : decide (x8_1 < (l0.length : Int)) = true := decide_eq_true c3
        clear c3
        by_cases c4 : 0 ≤ x8_1
        · rw [if_pos c4] at H
          have c4b0 : decide (0 ≤ x8_1) = true := decide_eq_true c4
          clear c4
          by_cases c5 : x8_1 < (l0.length : Int)
          · rw [if_pos c5] at H
            have c5b0 : decide (x8_1 < (l0.length : Int)) = true := decide_eq_true c5
            clear c5
            by_cases c6 : a1.toList = (rdOf ByteArray.empty l0 x8_1).toList
            · rw [if_pos c6] at H
              have c6b0 : (a1.toList == (rdOf ByteArray.empty l0 x8_1).toList) = true := beq_iff_eq.mpr c6
              have c6b1 : (a1.toList != (rdOf ByteArray.empty l0 x8_1).toList) = false := bne_eq_false_iff_eq.mpr c6
              clear c6
              obtain rfl := Option.some.inj H
              have p199 : 0 ≤ (x8_1 : Int) := of_decide_eq_true (by first | (with_reducible assumption) | assumption)
              have q199 : x8_1 < (l0.length : Int) := of_decide_eq_true (by first | (with_reducible assumption) | assumption)
              obtain ⟨ad199, e199, hx199_0⟩ := Kd.at_string HR0.out x8_1 p199 q199
              cases e199
              replace p199 := eq_true p199
              replace q199 := eq_true q199
              go_wp2
              go_ret
              exact ⟨by first | rfl | (simp; done) | (simp [*]; done), by repeat (first | exact Drawn0.refl _ | apply Drawn0.step)⟩
            · rw [if_neg c6] at H
              have c6b0 : (a1.toList == (rdOf ByteArray.empty l0 x8_1).toList) = false := beq_eq_false_iff_ne.mpr c6
              have c6b1 : (a1.toList != (rdOf ByteArray.empty l0 x8_1).toList) = true := bne_iff_ne.mpr c6
              have H' := Aside0.mk H
              clear H
              have p199 : 0 ≤ (x8_1 : Int) := of_decide_eq_true (by first | (with_reducible assumption) | assumption)
              have q199 : x8_1 < (l0.length : Int) := of_decide_eq_true (by first | (with_reducible assumption) | assumption)
              obtain ⟨ad199, e199, hx199_0⟩ := Kd.at_string HR0.out x8_1 p199 q199
              cases e199
              replace p199 := eq_true p199
              replace q199 := eq_true q199
              go_wp2
              go_roundg k1
              case measure => have := HK1.out; omega
              case rel => exact ⟨(wrap64 (x8_1 + 1)), (by first | rfl | (simp; done) | (simp [*]; done)), H', ⟨by have := HK1.out; omega⟩, by repeat (first | exact Drawn0.refl _ | apply Drawn0.step)⟩
          · rw [if_neg c5] at H
            exact absurd H (by simp)
        · rw [if_neg c4] at H
          exact absurd H (by simp)
      · rw [if_neg c3] at H
        have c3b0 : decide (x8_1 < (l0.length : Int)) = false := decide_eq_false c3
        clear c3
        obtain rfl := Option.some.inj H
        go_wp2
        go_ret
        exact ⟨by first | rfl | (simp; done) | (simp [*]; done), by repeat (first | exact Drawn0.refl _ | apply Drawn0.step)⟩

end Go.Proofs.Ytmeafbneklphnaa.PFnImplied
