/- By a program of this session, out of the kit's print and contracts made by hand: the machine side of a law; Lean checks it. No conditions. -/
import Derived.Test.YtmeafbneklphnaaPFnImpliedx0
import Derived.Test.YtmeafbneklphnaaPFnImpliedx6
import Derived.Test.YtmeafbneklphnaaPFnImpliedx13
import Derived.Test.YtmeafbneklphnaaPFnImpliedx17
import Derived.Test.YtmeafbneklphnaaPFnImpliedx18
import Derived.Test.YtmeafbneklphnaaPFnImpliedx19
import Derived.Test.YtmeafbneklphnaaPFnImpliedx20
namespace Go.Proofs.Ytmeafbneklphnaa.PFnImplied
open Go.RowKit Go.Proofs.YtmeafbneklphnaaW.PrintWords Go.Proofs.YtmeafbneklphnaaW.PrintLast Go.Proofs.YtmeafbneklphnaaW.PrintMore
attribute [local go_sem] max2_int min2_int max_two min_two max_three min_three max_four min_four   -- for this text's walks alone
set_option linter.unusedVariables false
set_option linter.unusedSimpArgs false

/-! ### laws_FnImplied: function 4 -/
def laws_FnImplied.j0 : Nat → List Int → List Int → Bool → Option (Bool)
  | 0, _, _, _ => none
  | k + 1, x0, x1, x28 => if x28 = true then (some true) else ((spec_StackDrawn.f k x0).bind fun t259 => ((spec_TagDrawn.f x1).bind fun t262 => ((impl_Implied.f k t259 t262).bind fun bt263 => ((spec_Implied.f k t259 t262).bind fun bt265 => ((impl_PlaceOf.f k t259 t262).bind fun bt267 => ((spec_PlaceOf.f k t259 t262).bind fun bt270 => ((impl_CloseAt.f t259 t262).bind fun bt273 => ((spec_CloseAt.f k t259 t262).bind fun bt275 => (if bt263.2 = bt265.2 then (if bt265.2 = 0 then (if bt263.1 = bt265.1 then (if bt267.2.2 = bt270.2.2 then (if bt267.1 = bt270.1 then (if bt267.2.1 = bt270.2.1 then (if bt267.1 = (wrap64 ((t259.length : Int) - bt263.1)) then (if bt273.2 = bt275.2 then (if bt273.1 = bt275.1 then (if bt275.2 = 0 then (if 0 ≤ bt275.1 then (if bt275.1 < (t259.length : Int) then (some (((rd_T39 t259 bt275.1).f0).toList == t262.toList)) else (none)) else (none)) else (some true)) else (some false)) else (some false)) else (some false)) else (some false)) else (some false)) else (some false)) else (some false)) else (some false)) else (some false))))))))))
def laws_FnImplied.f (k : Nat) (l0 : List Int) (l1 : List Int) : Option (Bool) := if (l0.length : Int) > 1048576 then (laws_FnImplied.j0 k l0 l1 true) else (laws_FnImplied.j0 k l0 l1 (decide ((l1.length : Int) > 1048576)))
theorem laws_FnImplied.mono_l : ∀ k, (∀ y0 y1 y2, LeO (laws_FnImplied.j0 k y0 y1 y2) (laws_FnImplied.j0 (k + 1) y0 y1 y2))
  | 0 => fun _ _ _ r h => by simp [laws_FnImplied.j0] at h
  | k + 1 => by
    have ih0 := laws_FnImplied.mono_l k
    · intro y0 y1 y2
      unfold laws_FnImplied.j0
      repeat' first
      | (with_reducible exact ih0 _ _ _)
      | (with_reducible exact impl_Implied.mono _ _ _)
      | (with_reducible exact impl_PlaceOf.mono _ _ _)
      | (with_reducible exact spec_CloseAt.mono _ _ _)
      | (with_reducible exact spec_Implied.mono _ _ _)
      | (with_reducible exact spec_PlaceOf.mono _ _ _)
      | (with_reducible exact spec_StackDrawn.mono _ _)
      | (with_reducible exact LeO.refl _)
      | (with_reducible exact LeO.none _)
      | (with_reducible refine LeO.ite ?_ ?_)
      | (with_reducible refine LeO.bind ?_ (fun _ => ?_))
      | exact ih0 _ _ _
      | exact impl_Implied.mono _ _ _
      | exact impl_PlaceOf.mono _ _ _
      | exact spec_CloseAt.mono _ _ _
      | exact spec_Implied.mono _ _ _
      | exact spec_PlaceOf.mono _ _ _
      | exact spec_StackDrawn.mono _ _
      | exact LeO.none _
      | refine LeO.ite ?_ ?_
      | refine LeO.bind ?_ (fun _ => ?_)
theorem laws_FnImplied.mono : ∀ a0 a1 k, LeO (laws_FnImplied.f k a0 a1) (laws_FnImplied.f (k + 1) a0 a1) := by
  intro a0 a1 k
  have ih0 := laws_FnImplied.mono_l k
  unfold laws_FnImplied.f
  repeat' first
      | (with_reducible exact ih0 _ _ _)
      | (with_reducible exact impl_Implied.mono _ _ _)
      | (with_reducible exact impl_PlaceOf.mono _ _ _)
      | (with_reducible exact spec_CloseAt.mono _ _ _)
      | (with_reducible exact spec_Implied.mono _ _ _)
      | (with_reducible exact spec_PlaceOf.mono _ _ _)
      | (with_reducible exact spec_StackDrawn.mono _ _)
      | (with_reducible exact LeO.refl _)
      | (with_reducible exact LeO.none _)
      | (with_reducible refine LeO.ite ?_ ?_)
      | (with_reducible refine LeO.bind ?_ (fun _ => ?_))
      | exact ih0 _ _ _
      | exact impl_Implied.mono _ _ _
      | exact impl_PlaceOf.mono _ _ _
      | exact spec_CloseAt.mono _ _ _
      | exact spec_Implied.mono _ _ _
      | exact spec_PlaceOf.mono _ _ _
      | exact spec_StackDrawn.mono _ _
      | exact LeO.none _
      | refine LeO.ite ?_ ?_
      | refine LeO.bind ?_ (fun _ => ?_)
set_option maxHeartbeats 8000000 in
set_option maxRecDepth 100000 in
theorem laws_FnImplied.calls (k : Nat) (A0 : Option Addr) (c0 : Nat) (l0 : List Int) (A1 : Option Addr) (c1 : Nat) (l1 : List Int) (r : Bool) (w : World) (hr0 : Kd.C (Kd.int .u8) w A0 l0.length l0) (hc0 : l0.length ≤ c0) (hr1 : Kd.C (Kd.int .u8) w A1 l1.length l1) (hc1 : l1.length ≤ c1) (h : laws_FnImplied.f k l0 l1 = some r) (HRT : Aside0 (r = true)) :
    Calls Try.prog 4 #[.slice A0 l0.length c0, .slice A1 l1.length c1] w fun e w' => e = .returned (.bool r) ∧ Below w.heap.size w w' := by
  have HR0 := Aside0.mk hr0
  have HC0 := Aside0.mk hc0
  clear hr0 hc0
  have HR1 := Aside0.mk hr1
  have HC1 := Aside0.mk hc1
  clear hr1 hc1
  have HB := Aside0.mk (Below.refl w.heap.size w)
  have H : (if (l0.length : Int) > 1048576 then (laws_FnImplied.j0 k l0 l1 true) else (laws_FnImplied.j0 k l0 l1 (decide ((l1.length : Int) > 1048576)))) = some r := h
  clear h
  have HC3 := Aside0.mk H
  clear H
  go_enter Try.func4, Try.ntmps4
  go_upto_region 1 with (fail)
  go_cut [28] (fun v28 wc => ∃ (kq : Nat) (x28_2 : Bool), v28 = .bool x28_2 ∧ Aside0 (laws_FnImplied.j0 kq l0 l1 x28_2 = some r) ∧ Aside0 (kq ≤ k) ∧ Aside0 (Below w.heap.size w wc))
  case first =>
    have H := HC3.out
    clear HC3
    by_cases c4 : (l0.length : Int) > 1048576
    · rw [if_pos c4] at H
      have c4b0 : decide (1048576 < (l0.length : Int)) = true := decide_eq_true c4
      have c4b1 : decide (1048576 < l0.length) = true := decide_eq_true (by omega)
      clear c4
      (first | rw [c4b0] | (simp only [i64_w, i32_w]; rw [c4b0]) | skip)
      have H' := Aside0.mk H
      clear H
      go_wp2
      go_meet
      case rel => exact ⟨_, (true), (by first | rfl | (simp; done) | (simp [*]; done)), H', ⟨by first | omega | exact Nat.le_refl _⟩, ⟨by repeat (first | (with_reducible first | exact HB.out | apply below_alloc | apply pw_below_drewN | apply below_drew1) | exact HB.out)⟩⟩
    · rw [if_neg c4] at H
      have c4b0 : decide (1048576 < (l0.length : Int)) = false := decide_eq_false c4
      have c4b1 : decide (1048576 < l0.length) = false := decide_eq_false (by omega)
      clear c4
      (first | rw [c4b0] | (simp only [i64_w, i32_w]; rw [c4b0]) | skip)
      have H' := Aside0.mk H
      clear H
      go_wp2
      go_meet
      case rel => exact ⟨_, (decide ((l1.length : Int) > 1048576)), (by first | rfl | (simp; done) | (simp [*]; done)), H', ⟨by first | omega | exact Nat.le_refl _⟩, ⟨by repeat (first | (with_reducible first | exact HB.out | apply below_alloc | apply pw_below_drewN | apply below_drew1) | exact HB.out)⟩⟩
  case rest =>
    clear HC3
    try clear c1
    try clear p2
    try clear c4
    try clear c4b0
    try clear c4b1
    obtain ⟨kq, x28_2, rfl, HA, HJ2, HB⟩ := hcut
    cases kq with
    | zero => exact absurd HA.out (by simp [laws_FnImplied.j0])
    | succ kj2 =>
      have H := HA.out
      clear HA
      simp only [laws_FnImplied.j0] at H
      by_cases c5 : x28_2 = true
      · subst c5
        have H1 : (some true) = some r := by rw [if_pos rfl] at H; exact H
        clear H
        have H := H1
        clear H1
        obtain rfl := Option.some.inj H
        go_wp2
        go_ret
        exact ⟨by first | rfl | (simp [errW_none, errW_some] <;> rfl) | (simp [*, errW_none, errW_some] <;> rfl), by repeat (first | (with_reducible first | exact HB.out | apply below_alloc | apply pw_below_drewN | apply below_drew1) | exact HB.out)⟩
      · replace c5 := Bool.eq_false_iff.mpr c5
        subst c5
        have H1 : ((spec_StackDrawn.f kj2 l0).bind fun t259 => ((spec_TagDrawn.f l1).bind fun t262 => ((impl_Implied.f kj2 t259 t262).bind fun bt263 => ((spec_Implied.f kj2 t259 t262).bind fun bt265 => ((impl_PlaceOf.f kj2 t259 t262).bind fun bt267 => ((spec_PlaceOf.f kj2 t259 t262).bind fun bt270 => ((impl_CloseAt.f t259 t262).bind fun bt273 => ((spec_CloseAt.f kj2 t259 t262).bind fun bt275 => (if bt263.2 = bt265.2 then (if bt265.2 = 0 then (if bt263.1 = bt265.1 then (if bt267.2.2 = bt270.2.2 then (if bt267.1 = bt270.1 then (if bt267.2.1 = bt270.2.1 then (if bt267.1 = (wrap64 ((t259.length : Int) - bt263.1)) then (if bt273.2 = bt275.2 then (if bt273.1 = bt275.1 then (if bt275.2 = 0 then (if 0 ≤ bt275.1 then (if bt275.1 < (t259.length : Int) then (some (((rd_T39 t259 bt275.1).f0).toList == t262.toList)) else (none)) else (none)) else (some true)) else (some false)) else (some false)) else (some false)) else (some false)) else (some false)) else (some false)) else (some false)) else (some false)) else (some false)))))))))) = some r := by rw [if_neg (show ¬ (false = true) by decide)] at H; exact H
        clear H
        have H := H1
        clear H1
        replace H := Option.bind_eq_some_iff.mp H
        obtain ⟨t259, A60, H⟩ := H
        replace H : ((spec_TagDrawn.f l1).bind fun t262 => ((impl_Implied.f kj2 t259 t262).bind fun bt263 => ((spec_Implied.f kj2 t259 t262).bind fun bt265 => ((impl_PlaceOf.f kj2 t259 t262).bind fun bt267 => ((spec_PlaceOf.f kj2 t259 t262).bind fun bt270 => ((impl_CloseAt.f t259 t262).bind fun bt273 => ((spec_CloseAt.f kj2 t259 t262).bind fun bt275 => (if bt263.2 = bt265.2 then (if bt265.2 = 0 then (if bt263.1 = bt265.1 then (if bt267.2.2 = bt270.2.2 then (if bt267.1 = bt270.1 then (if bt267.2.1 = bt270.2.1 then (if bt267.1 = (wrap64 ((t259.length : Int) - bt263.1)) then (if bt273.2 = bt275.2 then (if bt273.1 = bt275.1 then (if bt275.2 = 0 then (if 0 ≤ bt275.1 then (if bt275.1 < (t259.length : Int) then (some (((rd_T39 t259 bt275.1).f0).toList == t262.toList)) else (none)) else (none)) else (some true)) else (some false)) else (some false)) else (some false)) else (some false)) else (some false)) else (some false)) else (some false)) else (some false)) else (some false))))))))) = some r := H
        have A6 := Aside0.mk A60
        clear A60
        replace H := Option.bind_eq_some_iff.mp H
        obtain ⟨t262, A70, H⟩ := H
        replace H : ((impl_Implied.f kj2 t259 t262).bind fun bt263 => ((spec_Implied.f kj2 t259 t262).bind fun bt265 => ((impl_PlaceOf.f kj2 t259 t262).bind fun bt267 => ((spec_PlaceOf.f kj2 t259 t262).bind fun bt270 => ((impl_CloseAt.f t259 t262).bind fun bt273 => ((spec_CloseAt.f kj2 t259 t262).bind fun bt275 => (if bt263.2 = bt265.2 then (if bt265.2 = 0 then (if bt263.1 = bt265.1 then (if bt267.2.2 = bt270.2.2 then (if bt267.1 = bt270.1 then (if bt267.2.1 = bt270.2.1 then (if bt267.1 = (wrap64 ((t259.length : Int) - bt263.1)) then (if bt273.2 = bt275.2 then (if bt273.1 = bt275.1 then (if bt275.2 = 0 then (if 0 ≤ bt275.1 then (if bt275.1 < (t259.length : Int) then (some (((rd_T39 t259 bt275.1).f0).toList == t262.toList)) else (none)) else (none)) else (some true)) else (some false)) else (some false)) else (some false)) else (some false)) else (some false)) else (some false)) else (some false)) else (some false)) else (some false)))))))) = some r := H
        have A7 := Aside0.mk A70
        clear A70
        replace H := Option.bind_eq_some_iff.mp H
        obtain ⟨⟨t263, t264⟩, A80, H⟩ := H
        replace H : ((spec_Implied.f kj2 t259 t262).bind fun bt265 => ((impl_PlaceOf.f kj2 t259 t262).bind fun bt267 => ((spec_PlaceOf.f kj2 t259 t262).bind fun bt270 => ((impl_CloseAt.f t259 t262).bind fun bt273 => ((spec_CloseAt.f kj2 t259 t262).bind fun bt275 => (if t264 = bt265.2 then (if bt265.2 = 0 then (if t263 = bt265.1 then (if bt267.2.2 = bt270.2.2 then (if bt267.1 = bt270.1 then (if bt267.2.1 = bt270.2.1 then (if bt267.1 = (wrap64 ((t259.length : Int) - t263)) then (if bt273.2 = bt275.2 then (if bt273.1 = bt275.1 then (if bt275.2 = 0 then (if 0 ≤ bt275.1 then (if bt275.1 < (t259.length : Int) then (some (((rd_T39 t259 bt275.1).f0).toList == t262.toList)) else (none)) else (none)) else (some true)) else (some false)) else (some false)) else (some false)) else (some false)) else (some false)) else (some false)) else (some false)) else (some false)) else (some false))))))) = some r := H
        have A8 := Aside0.mk A80
        clear A80
        replace H := Option.bind_eq_some_iff.mp H
        obtain ⟨⟨t265, t266⟩, A90, H⟩ := H
        replace H : ((impl_PlaceOf.f kj2 t259 t262).bind fun bt267 => ((spec_PlaceOf.f kj2 t259 t262).bind fun bt270 => ((impl_CloseAt.f t259 t262).bind fun bt273 => ((spec_CloseAt.f kj2 t259 t262).bind fun bt275 => (if t264 = t266 then (if t266 = 0 then (if t263 = t265 then (if bt267.2.2 = bt270.2.2 then (if bt267.1 = bt270.1 then (if bt267.2.1 = bt270.2.1 then (if bt267.1 = (wrap64 ((t259.length : Int) - t263)) then (if bt273.2 = bt275.2 then (if bt273.1 = bt275.1 then (if bt275.2 = 0 then (if 0 ≤ bt275.1 then (if bt275.1 < (t259.length : Int) then (some (((rd_T39 t259 bt275.1).f0).toList == t262.toList)) else (none)) else (none)) else (some true)) else (some false)) else (some false)) else (some false)) else (some false)) else (some false)) else (some false)) else (some false)) else (some false)) else (some false)))))) = some r := H
        have A9 := Aside0.mk A90
        clear A90
        replace H := Option.bind_eq_some_iff.mp H
        obtain ⟨⟨t267, t268, t269⟩, A100, H⟩ := H
        replace H : ((spec_PlaceOf.f kj2 t259 t262).bind fun bt270 => ((impl_CloseAt.f t259 t262).bind fun bt273 => ((spec_CloseAt.f kj2 t259 t262).bind fun bt275 => (if t264 = t266 then (if t266 = 0 then (if t263 = t265 then (if t269 = bt270.2.2 then (if t267 = bt270.1 then (if t268 = bt270.2.1 then (if t267 = (wrap64 ((t259.length : Int) - t263)) then (if bt273.2 = bt275.2 then (if bt273.1 = bt275.1 then (if bt275.2 = 0 then (if 0 ≤ bt275.1 then (if bt275.1 < (t259.length : Int) then (some (((rd_T39 t259 bt275.1).f0).toList == t262.toList)) else (none)) else (none)) else (some true)) else (some false)) else (some false)) else (some false)) else (some false)) else (some false)) else (some false)) else (some false)) else (some false)) else (some false))))) = some r := H
        have A10 := Aside0.mk A100
        clear A100
        replace H := Option.bind_eq_some_iff.mp H
        obtain ⟨⟨t270, t271, t272⟩, A110, H⟩ := H
        replace H : ((impl_CloseAt.f t259 t262).bind fun bt273 => ((spec_CloseAt.f kj2 t259 t262).bind fun bt275 => (if t264 = t266 then (if t266 = 0 then (if t263 = t265 then (if t269 = t272 then (if t267 = t270 then (if t268 = t271 then (if t267 = (wrap64 ((t259.length : Int) - t263)) then (if bt273.2 = bt275.2 then (if bt273.1 = bt275.1 then (if bt275.2 = 0 then (if 0 ≤ bt275.1 then (if bt275.1 < (t259.length : Int) then (some (((rd_T39 t259 bt275.1).f0).toList == t262.toList)) else (none)) else (none)) else (some true)) else (some false)) else (some false)) else (some false)) else (some false)) else (some false)) else (some false)) else (some false)) else (some false)) else (some false)))) = some r := H
        have A11 := Aside0.mk A110
        clear A110
        replace H := Option.bind_eq_some_iff.mp H
        obtain ⟨⟨t273, t274⟩, A120, H⟩ := H
        replace H : ((spec_CloseAt.f kj2 t259 t262).bind fun bt275 => (if t264 = t266 then (if t266 = 0 then (if t263 = t265 then (if t269 = t272 then (if t267 = t270 then (if t268 = t271 then (if t267 = (wrap64 ((t259.length : Int) - t263)) then (if t274 = bt275.2 then (if t273 = bt275.1 then (if bt275.2 = 0 then (if 0 ≤ bt275.1 then (if bt275.1 < (t259.length : Int) then (some (((rd_T39 t259 bt275.1).f0).toList == t262.toList)) else (none)) else (none)) else (some true)) else (some false)) else (some false)) else (some false)) else (some false)) else (some false)) else (some false)) else (some false)) else (some false)) else (some false))) = some r := H
        have A12 := Aside0.mk A120
        clear A120
        replace H := Option.bind_eq_some_iff.mp H
        obtain ⟨⟨t275, t276⟩, A130, H⟩ := H
        replace H : (if t264 = t266 then (if t266 = 0 then (if t263 = t265 then (if t269 = t272 then (if t267 = t270 then (if t268 = t271 then (if t267 = (wrap64 ((t259.length : Int) - t263)) then (if t274 = t276 then (if t273 = t275 then (if t276 = 0 then (if 0 ≤ t275 then (if t275 < (t259.length : Int) then (some (((rd_T39 t259 t275).f0).toList == t262.toList)) else (none)) else (none)) else (some true)) else (some false)) else (some false)) else (some false)) else (some false)) else (some false)) else (some false)) else (some false)) else (some false)) else (some false)) = some r := H
        have A13 := Aside0.mk A130
        clear A130
        by_cases c14 : t264 = t266
        · rw [if_pos c14] at H
          have c14b0 : (t264 == t266) = true := beq_iff_eq.mpr c14
          have c14b1 : (t264 != t266) = false := bne_eq_false_iff_eq.mpr c14
          clear c14
          by_cases c15 : t266 = 0
          · rw [if_pos c15] at H
            have c15b0 : (t266 == 0) = true := beq_iff_eq.mpr c15
            have c15b1 : (t266 != 0) = false := bne_eq_false_iff_eq.mpr c15
            clear c15
            by_cases c16 : t263 = t265
            · rw [if_pos c16] at H
              have c16b0 : (t263 == t265) = true := beq_iff_eq.mpr c16
              have c16b1 : (t263 != t265) = false := bne_eq_false_iff_eq.mpr c16
              clear c16
              by_cases c17 : t269 = t272
              · rw [if_pos c17] at H
                have c17b0 : (t269 == t272) = true := beq_iff_eq.mpr c17
                have c17b1 : (t269 != t272) = false := bne_eq_false_iff_eq.mpr c17
                clear c17
                by_cases c18 : t267 = t270
                · rw [if_pos c18] at H
                  have c18b0 : (t267 == t270) = true := beq_iff_eq.mpr c18
                  have c18b1 : (t267 != t270) = false := bne_eq_false_iff_eq.mpr c18
                  clear c18
                  by_cases c19 : t268 = t271
                  · rw [if_pos c19] at H
                    have c19b0 : (t268 == t271) = true := beq_iff_eq.mpr c19
                    have c19b1 : (t268 != t271) = false := bne_eq_false_iff_eq.mpr c19
                    clear c19
                    by_cases c20 : t267 = (wrap64 ((t259.length : Int) - t263))
                    · rw [if_pos c20] at H
                      have c20b0 : (t267 == (wrap64 ((t259.length : Int) - t263))) = true := beq_iff_eq.mpr c20
                      have c20b1 : (t267 != (wrap64 ((t259.length : Int) - t263))) = false := bne_eq_false_iff_eq.mpr c20
                      clear c20
                      by_cases c21 : t274 = t276
                      · rw [if_pos c21] at H
                        have c21b0 : (t274 == t276) = true := beq_iff_eq.mpr c21
                        have c21b1 : (t274 != t276) = false := bne_eq_false_iff_eq.mpr c21
                        clear c21
                        by_cases c22 : t273 = t275
                        · rw [if_pos c22] at H
                          have c22b0 : (t273 == t275) = true := beq_iff_eq.mpr c22
                          have c22b1 : (t273 != t275) = false := bne_eq_false_iff_eq.mpr c22
                          clear c22
                          by_cases c23 : t276 = 0
                          · rw [if_pos c23] at H
                            have c23b0 : (t276 == 0) = true := beq_iff_eq.mpr c23
                            have c23b1 : (t276 != 0) = false := bne_eq_false_iff_eq.mpr c23
                            clear c23
                            by_cases c24 : 0 ≤ t275
                            · rw [if_pos c24] at H
                              have c24b0 : decide (0 ≤ t275) = true := decide_eq_true c24
                              clear c24
                              by_cases c25 : t275 < (t259.length : Int)
                              · rw [if_pos c25] at H
                                have c25b0 : decide (t275 < (t259.length : Int)) = true := decide_eq_true c25
                                clear c25
                                obtain rfl := Option.some.inj H
                                go_wp2_with (first | ((with_reducible refine gate_callee (f := 11) rfl ?_); refine goesL_ (some 30) rfl rfl Try.func11 (by kernel_rfl) rfl #[.slice A0 l0.length c0] rfl (by (try simp only [List.map_toArray, List.map_cons, List.map_nil]); first | done | rfl | (simp only [List.length_drop, List.length_take]; rfl)) ?_; (with_reducible refine (spec_StackDrawn.calls kj2 _ _ l0 t259 _ ?side1 ?side2 A6.out).mono ?_); (case side1 => repeat (first | exact (Kd.C_below HR0.out HB.out) | (with_reducible refine Kd.C_alloc ?_ _) | (with_reducible refine Kd.C_drewN ?_ _) | (with_reducible refine Kd.C_drew ?_))); (case side2 => exact HC0.out); rintro e w26 ⟨v260, rfl, ho0, hb⟩; refine ⟨_, rfl, ?_⟩; have n0_ := Aside0.mk (Kd.R_lower ho0 (below_size (by repeat (first | (with_reducible first | exact HB.out | apply below_alloc | apply pw_below_drewN | apply below_drew1) | exact HB.out)))); have n1_ := Aside0.mk (below_step (by repeat (first | (with_reducible first | exact HB.out | apply below_alloc | apply pw_below_drewN | apply below_drew1) | exact HB.out)) hb); clear HB; have HO261 := n0_; have HB := n1_; clear n0_ n1_; (try clear hb); (try clear hb2); (try clear hk); (try clear hi); (try clear ho0)) | ((with_reducible refine gate_callee (f := 12) rfl ?_); refine goesL_ (some 32) rfl rfl Try.func12 (by kernel_rfl) rfl #[.slice A1 l1.length c1] rfl (by (try simp only [List.map_toArray, List.map_cons, List.map_nil]); first | done | rfl | (simp only [List.length_drop, List.length_take]; rfl)) ?_; (with_reducible refine (spec_TagDrawn.calls _ _ l1 t262 _ ?side1 ?side2 A7.out).mono ?_); (case side1 => repeat (first | exact (Kd.C_below HR1.out HB.out) | (with_reducible refine Kd.C_alloc ?_ _) | (with_reducible refine Kd.C_drewN ?_ _) | (with_reducible refine Kd.C_drew ?_))); (case side2 => exact HC1.out); rintro e w27 ⟨rfl, hb⟩; refine ⟨_, rfl, ?_⟩; have n0_ := Aside0.mk (Kd.R_below (by (with_reducible repeat (first | apply Kd.R_alloc | apply Kd.R_drewN | apply Kd.R_drew)); exact HO261.out) hb); have n1_ := Aside0.mk (below_step (by repeat (first | (with_reducible first | exact HB.out | apply below_alloc | apply pw_below_drewN | apply below_drew1) | exact HB.out)) hb); clear HO261; clear HB; have HO261 := n0_; have HB := n1_; clear n0_ n1_; (try clear hb); (try clear hb2); (try clear hk); (try clear hi); obtain ⟨Ao28, co28, eo28⟩ := Kd.R_slice HO261.out; subst eo28) | ((with_reducible refine gate_callee (f := 13) rfl ?_); refine goesL_ (some 36) rfl rfl Try.func13 (by kernel_rfl) rfl #[.slice Ao28 t259.length co28, .string t262] rfl (by (try simp only [List.map_toArray, List.map_cons, List.map_nil]); first | done | rfl | (simp only [List.length_drop, List.length_take]; rfl)) ?_; (with_reducible refine (impl_Implied.calls kj2 _ _ t259 t262 t263 t264 _ ?side1 ?side2 A8.out).mono ?_); (case side1 => repeat (first | exact (Kd.R_reads' HO261.out).2.2 | (with_reducible refine Kd.C_alloc ?_ _) | (with_reducible refine Kd.C_drewN ?_ _) | (with_reducible refine Kd.C_drew ?_))); (case side2 => exact (Kd.R_reads' HO261.out).2.1); rintro e w29 ⟨rfl, hb⟩; refine ⟨_, rfl, ?_⟩; have n0_ := Aside0.mk (Kd.R_below (by (with_reducible repeat (first | apply Kd.R_alloc | apply Kd.R_drewN | apply Kd.R_drew)); exact HO261.out) hb); have n1_ := Aside0.mk (below_step (by repeat (first | (with_reducible first | exact HB.out | apply below_alloc | apply pw_below_drewN | apply below_drew1) | exact HB.out)) hb); clear HO261; clear HB; have HO261 := n0_; have HB := n1_; clear n0_ n1_; (try clear hb); (try clear hb2); (try clear hk); (try clear hi)) | ((with_reducible refine gate_callee (f := 14) rfl ?_); refine goesL_ (some 42) rfl rfl Try.func14 (by kernel_rfl) rfl #[.slice Ao28 t259.length co28, .string t262] rfl (by (try simp only [List.map_toArray, List.map_cons, List.map_nil]); first | done | rfl | (simp only [List.length_drop, List.length_take]; rfl)) ?_; (with_reducible refine (spec_Implied.calls kj2 _ _ t259 t262 t265 t266 _ ?side1 ?side2 A9.out).mono ?_); (case side1 => repeat (first | exact (Kd.R_reads' HO261.out).2.2 | (with_reducible refine Kd.C_alloc ?_ _) | (with_reducible refine Kd.C_drewN ?_ _) | (with_reducible refine Kd.C_drew ?_))); (case side2 => exact (Kd.R_reads' HO261.out).2.1); rintro e w30 ⟨rfl, hb⟩; refine ⟨_, rfl, ?_⟩; have n0_ := Aside0.mk (Kd.R_below (by (with_reducible repeat (first | apply Kd.R_alloc | apply Kd.R_drewN | apply Kd.R_drew)); exact HO261.out) hb); have n1_ := Aside0.mk (below_step (by repeat (first | (with_reducible first | exact HB.out | apply below_alloc | apply pw_below_drewN | apply below_drew1) | exact HB.out)) hb); clear HO261; clear HB; have HO261 := n0_; have HB := n1_; clear n0_ n1_; (try clear hb); (try clear hb2); (try clear hk); (try clear hi)) | ((with_reducible refine gate_callee (f := 15) rfl ?_); refine goesL_ (some 48) rfl rfl Try.func15 (by kernel_rfl) rfl #[.slice Ao28 t259.length co28, .string t262] rfl (by (try simp only [List.map_toArray, List.map_cons, List.map_nil]); first | done | rfl | (simp only [List.length_drop, List.length_take]; rfl)) ?_; (with_reducible refine (impl_PlaceOf.calls kj2 _ _ t259 t262 t267 t268 t269 _ ?side1 ?side2 A10.out).mono ?_); (case side1 => repeat (first | exact (Kd.R_reads' HO261.out).2.2 | (with_reducible refine Kd.C_alloc ?_ _) | (with_reducible refine Kd.C_drewN ?_ _) | (with_reducible refine Kd.C_drew ?_))); (case side2 => exact (Kd.R_reads' HO261.out).2.1); rintro e w31 ⟨rfl, hb⟩; refine ⟨_, rfl, ?_⟩; have n0_ := Aside0.mk (Kd.R_below (by (with_reducible repeat (first | apply Kd.R_alloc | apply Kd.R_drewN | apply Kd.R_drew)); exact HO261.out) hb); have n1_ := Aside0.mk (below_step (by repeat (first | (with_reducible first | exact HB.out | apply below_alloc | apply pw_below_drewN | apply below_drew1) | exact HB.out)) hb); clear HO261; clear HB; have HO261 := n0_; have HB := n1_; clear n0_ n1_; (try clear hb); (try clear hb2); (try clear hk); (try clear hi)) | ((with_reducible refine gate_callee (f := 16) rfl ?_); refine goesL_ (some 55) rfl rfl Try.func16 (by kernel_rfl) rfl #[.slice Ao28 t259.length co28, .string t262] rfl (by (try simp only [List.map_toArray, List.map_cons, List.map_nil]); first | done | rfl | (simp only [List.length_drop, List.length_take]; rfl)) ?_; (with_reducible refine (spec_PlaceOf.calls kj2 _ _ t259 t262 t270 t271 t272 _ ?side1 ?side2 A11.out).mono ?_); (case side1 => repeat (first | exact (Kd.R_reads' HO261.out).2.2 | (with_reducible refine Kd.C_alloc ?_ _) | (with_reducible refine Kd.C_drewN ?_ _) | (with_reducible refine Kd.C_drew ?_))); (case side2 => exact (Kd.R_reads' HO261.out).2.1); rintro e w32 ⟨rfl, hb⟩; refine ⟨_, rfl, ?_⟩; have n0_ := Aside0.mk (Kd.R_below (by (with_reducible repeat (first | apply Kd.R_alloc | apply Kd.R_drewN | apply Kd.R_drew)); exact HO261.out) hb); have n1_ := Aside0.mk (below_step (by repeat (first | (with_reducible first | exact HB.out | apply below_alloc | apply pw_below_drewN | apply below_drew1) | exact HB.out)) hb); clear HO261; clear HB; have HO261 := n0_; have HB := n1_; clear n0_ n1_; (try clear hb); (try clear hb2); (try clear hk); (try clear hi)) | ((with_reducible refine gate_callee (f := 17) rfl ?_); refine goesL_ (some 62) rfl rfl Try.func17 (by kernel_rfl) rfl #[.slice Ao28 t259.length co28, .string t262] rfl (by (try simp only [List.map_toArray, List.map_cons, List.map_nil]); first | done | rfl | (simp only [List.length_drop, List.length_take]; rfl)) ?_; (with_reducible refine (impl_CloseAt.calls _ _ t259 t262 t273 t274 _ ?side1 ?side2 A12.out).mono ?_); (case side1 => repeat (first | exact (Kd.R_reads' HO261.out).2.2 | (with_reducible refine Kd.C_alloc ?_ _) | (with_reducible refine Kd.C_drewN ?_ _) | (with_reducible refine Kd.C_drew ?_))); (case side2 => exact (Kd.R_reads' HO261.out).2.1); rintro e w33 ⟨rfl, hb⟩; refine ⟨_, rfl, ?_⟩; have n0_ := Aside0.mk (Kd.R_below (by (with_reducible repeat (first | apply Kd.R_alloc | apply Kd.R_drewN | apply Kd.R_drew)); exact HO261.out) hb); have n1_ := Aside0.mk (below_step (by repeat (first | (with_reducible first | exact HB.out | apply below_alloc | apply pw_below_drewN | apply below_drew1) | exact HB.out)) hb); clear HO261; clear HB; have HO261 := n0_; have HB := n1_; clear n0_ n1_; (try clear hb); (try clear hb2); (try clear hk); (try clear hi)) | ((with_reducible refine gate_callee (f := 18) rfl ?_); refine goesL_ (some 68) rfl rfl Try.func18 (by kernel_rfl) rfl #[.slice Ao28 t259.length co28, .string t262] rfl (by (try simp only [List.map_toArray, List.map_cons, List.map_nil]); first | done | rfl | (simp only [List.length_drop, List.length_take]; rfl)) ?_; (with_reducible refine (spec_CloseAt.calls kj2 _ _ t259 t262 t275 t276 _ ?side1 ?side2 A13.out).mono ?_); (case side1 => repeat (first | exact (Kd.R_reads' HO261.out).2.2 | (with_reducible refine Kd.C_alloc ?_ _) | (with_reducible refine Kd.C_drewN ?_ _) | (with_reducible refine Kd.C_drew ?_))); (case side2 => exact (Kd.R_reads' HO261.out).2.1); rintro e w34 ⟨rfl, hb⟩; refine ⟨_, rfl, ?_⟩; have n0_ := Aside0.mk (Kd.R_below (by (with_reducible repeat (first | apply Kd.R_alloc | apply Kd.R_drewN | apply Kd.R_drew)); exact HO261.out) hb); have n1_ := Aside0.mk (below_step (by repeat (first | (with_reducible first | exact HB.out | apply below_alloc | apply pw_below_drewN | apply below_drew1) | exact HB.out)) hb); clear HO261; clear HB; have HO261 := n0_; have HB := n1_; clear n0_ n1_; (try clear hb); (try clear hb2); (try clear hk); (try clear hi); have p277 : 0 ≤ (t275 : Int) := of_decide_eq_true (by first | (with_reducible assumption) | assumption); have q277 : t275 < (t259.length : Int) := of_decide_eq_true (by first | (with_reducible assumption) | assumption); obtain ⟨ad277, e277, hx277_0, hx277_1⟩ := at_T39 (Kd.R_reads' HO261.out).2.2 t275 p277 q277; cases e277; replace p277 := eq_true p277; replace q277 := eq_true q277))
                                go_ret
                                exact ⟨by first | rfl | (simp [errW_none, errW_some] <;> rfl) | (simp [*, errW_none, errW_some] <;> rfl), by repeat (first | (with_reducible first | exact HB.out | apply below_alloc | apply pw_below_drewN | apply below_drew1) | exact HB.out)⟩
                              · rw [if_neg c25] at H
                                exact absurd H (by simp)
                            · rw [if_neg c24] at H
                              exact absurd H (by simp)
                          · rw [if_neg c23] at H
                            have c23b0 : (t276 == 0) = false := beq_eq_false_iff_ne.mpr c23
                            have c23b1 : (t276 != 0) = true := bne_iff_ne.mpr c23
                            obtain rfl := Option.some.inj H
                            go_wp2_with (first | ((with_reducible refine gate_callee (f := 11) rfl ?_); refine goesL_ (some 30) rfl rfl Try.func11 (by kernel_rfl) rfl #[.slice A0 l0.length c0] rfl (by (try simp only [List.map_toArray, List.map_cons, List.map_nil]); first | done | rfl | (simp only [List.length_drop, List.length_take]; rfl)) ?_; (with_reducible refine (spec_StackDrawn.calls kj2 _ _ l0 t259 _ ?side1 ?side2 A6.out).mono ?_); (case side1 => repeat (first | exact (Kd.C_below HR0.out HB.out) | (with_reducible refine Kd.C_alloc ?_ _) | (with_reducible refine Kd.C_drewN ?_ _) | (with_reducible refine Kd.C_drew ?_))); (case side2 => exact HC0.out); rintro e w35 ⟨v260, rfl, ho0, hb⟩; refine ⟨_, rfl, ?_⟩; have n0_ := Aside0.mk (Kd.R_lower ho0 (below_size (by repeat (first | (with_reducible first | exact HB.out | apply below_alloc | apply pw_below_drewN | apply below_drew1) | exact HB.out)))); have n1_ := Aside0.mk (below_step (by repeat (first | (with_reducible first | exact HB.out | apply below_alloc | apply pw_below_drewN | apply below_drew1) | exact HB.out)) hb); clear HB; have HO261 := n0_; have HB := n1_; clear n0_ n1_; (try clear hb); (try clear hb2); (try clear hk); (try clear hi); (try clear ho0)) | ((with_reducible refine gate_callee (f := 12) rfl ?_); refine goesL_ (some 32) rfl rfl Try.func12 (by kernel_rfl) rfl #[.slice A1 l1.length c1] rfl (by (try simp only [List.map_toArray, List.map_cons, List.map_nil]); first | done | rfl | (simp only [List.length_drop, List.length_take]; rfl)) ?_; (with_reducible refine (spec_TagDrawn.calls _ _ l1 t262 _ ?side1 ?side2 A7.out).mono ?_); (case side1 => repeat (first | exact (Kd.C_below HR1.out HB.out) | (with_reducible refine Kd.C_alloc ?_ _) | (with_reducible refine Kd.C_drewN ?_ _) | (with_reducible refine Kd.C_drew ?_))); (case side2 => exact HC1.out); rintro e w36 ⟨rfl, hb⟩; refine ⟨_, rfl, ?_⟩; have n0_ := Aside0.mk (Kd.R_below (by (with_reducible repeat (first | apply Kd.R_alloc | apply Kd.R_drewN | apply Kd.R_drew)); exact HO261.out) hb); have n1_ := Aside0.mk (below_step (by repeat (first | (with_reducible first | exact HB.out | apply below_alloc | apply pw_below_drewN | apply below_drew1) | exact HB.out)) hb); clear HO261; clear HB; have HO261 := n0_; have HB := n1_; clear n0_ n1_; (try clear hb); (try clear hb2); (try clear hk); (try clear hi); obtain ⟨Ao37, co37, eo37⟩ := Kd.R_slice HO261.out; subst eo37) | ((with_reducible refine gate_callee (f := 13) rfl ?_); refine goesL_ (some 36) rfl rfl Try.func13 (by kernel_rfl) rfl #[.slice Ao37 t259.length co37, .string t262] rfl (by (try simp only [List.map_toArray, List.map_cons, List.map_nil]); first | done | rfl | (simp only [List.length_drop, List.length_take]; rfl)) ?_; (with_reducible refine (impl_Implied.calls kj2 _ _ t259 t262 t263 t264 _ ?side1 ?side2 A8.out).mono ?_); (case side1 => repeat (first | exact (Kd.R_reads' HO261.out).2.2 | (with_reducible refine Kd.C_alloc ?_ _) | (with_reducible refine Kd.C_drewN ?_ _) | (with_reducible refine Kd.C_drew ?_))); (case side2 => exact (Kd.R_reads' HO261.out).2.1); rintro e w38 ⟨rfl, hb⟩; refine ⟨_, rfl, ?_⟩; have n0_ := Aside0.mk (Kd.R_below (by (with_reducible repeat (first | apply Kd.R_alloc | apply Kd.R_drewN | apply Kd.R_drew)); exact HO261.out) hb); have n1_ := Aside0.mk (below_step (by repeat (first | (with_reducible first | exact HB.out | apply below_alloc | apply pw_below_drewN | apply below_drew1) | exact HB.out)) hb); clear HO261; clear HB; have HO261 := n0_; have HB := n1_; clear n0_ n1_; (try clear hb); (try clear hb2); (try clear hk); (try clear hi)) | ((with_reducible refine gate_callee (f := 14) rfl ?_); refine goesL_ (some 42) rfl rfl Try.func14 (by kernel_rfl) rfl #[.slice Ao37 t259.length co37, .string t262] rfl (by (try simp only [List.map_toArray, List.map_cons, List.map_nil]); first | done | rfl | (simp only [List.length_drop, List.length_take]; rfl)) ?_; (with_reducible refine (spec_Implied.calls kj2 _ _ t259 t262 t265 t266 _ ?side1 ?side2 A9.out).mono ?_); (case side1 => repeat (first | exact (Kd.R_reads' HO261.out).2.2 | (with_reducible refine Kd.C_alloc ?_ _) | (with_reducible refine Kd.C_drewN ?_ _) | (with_reducible refine Kd.C_drew ?_))); (case side2 => exact (Kd.R_reads' HO261.out).2.1); rintro e w39 ⟨rfl, hb⟩; refine ⟨_, rfl, ?_⟩; have n0_ := Aside0.mk (Kd.R_below (by (with_reducible repeat (first | apply Kd.R_alloc | apply Kd.R_drewN | apply Kd.R_drew)); exact HO261.out) hb); have n1_ := Aside0.mk (below_step (by repeat (first | (with_reducible first | exact HB.out | apply below_alloc | apply pw_below_drewN | apply below_drew1) | exact HB.out)) hb); clear HO261; clear HB; have HO261 := n0_; have HB := n1_; clear n0_ n1_; (try clear hb); (try clear hb2); (try clear hk); (try clear hi)) | ((with_reducible refine gate_callee (f := 15) rfl ?_); refine goesL_ (some 48) rfl rfl Try.func15 (by kernel_rfl) rfl #[.slice Ao37 t259.length co37, .string t262] rfl (by (try simp only [List.map_toArray, List.map_cons, List.map_nil]); first | done | rfl | (simp only [List.length_drop, List.length_take]; rfl)) ?_; (with_reducible refine (impl_PlaceOf.calls kj2 _ _ t259 t262 t267 t268 t269 _ ?side1 ?side2 A10.out).mono ?_); (case side1 => repeat (first | exact (Kd.R_reads' HO261.out).2.2 | (with_reducible refine Kd.C_alloc ?_ _) | (with_reducible refine Kd.C_drewN ?_ _) | (with_reducible refine Kd.C_drew ?_))); (case side2 => exact (Kd.R_reads' HO261.out).2.1); rintro e w40 ⟨rfl, hb⟩; refine ⟨_, rfl, ?_⟩; have n0_ := Aside0.mk (Kd.R_below (by (with_reducible repeat (first | apply Kd.R_alloc | apply Kd.R_drewN | apply Kd.R_drew)); exact HO261.out) hb); have n1_ := Aside0.mk (below_step (by repeat (first | (with_reducible first | exact HB.out | apply below_alloc | apply pw_below_drewN | apply below_drew1) | exact HB.out)) hb); clear HO261; clear HB; have HO261 := n0_; have HB := n1_; clear n0_ n1_; (try clear hb); (try clear hb2); (try clear hk); (try clear hi)) | ((with_reducible refine gate_callee (f := 16) rfl ?_); refine goesL_ (some 55) rfl rfl Try.func16 (by kernel_rfl) rfl #[.slice Ao37 t259.length co37, .string t262] rfl (by (try simp only [List.map_toArray, List.map_cons, List.map_nil]); first | done | rfl | (simp only [List.length_drop, List.length_take]; rfl)) ?_; (with_reducible refine (spec_PlaceOf.calls kj2 _ _ t259 t262 t270 t271 t272 _ ?side1 ?side2 A11.out).mono ?_); (case side1 => repeat (first | exact (Kd.R_reads' HO261.out).2.2 | (with_reducible refine Kd.C_alloc ?_ _) | (with_reducible refine Kd.C_drewN ?_ _) | (with_reducible refine Kd.C_drew ?_))); (case side2 => exact (Kd.R_reads' HO261.out).2.1); rintro e w41 ⟨rfl, hb⟩; refine ⟨_, rfl, ?_⟩; have n0_ := Aside0.mk (Kd.R_below (by (with_reducible repeat (first | apply Kd.R_alloc | apply Kd.R_drewN | apply Kd.R_drew)); exact HO261.out) hb); have n1_ := Aside0.mk (below_step (by repeat (first | (with_reducible first | exact HB.out | apply below_alloc | apply pw_below_drewN | apply below_drew1) | exact HB.out)) hb); clear HO261; clear HB; have HO261 := n0_; have HB := n1_; clear n0_ n1_; (try clear hb); (try clear hb2); (try clear hk); (try clear hi)) | ((with_reducible refine gate_callee (f := 17) rfl ?_); refine goesL_ (some 62) rfl rfl Try.func17 (by kernel_rfl) rfl #[.slice Ao37 t259.length co37, .string t262] rfl (by (try simp only [List.map_toArray, List.map_cons, List.map_nil]); first | done | rfl | (simp only [List.length_drop, List.length_take]; rfl)) ?_; (with_reducible refine (impl_CloseAt.calls _ _ t259 t262 t273 t274 _ ?side1 ?side2 A12.out).mono ?_); (case side1 => repeat (first | exact (Kd.R_reads' HO261.out).2.2 | (with_reducible refine Kd.C_alloc ?_ _) | (with_reducible refine Kd.C_drewN ?_ _) | (with_reducible refine Kd.C_drew ?_))); (case side2 => exact (Kd.R_reads' HO261.out).2.1); rintro e w42 ⟨rfl, hb⟩; refine ⟨_, rfl, ?_⟩; have n0_ := Aside0.mk (Kd.R_below (by (with_reducible repeat (first | apply Kd.R_alloc | apply Kd.R_drewN | apply Kd.R_drew)); exact HO261.out) hb); have n1_ := Aside0.mk (below_step (by repeat (first | (with_reducible first | exact HB.out | apply below_alloc | apply pw_below_drewN | apply below_drew1) | exact HB.out)) hb); clear HO261; clear HB; have HO261 := n0_; have HB := n1_; clear n0_ n1_; (try clear hb); (try clear hb2); (try clear hk); (try clear hi)) | ((with_reducible refine gate_callee (f := 18) rfl ?_); refine goesL_ (some 68) rfl rfl Try.func18 (by kernel_rfl) rfl #[.slice Ao37 t259.length co37, .string t262] rfl (by (try simp only [List.map_toArray, List.map_cons, List.map_nil]); first | done | rfl | (simp only [List.length_drop, List.length_take]; rfl)) ?_; (with_reducible refine (spec_CloseAt.calls kj2 _ _ t259 t262 t275 t276 _ ?side1 ?side2 A13.out).mono ?_); (case side1 => repeat (first | exact (Kd.R_reads' HO261.out).2.2 | (with_reducible refine Kd.C_alloc ?_ _) | (with_reducible refine Kd.C_drewN ?_ _) | (with_reducible refine Kd.C_drew ?_))); (case side2 => exact (Kd.R_reads' HO261.out).2.1); rintro e w43 ⟨rfl, hb⟩; refine ⟨_, rfl, ?_⟩; have n0_ := Aside0.mk (Kd.R_below (by (with_reducible repeat (first | apply Kd.R_alloc | apply Kd.R_drewN | apply Kd.R_drew)); exact HO261.out) hb); have n1_ := Aside0.mk (below_step (by repeat (first | (with_reducible first | exact HB.out | apply below_alloc | apply pw_below_drewN | apply below_drew1) | exact HB.out)) hb); clear HO261; clear HB; have HO261 := n0_; have HB := n1_; clear n0_ n1_; (try clear hb); (try clear hb2); (try clear hk); (try clear hi)))
                            go_ret
                            exact ⟨by first | rfl | (simp [errW_none, errW_some] <;> rfl) | (simp [*, errW_none, errW_some] <;> rfl), by repeat (first | (with_reducible first | exact HB.out | apply below_alloc | apply pw_below_drewN | apply below_drew1) | exact HB.out)⟩
                        · rw [if_neg c22] at H
                          have c22b0 : (t273 == t275) = false := beq_eq_false_iff_ne.mpr c22
                          have c22b1 : (t273 != t275) = true := bne_iff_ne.mpr c22
                          exact absurd ((Option.some.inj H).trans HRT.out) (by decide)
                      · rw [if_neg c21] at H
                        have c21b0 : (t274 == t276) = false := beq_eq_false_iff_ne.mpr c21
                        have c21b1 : (t274 != t276) = true := bne_iff_ne.mpr c21
                        exact absurd ((Option.some.inj H).trans HRT.out) (by decide)
                    · rw [if_neg c20] at H
                      have c20b0 : (t267 == (wrap64 ((t259.length : Int) - t263))) = false := beq_eq_false_iff_ne.mpr c20
                      have c20b1 : (t267 != (wrap64 ((t259.length : Int) - t263))) = true := bne_iff_ne.mpr c20
                      exact absurd ((Option.some.inj H).trans HRT.out) (by decide)
                  · rw [if_neg c19] at H
                    have c19b0 : (t268 == t271) = false := beq_eq_false_iff_ne.mpr c19
                    have c19b1 : (t268 != t271) = true := bne_iff_ne.mpr c19
                    exact absurd ((Option.some.inj H).trans HRT.out) (by decide)
                · rw [if_neg c18] at H
                  have c18b0 : (t267 == t270) = false := beq_eq_false_iff_ne.mpr c18
                  have c18b1 : (t267 != t270) = true := bne_iff_ne.mpr c18
                  exact absurd ((Option.some.inj H).trans HRT.out) (by decide)
              · rw [if_neg c17] at H
                have c17b0 : (t269 == t272) = false := beq_eq_false_iff_ne.mpr c17
                have c17b1 : (t269 != t272) = true := bne_iff_ne.mpr c17
                exact absurd ((Option.some.inj H).trans HRT.out) (by decide)
            · rw [if_neg c16] at H
              have c16b0 : (t263 == t265) = false := beq_eq_false_iff_ne.mpr c16
              have c16b1 : (t263 != t265) = true := bne_iff_ne.mpr c16
              exact absurd ((Option.some.inj H).trans HRT.out) (by decide)
          · rw [if_neg c15] at H
            have c15b0 : (t266 == 0) = false := beq_eq_false_iff_ne.mpr c15
            have c15b1 : (t266 != 0) = true := bne_iff_ne.mpr c15
            exact absurd ((Option.some.inj H).trans HRT.out) (by decide)
        · rw [if_neg c14] at H
          have c14b0 : (t264 == t266) = false := beq_eq_false_iff_ne.mpr c14
          have c14b1 : (t264 != t266) = true := bne_iff_ne.mpr c14
          exact absurd ((Option.some.inj H).trans HRT.out) (by decide)

/-- THE ONE PURE STATEMENT of laws_FnImplied: yours. -/
def laws_FnImplied.Pure : Prop := ∀ (l0 : List Int) (l1 : List Int), l0.length ≤ maxLen → l0.length * 1 ≤ 140737488351232 → (∀ x ∈ l0, (Lit.int .u8 x).wf = true) → l1.length ≤ maxLen → l1.length * 1 ≤ 140737488351232 → (∀ x ∈ l1, (Lit.int .u8 x).wf = true) → ∃ k, laws_FnImplied.f k l0 l1 = some true
theorem laws_FnImplied.walk (P : laws_FnImplied.Pure) (a0 : Option Addr) (len0 cap0 : Nat) (z0 : List Int) (a1 : Option Addr) (len1 cap1 : Nat) (z1 : List Int) (w : World) (w0 : (a0 = none ∧ len0 = 0 ∧ cap0 = 0 ∧ z0 = []) ∨ ∃ x, a0 = some x ∧ len0 ≤ cap0 ∧ cap0 ≤ maxLen ∧ z0.length = cap0 ∧ (∀ i, i < z0.length → w.cell? (x.add i) = some (.int .u8 (z0.getD i 0))) ∧ ∀ n ∈ z0, (Lit.int .u8 n).wf = true) (y0 : len0 * 1 ≤ 140737488351232) (w1 : (a1 = none ∧ len1 = 0 ∧ cap1 = 0 ∧ z1 = []) ∨ ∃ x, a1 = some x ∧ len1 ≤ cap1 ∧ cap1 ≤ maxLen ∧ z1.length = cap1 ∧ (∀ i, i < z1.length → w.cell? (x.add i) = some (.int .u8 (z1.getD i 0))) ∧ ∀ n ∈ z1, (Lit.int .u8 n).wf = true) (y1 : len1 * 1 ≤ 140737488351232) :
    Calls Try.prog 4 #[.slice a0 len0 cap0, .slice a1 len1 cap1] w fun e w' => e = .returned (.bool true) ∧ Below w.heap.size w w' := by
  obtain ⟨l0, rfl, hr0, hm0, hw0, hc0⟩ := ReadsInt.ofRowC w0
  obtain ⟨l1, rfl, hr1, hm1, hw1, hc1⟩ := ReadsInt.ofRowC w1
  obtain ⟨k, h⟩ := P l0 l1 hm0 y0 hw0 hm1 y1 hw1
  refine (laws_FnImplied.calls k _ _ l0 _ _ l1 true w (Kd.C_of_reads (d := (0 : Int)) (h1 := fun _ => rfl) hr0) hc0 (Kd.C_of_reads (d := (0 : Int)) (h1 := fun _ => rfl) hr1) hc1 h ⟨rfl⟩).mono ?_
  rintro e w' ⟨rfl, hd⟩
  exact ⟨rfl, hd⟩

end Go.Proofs.Ytmeafbneklphnaa.PFnImplied
