/- By a program of this session, out of the kit's print and contracts made by hand: the machine side of a law; Lean checks it. No conditions. -/
import Derived.Test.YtophaihdibplkaaPFnExactSafeDocsx0
import Derived.Test.YtophaihdibplkaaPFnExactSafeDocsx1
import Derived.Test.YtophaihdibplkaaPFnExactSafeDocsx6
import Derived.Test.YtophaihdibplkaaPFnExactSafeDocsx8
import Derived.Test.YtophaihdibplkaaPFnExactSafeDocsx12
import Derived.Test.YtophaihdibplkaaPFnExactSafeDocsx13
import Derived.Test.YtophaihdibplkaaPFnExactSafeDocsx14
import Derived.Test.YtophaihdibplkaaPFnExactSafeDocsx17
import Derived.Test.YtophaihdibplkaaPFnExactSafeDocsx19
namespace Go.Proofs.Ytophaihdibplkaa.PFnExactSafeDocs
open Go.RowKit Go.Proofs.YtophaihdibplkaaW.PrintWords Go.Proofs.YtophaihdibplkaaW.PrintLast Go.Proofs.YtophaihdibplkaaW.PrintMore
attribute [local go_sem] max2_int min2_int max_two min_two max_three min_three max_four min_four   -- for this text's walks alone
set_option linter.unusedVariables false
set_option linter.unusedSimpArgs false

/-! ### laws_heldBoolS: function 57 -/
def laws_heldBoolS.l0 : Nat → List Bool → Int → Int → Option (Int)
  | 0, _, _, _ => none
  | k + 1, x0, x1, x5 => if x5 < (x0.length : Int) then (if 0 ≤ x5 then (if ((rdOf false x0 x5) != ((Int.tmod x1 3) == 0)) = true then (some (-1)) else (laws_heldBoolS.l0 k x0 (wrap64 (x1 + 1)) (wrap64 (x5 + 1)))) else (none)) else (some x1)
def laws_heldBoolS.f (k : Nat) (l0 : List Bool) (a1 : Int) : Option (Int) := laws_heldBoolS.l0 k l0 a1 0
theorem laws_heldBoolS.mono_l : ∀ k, (∀ y0 y1 y2, LeO (laws_heldBoolS.l0 k y0 y1 y2) (laws_heldBoolS.l0 (k + 1) y0 y1 y2))
  | 0 => fun _ _ _ r h => by simp [laws_heldBoolS.l0] at h
  | k + 1 => by
    have ih0 := laws_heldBoolS.mono_l k
    · intro y0 y1 y2
      unfold laws_heldBoolS.l0
      repeat' first
      | (with_reducible exact ih0 _ _ _)
      | (with_reducible exact LeO.refl _)
      | (with_reducible exact LeO.none _)
      | (with_reducible refine LeO.ite ?_ ?_)
      | (with_reducible refine LeO.bind ?_ (fun _ => ?_))
      | exact ih0 _ _ _
      | exact LeO.none _
      | refine LeO.ite ?_ ?_
      | refine LeO.bind ?_ (fun _ => ?_)
theorem laws_heldBoolS.mono : ∀ a0 a1 k, LeO (laws_heldBoolS.f k a0 a1) (laws_heldBoolS.f (k + 1) a0 a1) := by
  intro a0 a1 k
  have ih0 := laws_heldBoolS.mono_l k
  unfold laws_heldBoolS.f
  repeat' first
      | (with_reducible exact ih0 _ _ _)
      | (with_reducible exact LeO.refl _)
      | (with_reducible exact LeO.none _)
      | (with_reducible refine LeO.ite ?_ ?_)
      | (with_reducible refine LeO.bind ?_ (fun _ => ?_))
      | exact ih0 _ _ _
      | exact LeO.none _
      | refine LeO.ite ?_ ?_
      | refine LeO.bind ?_ (fun _ => ?_)
set_option maxHeartbeats 8000000 in
set_option maxRecDepth 100000 in
theorem laws_heldBoolS.calls (k : Nat) (A0 : Option Addr) (c0 : Nat) (l0 : List Bool) (a1 : Int) (r : Int) (w : World) (hr0 : Kd.C Kd.bool w A0 l0.length l0) (hc0 : l0.length ≤ c0) (h : laws_heldBoolS.f k l0 a1 = some r) :
    Calls Try.prog 57 #[.slice A0 l0.length c0, .int .i64 a1] w fun e w' => e = .returned (.int .i64 r) ∧ Drawn0 w w' := by
  have HR0 := Aside0.mk hr0
  have HC0 := Aside0.mk hc0
  clear hr0 hc0
  have H : (laws_heldBoolS.l0 k l0 a1 0) = some r := h
  clear h
  have H' := Aside0.mk H
  clear H
  go_enter Try.func57, Try.ntmps57
  go_wp2
  go_loopg [1, 5] k (fun kq v1 v5 w' => ∃ (x1_1 : Int) (x5_1 : Int), v1 = .int .i64 x1_1 ∧ v5 = .int .i64 x5_1 ∧ Aside0 (laws_heldBoolS.l0 kq l0 x1_1 x5_1 = some r) ∧ Aside0 (kq ≤ k) ∧ Drawn0 w w')
  case atStart => exact ⟨(a1), (0), (by first | rfl | (simp; done) | (simp [*]; done)), (by first | rfl | (simp; done) | (simp [*]; done)), H', ⟨Nat.le_refl _⟩, by repeat (first | exact Drawn0.refl _ | apply Drawn0.step)⟩
  case round =>
    clear H'
    try clear p2
    obtain ⟨x1_1, x5_1, rfl, rfl, HA, HK1, ⟨m1, rfl⟩⟩ := hrel
    cases gk with
    | zero => exact absurd HA.out (by simp [laws_heldBoolS.l0])
    | succ k1 =>
      have H := HA.out
      clear HA
      simp only [laws_heldBoolS.l0] at H
      by_cases c3 : x5_1 < (l0.length : Int)
      · rw [if_pos c3] at H
        have c3b0 : decide (x5_1 < (l0.length : Int)) = true := decide_eq_true c3
        clear c3
        by_cases c4 : 0 ≤ x5_1
        · rw [if_pos c4] at H
          have c4b0 : decide (0 ≤ x5_1) = true := decide_eq_true c4
          clear c4
          by_cases c5 : ((rdOf false l0 x5_1) != ((Int.tmod x1_1 3) == 0)) = true
          · rw [if_pos c5] at H
            have c5b0 : ((rdOf false l0 x5_1) != ((Int.tmod x1_1 3) == 0)) = true := c5
            (try (have c5b1 : decide ((rdOf false l0 x5_1) = ((Int.tmod x1_1 3) == 0)) = false := by simpa using c5))
            (try (have c5b2 : ((rdOf false l0 x5_1) == ((Int.tmod x1_1 3) == 0)) = false := by simpa using c5))
            (try (have c5b3 : ¬ ((rdOf false l0 x5_1) = ((Int.tmod x1_1 3) == 0)) := by simpa using c5))
            clear c5
            obtain rfl := Option.some.inj H
            have p187 : 0 ≤ (x5_1 : Int) := of_decide_eq_true (by first | (with_reducible assumption) | assumption)
            have q187 : x5_1 < (l0.length : Int) := of_decide_eq_true (by first | (with_reducible assumption) | assumption)
            obtain ⟨ad187, e187, hx187_0⟩ := Kd.at_bool HR0.out x5_1 p187 q187
            cases e187
            replace p187 := eq_true p187
            replace q187 := eq_true q187
            go_wp2
            go_ret
            exact ⟨by first | rfl | (simp; done) | (simp [*]; done), by repeat (first | exact Drawn0.refl _ | apply Drawn0.step)⟩
          · rw [if_neg c5] at H
            have c5b0 : ((rdOf false l0 x5_1) != ((Int.tmod x1_1 3) == 0)) = false := by simpa using c5
            (try (have c5b1 : decide ((rdOf false l0 x5_1) = ((Int.tmod x1_1 3) == 0)) = true := by simpa using c5))
            (try (have c5b2 : ((rdOf false l0 x5_1) == ((Int.tmod x1_1 3) == 0)) = true := by simpa using c5))
            clear c5
            have H' := Aside0.mk H
            clear H
            have p187 : 0 ≤ (x5_1 : Int) := of_decide_eq_true (by first | (with_reducible assumption) | assumption)
            have q187 : x5_1 < (l0.length : Int) := of_decide_eq_true (by first | (with_reducible assumption) | assumption)
            obtain ⟨ad187, e187, hx187_0⟩ := Kd.at_bool HR0.out x5_1 p187 q187
            cases e187
            replace p187 := eq_true p187
            replace q187 := eq_true q187
            go_wp2
            go_roundg k1
            case measure => have := HK1.out; omega
            case rel => exact ⟨(wrap64 (x1_1 + 1)), (wrap64 (x5_1 + 1)), (by first | rfl | (simp; done) | (simp [*]; done)), (by first | rfl | (simp; done) | (simp [*]; done)), H', ⟨by have := HK1.out; omega⟩, by repeat (first | exact Drawn0.refl _ | apply Drawn0.step)⟩
        · rw [if_neg c4] at H
          exact absurd H (by simp)
      · rw [if_neg c3] at H
        have c3b0 : decide (x5_1 < (l0.length : Int)) = false := decide_eq_false c3
        clear c3
        obtain rfl := Option.some.inj H
        go_wp2
        go_ret
        exact ⟨by first | rfl | (simp; done) | (simp [*]; done), by repeat (first | exact Drawn0.refl _ | apply Drawn0.step)⟩

/-! ### laws_FnExactSafeDocs: function 9, by hand -/
def sdP (k : Nat) (c : S27) : Bool := (impl_CallOK.f k c.f0 c.f1 c.f2 c.f3 c.f4 c.f5).getD false
def laws_FnExactSafeDocs.f (k : Nat) (x : List S24) : Option Bool :=
  (laws_szCallS.f k x 1048576).bind fun q => if q < 0 then some true else (laws_toCallS.f k x).bind fun y => (spec_SafeDocs.f k y).bind fun b =>
    if ((y.all fun c => (impl_CallOK.f k c.f0 c.f1 c.f2 c.f3 c.f4 c.f5).isSome) && ((sdRes (sdP k) y).2 == b.2) && (laws_eqBoolS.f k (sdRes (sdP k) y).1 b.1 == some true) && (laws_eqCallS.f k y y == some true)) = true then
      (laws_markCallS.f k y 1).bind fun m => if 0 ≤ m.1 then (laws_markBoolS.f k (sdRes (sdP k) y).1 1).bind fun n => if (decide (0 ≤ n.1) && (laws_heldBoolS.f k n.2 1 == some n.1)) = true then some true else none else none
    else none
set_option maxHeartbeats 8000000 in
set_option maxRecDepth 100000 in
theorem laws_FnExactSafeDocs.calls (k : Nat) (A0 : Option Addr) (c0 : Nat) (x : List S24) (r : Bool) (w : World) (hr0 : Kd.C k24 w A0 x.length x) (hc0 : x.length ≤ c0) (h : laws_FnExactSafeDocs.f k x = some r) (hr : Aside0 (r = true)) :
    Calls Try.prog 9 #[.slice A0 x.length c0] w fun e w' => e = .returned (.bool r) ∧ Below w.heap.size w w' := by
  obtain rfl := hr.out
  clear hr
  unfold laws_FnExactSafeDocs.f at h
  obtain ⟨q, hq, h⟩ := Option.bind_eq_some_iff.mp h
  have QS := Aside0.mk (laws_szCallS.calls k A0 c0 x 1048576 q w hr0 hc0 hq)
  by_cases c1 : q < 0
  · have z1 : decide (q < 0) = true := decide_eq_true c1
    clear h hq c1 hr0 hc0
    generalize x.length = n at *
    go_enter Try.func9, Try.ntmps9
    go_wp2_with (go_at_call 49; (with_reducible refine QS.out.mono ?_); rintro e w1 ⟨rfl, hb⟩; (have HB := Aside0.mk hb); clear hb)
    go_ret
    exact ⟨rfl, HB.out⟩
  rw [if_neg c1] at h
  have z1 : decide (q < 0) = false := decide_eq_false c1
  obtain ⟨y, hy, h⟩ := Option.bind_eq_some_iff.mp h
  obtain ⟨⟨b1, b2⟩, hb, h⟩ := Option.bind_eq_some_iff.mp h
  split at h
  case isFalse => cases h
  rename_i hc
  simp only [Bool.and_eq_true, List.all_eq_true, beq_iff_eq] at hc
  obtain ⟨⟨⟨hok, he2⟩, heq⟩, hec⟩ := hc
  obtain ⟨⟨m, y'⟩, hm, h⟩ := Option.bind_eq_some_iff.mp h
  split at h
  case isFalse => cases h
  rename_i hm0
  obtain ⟨⟨mm, g'⟩, hg, h⟩ := Option.bind_eq_some_iff.mp h
  split at h
  case isFalse => cases h
  rename_i hh
  clear h
  simp only [Bool.and_eq_true, decide_eq_true_eq, beq_iff_eq] at hh
  obtain ⟨hmm0, hheld⟩ := hh
  have hP : ∀ c ∈ y, impl_CallOK.f k c.f0 c.f1 c.f2 c.f3 c.f4 c.f5 = some (sdP k c) := fun c hc => by
    have := hok c hc
    unfold sdP
    revert this
    cases impl_CallOK.f k c.f0 c.f1 c.f2 c.f3 c.f4 c.f5 <;> simp
  have QT : Aside0 (∀ V, Below w.heap.size w V → Calls Try.prog 51 #[.slice A0 x.length c0] V fun e w' => ∃ A c, e = .returned (.slice A y.length c) ∧ Kd.S k27 27 w' V.heap.size (fun _ => True) (.slice A y.length c) y ∧ Below V.heap.size V w') := ⟨fun V hV => (laws_toCallS.calls k A0 c0 x y V (Kd.C_below hr0 hV) hc0 hy).mono fun e w' ⟨v, he, hs, hb⟩ => by
    obtain ⟨A, c, rfl⟩ := Kd.S_slice hs
    exact ⟨A, c, he, hs, hb⟩⟩
  have QP : Aside0 (∀ V A c base ok, Kd.S k27 27 V base ok (.slice A y.length c) y → Calls Try.prog 50 #[.slice A y.length c] V fun e w' => ∃ A' c', e = .returned (.tuple #[.slice A' b1.length c', .int .i64 b2]) ∧ Kd.R Kd.bool 4 w' V.heap.size (fun _ => True) (.slice A' b1.length c') b1 ∧ Below V.heap.size V w') := ⟨fun V A c base ok hs => (spec_SafeDocs.calls k A c y b1 b2 V (Kd.S_reads' hs).2.2 (Kd.S_reads' hs).2.1 hb).mono fun e w' ⟨v, he, hs, hb⟩ => by
    obtain ⟨A, c, rfl⟩ := Kd.R_slice hs
    exact ⟨A, c, he, hs, hb⟩⟩
  obtain ⟨g, hgg⟩ : ∃ g, (sdRes (sdP k) y).1 = g := ⟨_, rfl⟩
  have QI : Aside0 (∀ V A c base ok, Kd.S k27 27 V base ok (.slice A y.length c) y → Calls Try.prog 52 #[.slice A y.length c] V fun e w' => ∃ A' c', e = .returned (.tuple #[.slice A' g.length c', .int .i64 b2]) ∧ Kd.R Kd.bool 4 w' V.heap.size (fun _ => True) (.slice A' g.length c') g ∧ Below V.heap.size V w') := ⟨fun V A c base ok hs => (impl_SafeDocs.calls k A c y (sdP k) V (Kd.S_reads' hs).2.2 (Kd.S_reads' hs).2.1 hP).mono fun e w' ⟨v, he, hs, hb⟩ => by
    rw [hgg] at hs
    rw [he2] at he
    obtain ⟨A, c, rfl⟩ := Kd.R_slice hs
    exact ⟨A, c, he, hs, hb⟩⟩
  rw [hgg] at heq hg
  have QE : Aside0 (∀ V A c A' c' base base' ok ok', Kd.R Kd.bool 4 V base ok (.slice A g.length c) g → Kd.R Kd.bool 4 V base' ok' (.slice A' b1.length c') b1 → Calls Try.prog 53 #[.slice A g.length c, .slice A' b1.length c'] V fun e w' => e = .returned (.bool true) ∧ Below V.heap.size V w') := ⟨fun V A c A' c' base base' ok ok' h1 h2 => (laws_eqBoolS.calls k A c g A' c' b1 true V (Kd.R_reads' h1).2.2 (Kd.R_reads' h1).2.1 (Kd.R_reads' h2).2.2 (Kd.R_reads' h2).2.1 heq).mono fun e w' ⟨he, hd⟩ => ⟨he, hd.below⟩⟩
  have QC : Aside0 (∀ V A c A' c' base base' ok ok', Kd.S k27 27 V base ok (.slice A y.length c) y → Kd.S k27 27 V base' ok' (.slice A' y.length c') y → Calls Try.prog 54 #[.slice A y.length c, .slice A' y.length c'] V fun e w' => e = .returned (.bool true) ∧ Below V.heap.size V w') := ⟨fun V A c A' c' base base' ok ok' h1 h2 => laws_eqCallS.calls k A c y A' c' y true V (Kd.S_reads' h1).2.2 (Kd.S_reads' h1).2.1 (Kd.S_reads' h2).2.2 (Kd.S_reads' h2).2.1 hec⟩
  have QH : Aside0 (∀ V A c base ok, Kd.R Kd.bool 4 V base ok (.slice A g.length c) g' → Calls Try.prog 57 #[.slice A g.length c, .int .i64 1] V fun e w' => e = .returned (.int .i64 mm) ∧ Below V.heap.size V w') := ⟨fun V A c base ok h1 => by
    have hl := (Kd.R_reads' h1).1
    rw [hl]
    exact (laws_heldBoolS.calls k A c g' 1 mm V (Kd.R_reads' h1).2.2 (hl ▸ (Kd.R_reads' h1).2.1) hheld).mono fun e w' ⟨he, hd⟩ => ⟨he, hd.below⟩⟩
  have QM := Aside0.mk hm
  have QB := Aside0.mk hg
  have HB0 := Aside0.mk (Below.refl w.heap.size w)
  have z2 : decide (m < 0) = false := decide_eq_false (by omega)
  have z3 : decide (mm < 0) = false := decide_eq_false (by omega)
  clear hm hg hheld hmm0 hm0 heq hec hgg hP hok he2 hb hy hq c1 hr0 hc0
  generalize x.length = nx at *
  generalize y.length = ny at *
  generalize b1.length = nb at *
  generalize g.length = ng at *
  go_enter Try.func9, Try.ntmps9
  go_wp2_with (first | (go_at_call 49; (with_reducible refine QS.out.mono ?_); rintro e w1 ⟨rfl, hb⟩; (have HB1 := Aside0.mk (hb)); clear hb QS HB0; (have HT := Aside0.mk (True.intro));) | (go_at_call 51; (have HT_ := HT.out); clear HT HT_; (with_reducible refine (QT.out _ HB1.out).mono ?_); rintro e w2 ⟨Y1, d1, rfl, hs, hb⟩; (have HS1 := Aside0.mk (hs)); (have HB2 := Aside0.mk (below_step HB1.out hb)); clear hs hb HB1) | (go_at_call 50; (with_reducible refine (QP.out _ _ _ _ _ HS1.out).mono ?_); rintro e w3 ⟨Bb, cb, rfl, hs, hb⟩; (have HV := Aside0.mk (hs)); (have HB3 := Aside0.mk (below_step HB2.out hb)); (have HT2 := Aside0.mk (True.intro)); clear hs hb HS1 HB2) | (go_at_call 51; (have HT_ := HT2.out); clear HT2 HT_; (with_reducible refine (QT.out _ HB3.out).mono ?_); rintro e w4 ⟨X0, dx, rfl, hs, hb⟩; (have HX := Aside0.mk (hs)); (have HD := Aside0.mk (hb)); (have HT3 := Aside0.mk (True.intro)); clear hs hb) | (go_at_call 52; (have HT_ := HT3.out); clear HT3 HT_; (with_reducible refine (QI.out _ _ _ _ _ HX.out).mono ?_); rintro e w5 ⟨G, cg, rfl, hs, hb⟩; (have HG := Aside0.mk (hs)); (have HX5 := Aside0.mk (Kd.S_old HX.out hb)); (have HD5 := Aside0.mk (below_step HD.out hb)); (have HT4 := Aside0.mk (True.intro)); clear hs hb HX) | (go_at_call 53; (have HT_ := HT4.out); clear HT4 HT_; (with_reducible refine (QE.out _ _ _ _ _ _ _ _ _ HG.out (Kd.R_below HV.out HD5.out)).mono ?_); rintro e w6 ⟨rfl, hb⟩; (have HG6 := Aside0.mk (Kd.R_below HG.out hb)); (have HX6 := Aside0.mk (Kd.S_below HX5.out hb)); (have HD6 := Aside0.mk (below_step HD5.out hb)); (have HT5 := Aside0.mk (True.intro)); clear hb HG HX5 HD5) | (go_at_call 51; (have HT_ := HT5.out); clear HT5 HT_; (with_reducible refine (QT.out _ (HB3.out.trans (HD6.out.mono HB3.out.size))).mono ?_); rintro e w7 ⟨Y2, d2, rfl, hs, hb⟩; (have HS2 := Aside0.mk (hs)); (have HG7 := Aside0.mk (Kd.R_below HG6.out hb)); (have HX7 := Aside0.mk (Kd.S_below HX6.out hb)); (have HD7 := Aside0.mk (below_step HD6.out hb)); clear hs hb HG6 HX6 HD6) | (go_at_call 54; (with_reducible refine (QC.out _ _ _ _ _ _ _ _ _ HX7.out HS2.out).mono ?_); rintro e w8 ⟨rfl, hb⟩; (have HG8 := Aside0.mk (Kd.R_below HG7.out hb)); (have HX8 := Aside0.mk (Kd.S_below HX7.out hb)); (have HD8 := Aside0.mk (below_step HD7.out hb)); clear hb HS2 HG7 HX7 HD7) | (go_at_call 55; (with_reducible refine (laws_markCallS.calls k _ _ _ 1 m y' w3 _ HD8.out HX8.out QM.out).mono ?_); rintro e w9 ⟨rfl, hs, hb, hk⟩; (have HG9 := Aside0.mk (Kd.R_kept (Kd.R_tight rfl HG8.out) hk (fun k e h => by have := Kd.R_base HG8.out k e.symm; have := h.2; omega))); (have HD9 := Aside0.mk (hb)); (have HT6 := Aside0.mk (True.intro)); clear hs hb hk HG8 HX8 HD8) | (go_at_call 53; (have HT_ := HT6.out); clear HT6 HT_; (with_reducible refine (QE.out _ _ _ _ _ _ _ _ _ HG9.out (Kd.R_below HV.out HD9.out)).mono ?_); rintro e w10 ⟨rfl, hb⟩; (have HG10 := Aside0.mk (Kd.R_lower (Kd.R_below HG9.out hb) HD.out.size)); (have HD10 := Aside0.mk (below_step HD9.out hb)); clear hb HG9 HD9) | (go_at_call 56; (with_reducible refine (laws_markBoolS.calls k _ _ g 1 mm g' w3 _ HD10.out HG10.out QB.out).mono ?_); rintro e w11 ⟨rfl, hs, hb, hk⟩; (have HG11 := Aside0.mk (hs)); (have HD11 := Aside0.mk (hb)); (have HT7 := Aside0.mk (True.intro)); clear hs hb hk HG10 HD10) | (go_at_call 57; (have HT_ := HT7.out); clear HT7 HT_; (with_reducible refine (QH.out _ _ _ _ _ HG11.out).mono ?_); rintro e w12 ⟨rfl, hb⟩; (have HG12 := Aside0.mk (Kd.R_below HG11.out hb)); (have HD12 := Aside0.mk (below_step HD11.out hb)); (have HT8 := Aside0.mk (True.intro)); clear hb HG11 HD11) | (go_at_call 51; (have HT_ := HT8.out); clear HT8 HT_; (with_reducible refine (QT.out _ (HB3.out.trans (HD12.out.mono HB3.out.size))).mono ?_); rintro e w13 ⟨Y3, d3, rfl, hs, hb⟩; (have HS3 := Aside0.mk (hs)); (have HG13 := Aside0.mk (Kd.R_below HG12.out hb)); (have HD13 := Aside0.mk (below_step HD12.out hb)); clear hs hb HG12 HD12) | (go_at_call 52; (with_reducible refine (QI.out _ _ _ _ _ HS3.out).mono ?_); rintro e w14 ⟨G2, cg2, rfl, hs, hb⟩; (have HH := Aside0.mk (hs)); (have HG14 := Aside0.mk (Kd.R_below HG13.out hb)); (have HD14 := Aside0.mk (below_step HD13.out hb)); clear hs hb HS3 HG13 HD13) | (go_at_call 53; (with_reducible refine (QE.out _ _ _ _ _ _ _ _ _ HH.out (Kd.R_below HV.out HD14.out)).mono ?_); rintro e w15 ⟨rfl, hb⟩; (have HG15 := Aside0.mk (Kd.R_below HG14.out hb)); (have HD15 := Aside0.mk (below_step HD14.out hb)); clear hb HH HG14 HD14) | (go_at_call 57; (with_reducible refine (QH.out _ _ _ _ _ HG15.out).mono ?_); rintro e w16 ⟨rfl, hb⟩; (have HD16 := Aside0.mk (below_step HD15.out hb)); clear hb HG15 HD15))
  go_ret
  exact ⟨rfl, HB3.out.trans (HD16.out.mono HB3.out.size)⟩


end Go.Proofs.Ytophaihdibplkaa.PFnExactSafeDocs
