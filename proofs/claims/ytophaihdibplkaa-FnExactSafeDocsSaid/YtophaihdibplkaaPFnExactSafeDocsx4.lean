/- By a program of this session, out of the kit's print and contracts made by hand: the machine side of a law; Lean checks it. No conditions. -/
import Derived.Test.YtophaihdibplkaaPFnExactSafeDocsx0
import Derived.Test.YtophaihdibplkaaPFnExactSafeDocsx2
import Derived.Test.YtophaihdibplkaaPFnExactSafeDocsx3
namespace Go.Proofs.Ytophaihdibplkaa.PFnExactSafeDocs
open Go.RowKit Go.Proofs.YtophaihdibplkaaW.PrintWords Go.Proofs.YtophaihdibplkaaW.PrintLast Go.Proofs.YtophaihdibplkaaW.PrintMore
attribute [local go_sem] max2_int min2_int max_two min_two max_three min_three max_four min_four   -- for this text's walks alone
set_option linter.unusedVariables false
set_option linter.unusedSimpArgs false

/-! ### spec_l10Call: function 73, by hand -/
def inR (n a b : Int) : Bool := decide (a ≤ n ∧ n ≤ b)
def hasCfg (k : Int) : Bool := k == 6 || k == 8
def hasPathB (k : Int) : Bool := k == 2 || k == 3 || k == 4 || k == 5
def hasNameB (k : Int) : Bool := k == 1 || k == 2 || k == 4
def hasTextB (k : Int) : Bool := k == 3 || k == 4 || k == 6 || k == 7
/-- What a call of a kind has beside its name. -/
def callHas (k cfg : Int) (path : List Int) (text : ByteArray) : Bool := (if hasCfg k = true then inR cfg 0 3 else cfg == 0) && (if hasPathB k = true then true else decide (path.length = 0)) && (if hasTextB k = true then true else text.toList == ([] : List UInt8))
def callName (k : Int) (name : ByteArray) : Bool := if hasNameB k = true then Kit.isTag name else name.toList == ([] : List UInt8)
def pathAt (path : List Int) (i : Nat) : Bool := inR (path.getD i 0) 0 60
def callTail (k cfg : Int) (path : List Int) (name text : ByteArray) : Bool := if callHas k cfg path text = true then (if Kit.allB (pathAt path) 0 path.length = true then callName k name else false) else false
def callB (k doc cfg : Int) (path : List Int) (name text : ByteArray) : Bool := if inR k 1 9 = true then (if inR doc 0 5 = true then (if path.length ≤ 10 then (if text.size ≤ 4096 then callTail k cfg path name text else false) else false) else false) else false
def spec_l10Call.f (f0 f1 f2 : Int) (f3 : List Int) (f4 f5 : ByteArray) : Option Bool := if f4.size ≤ 9223372036854775807 then some (callB f0 f1 f2 f3 f4 f5) else none
theorem emptyB_eq (l : List UInt8) : (l == ([] : List UInt8)) = l.isEmpty := by cases l <;> rfl
theorem spec_l01In.pure (n a b : Int) (W : World) : Calls Try.prog 141 #[.int .i64 n, .int .i64 a, .int .i64 b] W fun e w' => e = .returned (.bool (inR n a b)) ∧ Drawn0 W w' := by
  refine spec_l01In.calls n a b _ W ?_
  unfold spec_l01In.f inR
  by_cases h : n ≥ a
  case pos => rw [if_pos h]; simp [h]
  case neg => rw [if_neg h]; simp; omega
set_option maxHeartbeats 8000000 in
set_option maxRecDepth 100000 in
theorem spec_l10Call.calls (f0 f1 f2 : Int) (A3 : Option Addr) (c3 : Nat) (f3 : List Int) (f4 f5 : ByteArray) (r : Bool) (w : World) (hr3 : Kd.C (Kd.int .i64) w A3 f3.length f3) (hc3 : f3.length ≤ c3) (h : spec_l10Call.f f0 f1 f2 f3 f4 f5 = some r) :
    Calls Try.prog 73 #[.agg #[.int .i64 f0, .int .i64 f1, .int .i64 f2, .slice A3 f3.length c3, .string f4, .string f5]] w fun e w' => e = .returned (.bool r) ∧ Below w.heap.size w w' := by
  unfold spec_l10Call.f at h
  obtain ⟨hs, h⟩ := Option.ite_none_right_eq_some.mp h
  obtain rfl := Option.some.inj h
  clear h
  have hn : f3.length ≤ 9223372036854775807 := hr3.2.1
  have HR := Aside0.mk hr3
  clear hr3 hc3
  have HS := Aside0.mk hs
  clear hs
  have HB : Aside0 (Below w.heap.size w (w.alloc (.cells #[.int .i64 f0, .int .i64 f1, .int .i64 f2, .slice A3 f3.length c3, .string f4, .string f5] 27))) := ⟨below_alloc (Below.refl _ _) _⟩
  have e0 : (w.alloc (.cells #[.int .i64 f0, .int .i64 f1, .int .i64 f2, .slice A3 f3.length c3, .string f4, .string f5] 27)).cell? ⟨w.heap.size, 0, none⟩ = some (.int .i64 f0) := Mach.new_cell w _ _ 0 _ rfl
  have e1 : (w.alloc (.cells #[.int .i64 f0, .int .i64 f1, .int .i64 f2, .slice A3 f3.length c3, .string f4, .string f5] 27)).cell? ⟨w.heap.size, 1, none⟩ = some (.int .i64 f1) := Mach.new_cell w _ _ 1 _ rfl
  have e2 : (w.alloc (.cells #[.int .i64 f0, .int .i64 f1, .int .i64 f2, .slice A3 f3.length c3, .string f4, .string f5] 27)).cell? ⟨w.heap.size, 2, none⟩ = some (.int .i64 f2) := Mach.new_cell w _ _ 2 _ rfl
  have e3 : (w.alloc (.cells #[.int .i64 f0, .int .i64 f1, .int .i64 f2, .slice A3 f3.length c3, .string f4, .string f5] 27)).cell? ⟨w.heap.size, 3, none⟩ = some (.slice A3 f3.length c3) := Mach.new_cell w _ _ 3 _ rfl
  have e4 : (w.alloc (.cells #[.int .i64 f0, .int .i64 f1, .int .i64 f2, .slice A3 f3.length c3, .string f4, .string f5] 27)).cell? ⟨w.heap.size, 4, none⟩ = some (.string f4) := Mach.new_cell w _ _ 4 _ rfl
  have e5 : (w.alloc (.cells #[.int .i64 f0, .int .i64 f1, .int .i64 f2, .slice A3 f3.length c3, .string f4, .string f5] 27)).cell? ⟨w.heap.size, 5, none⟩ = some (.string f5) := Mach.new_cell w _ _ 5 _ rfl
  unfold callB callTail callHas
  generalize hn3 : f3.length = n3 at *
  have HN := Aside0.mk hn3
  clear hn3
  cases qk : inR f0 1 9 with
  | false =>
    rw [if_neg Bool.false_ne_true]
    go_enter Try.func73, Try.ntmps73
    go_wp2_with (go_at_call 141; (with_reducible refine (spec_l01In.pure _ _ _ _).mono ?_); rintro e w' ⟨rfl, ⟨nd, rfl⟩⟩)
    go_ret
    exact ⟨rfl, by first | exact pw_below_drewN HB.out _ | exact HB.out⟩
  | true =>
    rw [if_pos rfl]
    cases qd : inR f1 0 5 with
    | false =>
      rw [if_neg Bool.false_ne_true]
      go_enter Try.func73, Try.ntmps73
      go_wp2_with (go_at_call 141; (with_reducible refine (spec_l01In.pure _ _ _ _).mono ?_); rintro e w' ⟨rfl, ⟨nd, rfl⟩⟩)
      go_ret
      exact ⟨rfl, by first | exact pw_below_drewN HB.out _ | exact HB.out⟩
    | true =>
      rw [if_pos rfl]
      by_cases h3 : n3 ≤ 10
      case neg =>
        rw [if_neg h3]
        have h3d : decide ((10 : Int) < (n3 : Int)) = true := decide_eq_true (by omega)
        go_enter Try.func73, Try.ntmps73
        go_wp2_with (go_at_call 141; (with_reducible refine (spec_l01In.pure _ _ _ _).mono ?_); rintro e w' ⟨rfl, ⟨nd, rfl⟩⟩)
        go_ret
        exact ⟨rfl, by first | exact pw_below_drewN HB.out _ | exact HB.out⟩
      case pos =>
        rw [if_pos h3]
        have h3d : decide ((10 : Int) < (n3 : Int)) = false := decide_eq_false (by omega)
        by_cases h5 : f5.size ≤ 4096
        case neg =>
          rw [if_neg h5]
          have h5d : decide ((4096 : Int) < (f5.size : Int)) = true := decide_eq_true (by omega)
          go_enter Try.func73, Try.ntmps73
          go_wp2_with (go_at_call 141; (with_reducible refine (spec_l01In.pure _ _ _ _).mono ?_); rintro e w' ⟨rfl, ⟨nd, rfl⟩⟩)
          go_ret
          exact ⟨rfl, by first | exact pw_below_drewN HB.out _ | exact HB.out⟩
        case pos =>
          rw [if_pos h5]
          have h5d : decide ((4096 : Int) < (f5.size : Int)) = false := decide_eq_false (by omega)
          have hk : 1 ≤ f0 ∧ f0 ≤ 9 := of_decide_eq_true qk
          have hk9 : f0 = 1 ∨ f0 = 2 ∨ f0 = 3 ∨ f0 = 4 ∨ f0 = 5 ∨ f0 = 6 ∨ f0 = 7 ∨ f0 = 8 ∨ f0 = 9 := by omega
          clear hk
          rcases hk9 with rfl | hk9
          case inl =>
            rw [show hasCfg 1 = false from rfl, show hasPathB 1 = false from rfl, show hasTextB 1 = false from rfl]
            simp only [if_true, Bool.false_eq_true, if_false, Bool.true_and, Bool.and_true]
            cases q2 : (f2 == 0) with
            | false =>
              simp only [Bool.false_and, Bool.false_eq_true, if_false]
              have q2a : f2 ≠ 0 := beq_eq_false_iff_ne.1 q2
              have q2b : decide (f2 = 0) = false := decide_eq_false q2a
              have q2c : (f2 != 0) = true := bne_iff_ne.2 q2a
              go_enter Try.func73, Try.ntmps73
              go_wp2_with (go_at_call 141; (with_reducible refine (spec_l01In.pure _ _ _ _).mono ?_); rintro e w' ⟨rfl, ⟨nd, rfl⟩⟩)
              go_ret
              exact ⟨rfl, by first | exact pw_below_drewN HB.out _ | exact HB.out⟩
            | true =>
              obtain rfl : f2 = 0 := by simpa using q2
              by_cases h30 : n3 = 0
              case neg =>
                have h30d : decide ((0 : Int) < (n3 : Int)) = true := decide_eq_true (by omega)
                have h30n : 0 < n3 := by omega
                have h30e : decide (0 < n3) = true := decide_eq_true h30n
                rw [decide_eq_false h30]
                simp only [Bool.true_and, Bool.false_and, Bool.false_eq_true, if_false]
                clear h30
                go_enter Try.func73, Try.ntmps73
                go_wp2_with (go_at_call 141; (with_reducible refine (spec_l01In.pure _ _ _ _).mono ?_); rintro e w' ⟨rfl, ⟨nd, rfl⟩⟩)
                go_ret
                exact ⟨rfl, by first | exact pw_below_drewN HB.out _ | exact HB.out⟩
              case pos =>
                subst h30
                rw [decide_eq_true rfl]
                cases q5 : (f5.toList == ([] : List UInt8)) with
                | false =>
                  have q5e := (emptyB_eq f5.toList).symm.trans q5
                  simp only [Bool.true_and, Bool.and_false, Bool.false_eq_true, if_false]
                  go_enter Try.func73, Try.ntmps73
                  go_wp2_with (go_at_call 141; (with_reducible refine (spec_l01In.pure _ _ _ _).mono ?_); rintro e w' ⟨rfl, ⟨nd, rfl⟩⟩)
                  go_ret
                  exact ⟨rfl, by first | exact pw_below_drewN HB.out _ | exact HB.out⟩
                | true =>
                  have q5e := (emptyB_eq f5.toList).symm.trans q5
                  simp only [Bool.true_and, Bool.and_true, if_true]
                  rw [show callName 1 f4 = Kit.isTag f4 from rfl]
                  have QT := Aside0.mk (spec_l01Tag.pure f4 HS.out)
                  generalize Kit.isTag f4 = bt at *
                  rw [if_pos (Kit.allB_end (pathAt f3) 0)]
                  go_enter Try.func73, Try.ntmps73
                  go_wp2_with (go_at_call 141; (with_reducible refine (spec_l01In.pure _ _ _ _).mono ?_); rintro e w' ⟨rfl, ⟨nd, rfl⟩⟩)
                  go_loopg [7] 0 (fun gg s7 wr => s7 = .int .i64 0 ∧ Drawn0 (w.alloc (.cells #[.int .i64 1, .int .i64 f1, .int .i64 0, .slice A3 0 c3, .string f4, .string f5] 27)) wr)
                  case atStart => exact ⟨rfl, (by first | exact Drawn0.refl _ | exact ⟨⟨_, rfl⟩⟩)⟩
                  case round =>
                    obtain ⟨rfl, ⟨m1, rfl⟩⟩ := hrel
                    cases bt with
                    | false =>
                      go_wp2_with (go_at_call 142; (with_reducible refine (QT.out _).mono ?_); rintro e w' ⟨rfl, hx⟩; have HX := Aside0.mk hx; clear hx)
                      go_ret
                      refine ⟨?_, (pw_below_drewN HB.out _).trans (HX.out.below.mono (pw_below_drewN HB.out _).size)⟩
                      rfl
                    | true =>
                      go_wp2_with (go_at_call 142; (with_reducible refine (QT.out _).mono ?_); rintro e w' ⟨rfl, hx⟩; have HX := Aside0.mk hx; clear hx)
                      go_ret
                      refine ⟨?_, (pw_below_drewN HB.out _).trans (HX.out.below.mono (pw_below_drewN HB.out _).size)⟩
                      rfl
          case inr =>
            rcases hk9 with rfl | hk9
            case inl =>
              rw [show hasCfg 2 = false from rfl, show hasPathB 2 = true from rfl, show hasTextB 2 = false from rfl]
              simp only [if_true, Bool.false_eq_true, if_false, Bool.true_and, Bool.and_true]
              cases q2 : (f2 == 0) with
              | false =>
                simp only [Bool.false_and, Bool.false_eq_true, if_false]
                have q2a : f2 ≠ 0 := beq_eq_false_iff_ne.1 q2
                have q2b : decide (f2 = 0) = false := decide_eq_false q2a
                have q2c : (f2 != 0) = true := bne_iff_ne.2 q2a
                go_enter Try.func73, Try.ntmps73
                go_wp2_with (go_at_call 141; (with_reducible refine (spec_l01In.pure _ _ _ _).mono ?_); rintro e w' ⟨rfl, ⟨nd, rfl⟩⟩)
                go_ret
                exact ⟨rfl, by first | exact pw_below_drewN HB.out _ | exact HB.out⟩
              | true =>
                obtain rfl : f2 = 0 := by simpa using q2
                cases q5 : (f5.toList == ([] : List UInt8)) with
                | false =>
                  have q5e := (emptyB_eq f5.toList).symm.trans q5
                  simp only [Bool.true_and, Bool.and_false, Bool.false_eq_true, if_false]
                  go_enter Try.func73, Try.ntmps73
                  go_wp2_with (go_at_call 141; (with_reducible refine (spec_l01In.pure _ _ _ _).mono ?_); rintro e w' ⟨rfl, ⟨nd, rfl⟩⟩)
                  go_ret
                  exact ⟨rfl, by first | exact pw_below_drewN HB.out _ | exact HB.out⟩
                | true =>
                  have q5e := (emptyB_eq f5.toList).symm.trans q5
                  simp only [Bool.true_and, Bool.and_true, if_true]
                  rw [show callName 2 f4 = Kit.isTag f4 from rfl]
                  have QT := Aside0.mk (spec_l01Tag.pure f4 HS.out)
                  generalize Kit.isTag f4 = bt at *
                  obtain ⟨R, hR⟩ : ∃ R, (if Kit.allB (pathAt f3) 0 n3 = true then bt else false) = R := ⟨_, rfl⟩
                  rw [hR]
                  have HRR := Aside0.mk hR
                  clear hR
                  go_enter Try.func73, Try.ntmps73
                  go_wp2_with (go_at_call 141; (with_reducible refine (spec_l01In.pure _ _ _ _).mono ?_); rintro e w' ⟨rfl, ⟨nd, rfl⟩⟩)
                  go_loopg [7] n3 (fun gg s7 wr => ∃ kk : Nat, kk ≤ n3 ∧ n3 - kk ≤ gg ∧ s7 = .int .i64 kk ∧ Aside0 (∀ j, j < kk → pathAt f3 j = true) ∧ Drawn0 (w.alloc (.cells #[.int .i64 2, .int .i64 f1, .int .i64 0, .slice A3 n3 c3, .string f4, .string f5] 27)) wr)
                  case atStart => exact ⟨0, Nat.zero_le _, by omega, rfl, ⟨fun j hj => absurd hj (Nat.not_lt_zero _)⟩, (by first | exact Drawn0.refl _ | exact ⟨⟨_, rfl⟩⟩)⟩
                  case round =>
                    obtain ⟨kk, hkk, hg, rfl, AA, ⟨m1, rfl⟩⟩ := hrel
                    by_cases hlt : kk < n3
                    case pos =>
                      have hltz : (kk : Int) < (n3 : Int) := by omega
                      obtain ⟨ad, e, l1⟩ := Kd.at_int (Kd.C_below HR.out HB.out) (kk : Int) (by omega) hltz
                      cases e
                      rw [show rd f3 (kk : Int) = f3.getD kk 0 by simp [rd], Int.toNat_natCast] at l1
                      have hat : pathAt f3 kk = inR (f3.getD kk 0) 0 60 := rfl
                      generalize f3.getD kk 0 = y at *
                      cases qy : inR y 0 60 with
                      | false =>
                        rw [qy] at hat
                        have hall : Kit.allB (pathAt f3) 0 n3 = false := Bool.eq_false_iff.2 fun h => by
                          have := (Kit.allB_iff _ _ _).1 h kk (Nat.zero_le _) hlt
                          rw [hat] at this
                          cases this
                        obtain rfl : false = R := by have h := HRR.out; rw [hall, if_neg Bool.false_ne_true] at h; exact h
                        clear hall hat HRR
                        go_wp2_with (go_at_call 141; (with_reducible refine (spec_l01In.pure _ _ _ _).mono ?_); rintro e w' ⟨rfl, ⟨nd, rfl⟩⟩)
                        go_ret
                        refine ⟨?_, by first | exact pw_below_drewN HB.out _ | exact HB.out⟩
                        rfl
                      | true =>
                        rw [qy] at hat
                        have HAT := Aside0.mk hat
                        clear hat
                        go_wp2_with (go_at_call 141; (with_reducible refine (spec_l01In.pure _ _ _ _).mono ?_); rintro e w' ⟨rfl, ⟨nd, rfl⟩⟩)
                        go_roundg (n3 - (kk + 1))
                        case measure => omega
                        case rel =>
                          refine ⟨kk + 1, by omega, by omega, by go_num, ⟨fun j hj => ?_⟩, (by first | exact ⟨⟨_, rfl⟩⟩ | exact (Drawn0.refl _).step _ | exact ((Drawn0.refl _).step _).step _)⟩
                          by_cases e : j = kk
                          case pos => subst e; exact HAT.out
                          case neg => exact AA.out j (by omega)
                    case neg =>
                      have hltz : ¬ (kk : Int) < (n3 : Int) := by omega
                      have hall : Kit.allB (pathAt f3) 0 n3 = true := (Kit.allB_iff _ _ _).2 fun j _ hj => AA.out j (by omega)
                      obtain rfl : bt = R := by have h := HRR.out; rw [hall, if_pos rfl] at h; exact h
                      clear hall HRR
                      clear AA
                      cases bt with
                      | false =>
                        go_wp2_with (go_at_call 142; (with_reducible refine (QT.out _).mono ?_); rintro e w' ⟨rfl, hx⟩; have HX := Aside0.mk hx; clear hx)
                        go_ret
                        refine ⟨?_, (pw_below_drewN HB.out _).trans (HX.out.below.mono (pw_below_drewN HB.out _).size)⟩
                        rfl
                      | true =>
                        go_wp2_with (go_at_call 142; (with_reducible refine (QT.out _).mono ?_); rintro e w' ⟨rfl, hx⟩; have HX := Aside0.mk hx; clear hx)
                        go_ret
                        refine ⟨?_, (pw_below_drewN HB.out _).trans (HX.out.below.mono (pw_below_drewN HB.out _).size)⟩
                        rfl
            case inr =>
              rcases hk9 with rfl | hk9
              case inl =>
                rw [show hasCfg 3 = false from rfl, show hasPathB 3 = true from rfl, show hasTextB 3 = true from rfl]
                simp only [if_true, Bool.false_eq_true, if_false, Bool.true_and, Bool.and_true]
                cases q2 : (f2 == 0) with
                | false =>
                  simp only [Bool.false_and, Bool.false_eq_true, if_false]
                  have q2a : f2 ≠ 0 := beq_eq_false_iff_ne.1 q2
                  have q2b : decide (f2 = 0) = false := decide_eq_false q2a
                  have q2c : (f2 != 0) = true := bne_iff_ne.2 q2a
                  go_enter Try.func73, Try.ntmps73
                  go_wp2_with (go_at_call 141; (with_reducible refine (spec_l01In.pure _ _ _ _).mono ?_); rintro e w' ⟨rfl, ⟨nd, rfl⟩⟩)
                  go_ret
                  exact ⟨rfl, by first | exact pw_below_drewN HB.out _ | exact HB.out⟩
                | true =>
                  obtain rfl : f2 = 0 := by simpa using q2
                  simp only [if_true]
                  rw [show callName 3 f4 = (f4.toList == ([] : List UInt8)) from rfl]
                  obtain ⟨R, hR⟩ : ∃ R, (if Kit.allB (pathAt f3) 0 n3 = true then (f4.toList == ([] : List UInt8)) else false) = R := ⟨_, rfl⟩
                  rw [hR]
                  have HRR := Aside0.mk hR
                  clear hR
                  go_enter Try.func73, Try.ntmps73
                  go_wp2_with (go_at_call 141; (with_reducible refine (spec_l01In.pure _ _ _ _).mono ?_); rintro e w' ⟨rfl, ⟨nd, rfl⟩⟩)
                  go_loopg [7] n3 (fun gg s7 wr => ∃ kk : Nat, kk ≤ n3 ∧ n3 - kk ≤ gg ∧ s7 = .int .i64 kk ∧ Aside0 (∀ j, j < kk → pathAt f3 j = true) ∧ Drawn0 (w.alloc (.cells #[.int .i64 3, .int .i64 f1, .int .i64 0, .slice A3 n3 c3, .string f4, .string f5] 27)) wr)
                  case atStart => exact ⟨0, Nat.zero_le _, by omega, rfl, ⟨fun j hj => absurd hj (Nat.not_lt_zero _)⟩, (by first | exact Drawn0.refl _ | exact ⟨⟨_, rfl⟩⟩)⟩
                  case round =>
                    obtain ⟨kk, hkk, hg, rfl, AA, ⟨m1, rfl⟩⟩ := hrel
                    by_cases hlt : kk < n3
                    case pos =>
                      have hltz : (kk : Int) < (n3 : Int) := by omega
                      obtain ⟨ad, e, l1⟩ := Kd.at_int (Kd.C_below HR.out HB.out) (kk : Int) (by omega) hltz
                      cases e
                      rw [show rd f3 (kk : Int) = f3.getD kk 0 by simp [rd], Int.toNat_natCast] at l1
                      have hat : pathAt f3 kk = inR (f3.getD kk 0) 0 60 := rfl
                      generalize f3.getD kk 0 = y at *
                      cases qy : inR y 0 60 with
                      | false =>
                        rw [qy] at hat
                        have hall : Kit.allB (pathAt f3) 0 n3 = false := Bool.eq_false_iff.2 fun h => by
                          have := (Kit.allB_iff _ _ _).1 h kk (Nat.zero_le _) hlt
                          rw [hat] at this
                          cases this
                        obtain rfl : false = R := by have h := HRR.out; rw [hall, if_neg Bool.false_ne_true] at h; exact h
                        clear hall hat HRR
                        go_wp2_with (go_at_call 141; (with_reducible refine (spec_l01In.pure _ _ _ _).mono ?_); rintro e w' ⟨rfl, ⟨nd, rfl⟩⟩)
                        go_ret
                        refine ⟨?_, by first | exact pw_below_drewN HB.out _ | exact HB.out⟩
                        rfl
                      | true =>
                        rw [qy] at hat
                        have HAT := Aside0.mk hat
                        clear hat
                        go_wp2_with (go_at_call 141; (with_reducible refine (spec_l01In.pure _ _ _ _).mono ?_); rintro e w' ⟨rfl, ⟨nd, rfl⟩⟩)
                        go_roundg (n3 - (kk + 1))
                        case measure => omega
                        case rel =>
                          refine ⟨kk + 1, by omega, by omega, by go_num, ⟨fun j hj => ?_⟩, (by first | exact ⟨⟨_, rfl⟩⟩ | exact (Drawn0.refl _).step _ | exact ((Drawn0.refl _).step _).step _)⟩
                          by_cases e : j = kk
                          case pos => subst e; exact HAT.out
                          case neg => exact AA.out j (by omega)
                    case neg =>
                      have hltz : ¬ (kk : Int) < (n3 : Int) := by omega
                      have hall : Kit.allB (pathAt f3) 0 n3 = true := (Kit.allB_iff _ _ _).2 fun j _ hj => AA.out j (by omega)
                      obtain rfl : (f4.toList == ([] : List UInt8)) = R := by have h := HRR.out; rw [hall, if_pos rfl] at h; exact h
                      clear hall HRR
                      clear AA
                      cases q4 : (f4.toList == ([] : List UInt8)) with
                      | false =>
                        have q4e := (emptyB_eq f4.toList).symm.trans q4
                        go_wp2
                        go_ret
                        refine ⟨?_, by first | exact pw_below_drewN HB.out _ | exact HB.out⟩
                        first | rfl | (rw [q4]; first | done | rfl)
                      | true =>
                        have q4e := (emptyB_eq f4.toList).symm.trans q4
                        go_wp2
                        go_ret
                        refine ⟨?_, by first | exact pw_below_drewN HB.out _ | exact HB.out⟩
                        first | rfl | (rw [q4]; first | done | rfl)
              case inr =>
                rcases hk9 with rfl | hk9
                case inl =>
                  rw [show hasCfg 4 = false from rfl, show hasPathB 4 = true from rfl, show hasTextB 4 = true from rfl]
                  simp only [if_true, Bool.false_eq_true, if_false, Bool.true_and, Bool.and_true]
                  cases q2 : (f2 == 0) with
                  | false =>
                    simp only [Bool.false_and, Bool.false_eq_true, if_false]
                    have q2a : f2 ≠ 0 := beq_eq_false_iff_ne.1 q2
                    have q2b : decide (f2 = 0) = false := decide_eq_false q2a
                    have q2c : (f2 != 0) = true := bne_iff_ne.2 q2a
                    go_enter Try.func73, Try.ntmps73
                    go_wp2_with (go_at_call 141; (with_reducible refine (spec_l01In.pure _ _ _ _).mono ?_); rintro e w' ⟨rfl, ⟨nd, rfl⟩⟩)
                    go_ret
                    exact ⟨rfl, by first | exact pw_below_drewN HB.out _ | exact HB.out⟩
                  | true =>
                    obtain rfl : f2 = 0 := by simpa using q2
                    simp only [if_true]
                    rw [show callName 4 f4 = Kit.isTag f4 from rfl]
                    have QT := Aside0.mk (spec_l01Tag.pure f4 HS.out)
                    generalize Kit.isTag f4 = bt at *
                    obtain ⟨R, hR⟩ : ∃ R, (if Kit.allB (pathAt f3) 0 n3 = true then bt else false) = R := ⟨_, rfl⟩
                    rw [hR]
                    have HRR := Aside0.mk hR
                    clear hR
                    go_enter Try.func73, Try.ntmps73
                    go_wp2_with (go_at_call 141; (with_reducible refine (spec_l01In.pure _ _ _ _).mono ?_); rintro e w' ⟨rfl, ⟨nd, rfl⟩⟩)
                    go_loopg [7] n3 (fun gg s7 wr => ∃ kk : Nat, kk ≤ n3 ∧ n3 - kk ≤ gg ∧ s7 = .int .i64 kk ∧ Aside0 (∀ j, j < kk → pathAt f3 j = true) ∧ Drawn0 (w.alloc (.cells #[.int .i64 4, .int .i64 f1, .int .i64 0, .slice A3 n3 c3, .string f4, .string f5] 27)) wr)
                    case atStart => exact ⟨0, Nat.zero_le _, by omega, rfl, ⟨fun j hj => absurd hj (Nat.not_lt_zero _)⟩, (by first | exact Drawn0.refl _ | exact ⟨⟨_, rfl⟩⟩)⟩
                    case round =>
                      obtain ⟨kk, hkk, hg, rfl, AA, ⟨m1, rfl⟩⟩ := hrel
                      by_cases hlt : kk < n3
                      case pos =>
                        have hltz : (kk : Int) < (n3 : Int) := by omega
                        obtain ⟨ad, e, l1⟩ := Kd.at_int (Kd.C_below HR.out HB.out) (kk : Int) (by omega) hltz
                        cases e
                        rw [show rd f3 (kk : Int) = f3.getD kk 0 by simp [rd], Int.toNat_natCast] at l1
                        have hat : pathAt f3 kk = inR (f3.getD kk 0) 0 60 := rfl
                        generalize f3.getD kk 0 = y at *
                        cases qy : inR y 0 60 with
                        | false =>
                          rw [qy] at hat
                          have hall : Kit.allB (pathAt f3) 0 n3 = false := Bool.eq_false_iff.2 fun h => by
                            have := (Kit.allB_iff _ _ _).1 h kk (Nat.zero_le _) hlt
                            rw [hat] at this
                            cases this
                          obtain rfl : false = R := by have h := HRR.out; rw [hall, if_neg Bool.false_ne_true] at h; exact h
                          clear hall hat HRR
                          go_wp2_with (go_at_call 141; (with_reducible refine (spec_l01In.pure _ _ _ _).mono ?_); rintro e w' ⟨rfl, ⟨nd, rfl⟩⟩)
                          go_ret
                          refine ⟨?_, by first | exact pw_below_drewN HB.out _ | exact HB.out⟩
                          rfl
                        | true =>
                          rw [qy] at hat
                          have HAT := Aside0.mk hat
                          clear hat
                          go_wp2_with (go_at_call 141; (with_reducible refine (spec_l01In.pure _ _ _ _).mono ?_); rintro e w' ⟨rfl, ⟨nd, rfl⟩⟩)
                          go_roundg (n3 - (kk + 1))
                          case measure => omega
                          case rel =>
                            refine ⟨kk + 1, by omega, by omega, by go_num, ⟨fun j hj => ?_⟩, (by first | exact ⟨⟨_, rfl⟩⟩ | exact (Drawn0.refl _).step _ | exact ((Drawn0.refl _).step _).step _)⟩
                            by_cases e : j = kk
                            case pos => subst e; exact HAT.out
                            case neg => exact AA.out j (by omega)
                      case neg =>
                        have hltz : ¬ (kk : Int) < (n3 : Int) := by omega
                        have hall : Kit.allB (pathAt f3) 0 n3 = true := (Kit.allB_iff _ _ _).2 fun j _ hj => AA.out j (by omega)
                        obtain rfl : bt = R := by have h := HRR.out; rw [hall, if_pos rfl] at h; exact h
                        clear hall HRR
                        clear AA
                        cases bt with
                        | false =>
                          go_wp2_with (go_at_call 142; (with_reducible refine (QT.out _).mono ?_); rintro e w' ⟨rfl, hx⟩; have HX := Aside0.mk hx; clear hx)
                          go_ret
                          refine ⟨?_, (pw_below_drewN HB.out _).trans (HX.out.below.mono (pw_below_drewN HB.out _).size)⟩
                          rfl
                        | true =>
                          go_wp2_with (go_at_call 142; (with_reducible refine (QT.out _).mono ?_); rintro e w' ⟨rfl, hx⟩; have HX := Aside0.mk hx; clear hx)
                          go_ret
                          refine ⟨?_, (pw_below_drewN HB.out _).trans (HX.out.below.mono (pw_below_drewN HB.out _).size)⟩
                          rfl
                case inr =>
                  rcases hk9 with rfl | hk9
                  case inl =>
                    rw [show hasCfg 5 = false from rfl, show hasPathB 5 = true from rfl, show hasTextB 5 = false from rfl]
                    simp only [if_true, Bool.false_eq_true, if_false, Bool.true_and, Bool.and_true]
                    cases q2 : (f2 == 0) with
                    | false =>
                      simp only [Bool.false_and, Bool.false_eq_true, if_false]
                      have q2a : f2 ≠ 0 := beq_eq_false_iff_ne.1 q2
                      have q2b : decide (f2 = 0) = false := decide_eq_false q2a
                      have q2c : (f2 != 0) = true := bne_iff_ne.2 q2a
                      go_enter Try.func73, Try.ntmps73
                      go_wp2_with (go_at_call 141; (with_reducible refine (spec_l01In.pure _ _ _ _).mono ?_); rintro e w' ⟨rfl, ⟨nd, rfl⟩⟩)
                      go_ret
                      exact ⟨rfl, by first | exact pw_below_drewN HB.out _ | exact HB.out⟩
                    | true =>
                      obtain rfl : f2 = 0 := by simpa using q2
                      cases q5 : (f5.toList == ([] : List UInt8)) with
                      | false =>
                        have q5e := (emptyB_eq f5.toList).symm.trans q5
                        simp only [Bool.true_and, Bool.and_false, Bool.false_eq_true, if_false]
                        go_enter Try.func73, Try.ntmps73
                        go_wp2_with (go_at_call 141; (with_reducible refine (spec_l01In.pure _ _ _ _).mono ?_); rintro e w' ⟨rfl, ⟨nd, rfl⟩⟩)
                        go_ret
                        exact ⟨rfl, by first | exact pw_below_drewN HB.out _ | exact HB.out⟩
                      | true =>
                        have q5e := (emptyB_eq f5.toList).symm.trans q5
                        simp only [Bool.true_and, Bool.and_true, if_true]
                        rw [show callName 5 f4 = (f4.toList == ([] : List UInt8)) from rfl]
                        obtain ⟨R, hR⟩ : ∃ R, (if Kit.allB (pathAt f3) 0 n3 = true then (f4.toList == ([] : List UInt8)) else false) = R := ⟨_, rfl⟩
                        rw [hR]
                        have HRR := Aside0.mk hR
                        clear hR
                        go_enter Try.func73, Try.ntmps73
                        go_wp2_with (go_at_call 141; (with_reducible refine (spec_l01In.pure _ _ _ _).mono ?_); rintro e w' ⟨rfl, ⟨nd, rfl⟩⟩)
                        go_loopg [7] n3 (fun gg s7 wr => ∃ kk : Nat, kk ≤ n3 ∧ n3 - kk ≤ gg ∧ s7 = .int .i64 kk ∧ Aside0 (∀ j, j < kk → pathAt f3 j = true) ∧ Drawn0 (w.alloc (.cells #[.int .i64 5, .int .i64 f1, .int .i64 0, .slice A3 n3 c3, .string f4, .string f5] 27)) wr)
                        case atStart => exact ⟨0, Nat.zero_le _, by omega, rfl, ⟨fun j hj => absurd hj (Nat.not_lt_zero _)⟩, (by first | exact Drawn0.refl _ | exact ⟨⟨_, rfl⟩⟩)⟩
                        case round =>
                          obtain ⟨kk, hkk, hg, rfl, AA, ⟨m1, rfl⟩⟩ := hrel
                          by_cases hlt : kk < n3
                          case pos =>
                            have hltz : (kk : Int) < (n3 : Int) := by omega
                            obtain ⟨ad, e, l1⟩ := Kd.at_int (Kd.C_below HR.out HB.out) (kk : Int) (by omega) hltz
                            cases e
                            rw [show rd f3 (kk : Int) = f3.getD kk 0 by simp [rd], Int.toNat_natCast] at l1
                            have hat : pathAt f3 kk = inR (f3.getD kk 0) 0 60 := rfl
                            generalize f3.getD kk 0 = y at *
                            cases qy : inR y 0 60 with
                            | false =>
                              rw [qy] at hat
                              have hall : Kit.allB (pathAt f3) 0 n3 = false := Bool.eq_false_iff.2 fun h => by
                                have := (Kit.allB_iff _ _ _).1 h kk (Nat.zero_le _) hlt
                                rw [hat] at this
                                cases this
                              obtain rfl : false = R := by have h := HRR.out; rw [hall, if_neg Bool.false_ne_true] at h; exact h
                              clear hall hat HRR
                              go_wp2_with (go_at_call 141; (with_reducible refine (spec_l01In.pure _ _ _ _).mono ?_); rintro e w' ⟨rfl, ⟨nd, rfl⟩⟩)
                              go_ret
                              refine ⟨?_, by first | exact pw_below_drewN HB.out _ | exact HB.out⟩
                              rfl
                            | true =>
                              rw [qy] at hat
                              have HAT := Aside0.mk hat
                              clear hat
                              go_wp2_with (go_at_call 141; (with_reducible refine (spec_l01In.pure _ _ _ _).mono ?_); rintro e w' ⟨rfl, ⟨nd, rfl⟩⟩)
                              go_roundg (n3 - (kk + 1))
                              case measure => omega
                              case rel =>
                                refine ⟨kk + 1, by omega, by omega, by go_num, ⟨fun j hj => ?_⟩, (by first | exact ⟨⟨_, rfl⟩⟩ | exact (Drawn0.refl _).step _ | exact ((Drawn0.refl _).step _).step _)⟩
                                by_cases e : j = kk
                                case pos => subst e; exact HAT.out
                                case neg => exact AA.out j (by omega)
                          case neg =>
                            have hltz : ¬ (kk : Int) < (n3 : Int) := by omega
                            have hall : Kit.allB (pathAt f3) 0 n3 = true := (Kit.allB_iff _ _ _).2 fun j _ hj => AA.out j (by omega)
                            obtain rfl : (f4.toList == ([] : List UInt8)) = R := by have h := HRR.out; rw [hall, if_pos rfl] at h; exact h
                            clear hall HRR
                            clear AA
                            cases q4 : (f4.toList == ([] : List UInt8)) with
                            | false =>
                              have q4e := (emptyB_eq f4.toList).symm.trans q4
                              go_wp2
                              go_ret
                              refine ⟨?_, by first | exact pw_below_drewN HB.out _ | exact HB.out⟩
                              first | rfl | (rw [q4]; first | done | rfl)
                            | true =>
                              have q4e := (emptyB_eq f4.toList).symm.trans q4
                              go_wp2
                              go_ret
                              refine ⟨?_, by first | exact pw_below_drewN HB.out _ | exact HB.out⟩
                              first | rfl | (rw [q4]; first | done | rfl)
                  case inr =>
                    rcases hk9 with rfl | hk9
                    case inl =>
                      rw [show hasCfg 6 = true from rfl, show hasPathB 6 = false from rfl, show hasTextB 6 = true from rfl]
                      simp only [if_true, Bool.false_eq_true, if_false, Bool.true_and, Bool.and_true]
                      cases q2 : inR f2 0 3 with
                      | false =>
                        simp only [Bool.false_and, Bool.false_eq_true, if_false]
                        go_enter Try.func73, Try.ntmps73
                        go_wp2_with (go_at_call 141; (with_reducible refine (spec_l01In.pure _ _ _ _).mono ?_); rintro e w' ⟨rfl, ⟨nd, rfl⟩⟩)
                        go_ret
                        exact ⟨rfl, by first | exact pw_below_drewN HB.out _ | exact HB.out⟩
                      | true =>
                        by_cases h30 : n3 = 0
                        case neg =>
                          have h30d : decide ((0 : Int) < (n3 : Int)) = true := decide_eq_true (by omega)
                          have h30n : 0 < n3 := by omega
                          have h30e : decide (0 < n3) = true := decide_eq_true h30n
                          rw [decide_eq_false h30]
                          simp only [Bool.true_and, Bool.false_and, Bool.false_eq_true, if_false]
                          clear h30
                          go_enter Try.func73, Try.ntmps73
                          go_wp2_with (go_at_call 141; (with_reducible refine (spec_l01In.pure _ _ _ _).mono ?_); rintro e w' ⟨rfl, ⟨nd, rfl⟩⟩)
                          go_ret
                          exact ⟨rfl, by first | exact pw_below_drewN HB.out _ | exact HB.out⟩
                        case pos =>
                          subst h30
                          rw [decide_eq_true rfl]
                          simp only [Bool.true_and, Bool.and_true, if_true]
                          rw [show callName 6 f4 = (f4.toList == ([] : List UInt8)) from rfl]
                          rw [if_pos (Kit.allB_end (pathAt f3) 0)]
                          go_enter Try.func73, Try.ntmps73
                          go_wp2_with (go_at_call 141; (with_reducible refine (spec_l01In.pure _ _ _ _).mono ?_); rintro e w' ⟨rfl, ⟨nd, rfl⟩⟩)
                          go_loopg [7] 0 (fun gg s7 wr => s7 = .int .i64 0 ∧ Drawn0 (w.alloc (.cells #[.int .i64 6, .int .i64 f1, .int .i64 f2, .slice A3 0 c3, .string f4, .string f5] 27)) wr)
                          case atStart => exact ⟨rfl, (by first | exact Drawn0.refl _ | exact ⟨⟨_, rfl⟩⟩)⟩
                          case round =>
                            obtain ⟨rfl, ⟨m1, rfl⟩⟩ := hrel
                            cases q4 : (f4.toList == ([] : List UInt8)) with
                            | false =>
                              have q4e := (emptyB_eq f4.toList).symm.trans q4
                              go_wp2
                              go_ret
                              refine ⟨?_, by first | exact pw_below_drewN HB.out _ | exact HB.out⟩
                              first | rfl | (rw [q4]; first | done | rfl)
                            | true =>
                              have q4e := (emptyB_eq f4.toList).symm.trans q4
                              go_wp2
                              go_ret
                              refine ⟨?_, by first | exact pw_below_drewN HB.out _ | exact HB.out⟩
                              first | rfl | (rw [q4]; first | done | rfl)
                    case inr =>
                      rcases hk9 with rfl | hk9
                      case inl =>
                        rw [show hasCfg 7 = false from rfl, show hasPathB 7 = false from rfl, show hasTextB 7 = true from rfl]
                        simp only [if_true, Bool.false_eq_true, if_false, Bool.true_and, Bool.and_true]
                        cases q2 : (f2 == 0) with
                        | false =>
                          simp only [Bool.false_and, Bool.false_eq_true, if_false]
                          have q2a : f2 ≠ 0 := beq_eq_false_iff_ne.1 q2
                          have q2b : decide (f2 = 0) = false := decide_eq_false q2a
                          have q2c : (f2 != 0) = true := bne_iff_ne.2 q2a
                          go_enter Try.func73, Try.ntmps73
                          go_wp2_with (go_at_call 141; (with_reducible refine (spec_l01In.pure _ _ _ _).mono ?_); rintro e w' ⟨rfl, ⟨nd, rfl⟩⟩)
                          go_ret
                          exact ⟨rfl, by first | exact pw_below_drewN HB.out _ | exact HB.out⟩
                        | true =>
                          obtain rfl : f2 = 0 := by simpa using q2
                          by_cases h30 : n3 = 0
                          case neg =>
                            have h30d : decide ((0 : Int) < (n3 : Int)) = true := decide_eq_true (by omega)
                            have h30n : 0 < n3 := by omega
                            have h30e : decide (0 < n3) = true := decide_eq_true h30n
                            rw [decide_eq_false h30]
                            simp only [Bool.true_and, Bool.false_and, Bool.false_eq_true, if_false]
                            clear h30
                            go_enter Try.func73, Try.ntmps73
                            go_wp2_with (go_at_call 141; (with_reducible refine (spec_l01In.pure _ _ _ _).mono ?_); rintro e w' ⟨rfl, ⟨nd, rfl⟩⟩)
                            go_ret
                            exact ⟨rfl, by first | exact pw_below_drewN HB.out _ | exact HB.out⟩
                          case pos =>
                            subst h30
                            rw [decide_eq_true rfl]
                            simp only [Bool.true_and, Bool.and_true, if_true]
                            rw [show callName 7 f4 = (f4.toList == ([] : List UInt8)) from rfl]
                            rw [if_pos (Kit.allB_end (pathAt f3) 0)]
                            go_enter Try.func73, Try.ntmps73
                            go_wp2_with (go_at_call 141; (with_reducible refine (spec_l01In.pure _ _ _ _).mono ?_); rintro e w' ⟨rfl, ⟨nd, rfl⟩⟩)
                            go_loopg [7] 0 (fun gg s7 wr => s7 = .int .i64 0 ∧ Drawn0 (w.alloc (.cells #[.int .i64 7, .int .i64 f1, .int .i64 0, .slice A3 0 c3, .string f4, .string f5] 27)) wr)
                            case atStart => exact ⟨rfl, (by first | exact Drawn0.refl _ | exact ⟨⟨_, rfl⟩⟩)⟩
                            case round =>
                              obtain ⟨rfl, ⟨m1, rfl⟩⟩ := hrel
                              cases q4 : (f4.toList == ([] : List UInt8)) with
                              | false =>
                                have q4e := (emptyB_eq f4.toList).symm.trans q4
                                go_wp2
                                go_ret
                                refine ⟨?_, by first | exact pw_below_drewN HB.out _ | exact HB.out⟩
                                first | rfl | (rw [q4]; first | done | rfl)
                              | true =>
                                have q4e := (emptyB_eq f4.toList).symm.trans q4
                                go_wp2
                                go_ret
                                refine ⟨?_, by first | exact pw_below_drewN HB.out _ | exact HB.out⟩
                                first | rfl | (rw [q4]; first | done | rfl)
                      case inr =>
                        rcases hk9 with rfl | rfl
                        case inl =>
                          rw [show hasCfg 8 = true from rfl, show hasPathB 8 = false from rfl, show hasTextB 8 = false from rfl]
                          simp only [if_true, Bool.false_eq_true, if_false, Bool.true_and, Bool.and_true]
                          cases q2 : inR f2 0 3 with
                          | false =>
                            simp only [Bool.false_and, Bool.false_eq_true, if_false]
                            go_enter Try.func73, Try.ntmps73
                            go_wp2_with (go_at_call 141; (with_reducible refine (spec_l01In.pure _ _ _ _).mono ?_); rintro e w' ⟨rfl, ⟨nd, rfl⟩⟩)
                            go_ret
                            exact ⟨rfl, by first | exact pw_below_drewN HB.out _ | exact HB.out⟩
                          | true =>
                            by_cases h30 : n3 = 0
                            case neg =>
                              have h30d : decide ((0 : Int) < (n3 : Int)) = true := decide_eq_true (by omega)
                              have h30n : 0 < n3 := by omega
                              have h30e : decide (0 < n3) = true := decide_eq_true h30n
                              rw [decide_eq_false h30]
                              simp only [Bool.true_and, Bool.false_and, Bool.false_eq_true, if_false]
                              clear h30
                              go_enter Try.func73, Try.ntmps73
                              go_wp2_with (go_at_call 141; (with_reducible refine (spec_l01In.pure _ _ _ _).mono ?_); rintro e w' ⟨rfl, ⟨nd, rfl⟩⟩)
                              go_ret
                              exact ⟨rfl, by first | exact pw_below_drewN HB.out _ | exact HB.out⟩
                            case pos =>
                              subst h30
                              rw [decide_eq_true rfl]
                              cases q5 : (f5.toList == ([] : List UInt8)) with
                              | false =>
                                have q5e := (emptyB_eq f5.toList).symm.trans q5
                                simp only [Bool.true_and, Bool.and_false, Bool.false_eq_true, if_false]
                                go_enter Try.func73, Try.ntmps73
                                go_wp2_with (go_at_call 141; (with_reducible refine (spec_l01In.pure _ _ _ _).mono ?_); rintro e w' ⟨rfl, ⟨nd, rfl⟩⟩)
                                go_ret
                                exact ⟨rfl, by first | exact pw_below_drewN HB.out _ | exact HB.out⟩
                              | true =>
                                have q5e := (emptyB_eq f5.toList).symm.trans q5
                                simp only [Bool.true_and, Bool.and_true, if_true]
                                rw [show callName 8 f4 = (f4.toList == ([] : List UInt8)) from rfl]
                                rw [if_pos (Kit.allB_end (pathAt f3) 0)]
                                go_enter Try.func73, Try.ntmps73
                                go_wp2_with (go_at_call 141; (with_reducible refine (spec_l01In.pure _ _ _ _).mono ?_); rintro e w' ⟨rfl, ⟨nd, rfl⟩⟩)
                                go_loopg [7] 0 (fun gg s7 wr => s7 = .int .i64 0 ∧ Drawn0 (w.alloc (.cells #[.int .i64 8, .int .i64 f1, .int .i64 f2, .slice A3 0 c3, .string f4, .string f5] 27)) wr)
                                case atStart => exact ⟨rfl, (by first | exact Drawn0.refl _ | exact ⟨⟨_, rfl⟩⟩)⟩
                                case round =>
                                  obtain ⟨rfl, ⟨m1, rfl⟩⟩ := hrel
                                  cases q4 : (f4.toList == ([] : List UInt8)) with
                                  | false =>
                                    have q4e := (emptyB_eq f4.toList).symm.trans q4
                                    go_wp2
                                    go_ret
                                    refine ⟨?_, by first | exact pw_below_drewN HB.out _ | exact HB.out⟩
                                    first | rfl | (rw [q4]; first | done | rfl)
                                  | true =>
                                    have q4e := (emptyB_eq f4.toList).symm.trans q4
                                    go_wp2
                                    go_ret
                                    refine ⟨?_, by first | exact pw_below_drewN HB.out _ | exact HB.out⟩
                                    first | rfl | (rw [q4]; first | done | rfl)
                        case inr =>
                          rw [show hasCfg 9 = false from rfl, show hasPathB 9 = false from rfl, show hasTextB 9 = false from rfl]
                          simp only [if_true, Bool.false_eq_true, if_false, Bool.true_and, Bool.and_true]
                          cases q2 : (f2 == 0) with
                          | false =>
                            simp only [Bool.false_and, Bool.false_eq_true, if_false]
                            have q2a : f2 ≠ 0 := beq_eq_false_iff_ne.1 q2
                            have q2b : decide (f2 = 0) = false := decide_eq_false q2a
                            have q2c : (f2 != 0) = true := bne_iff_ne.2 q2a
                            go_enter Try.func73, Try.ntmps73
                            go_wp2_with (go_at_call 141; (with_reducible refine (spec_l01In.pure _ _ _ _).mono ?_); rintro e w' ⟨rfl, ⟨nd, rfl⟩⟩)
                            go_ret
                            exact ⟨rfl, by first | exact pw_below_drewN HB.out _ | exact HB.out⟩
                          | true =>
                            obtain rfl : f2 = 0 := by simpa using q2
                            by_cases h30 : n3 = 0
                            case neg =>
                              have h30d : decide ((0 : Int) < (n3 : Int)) = true := decide_eq_true (by omega)
                              have h30n : 0 < n3 := by omega
                              have h30e : decide (0 < n3) = true := decide_eq_true h30n
                              rw [decide_eq_false h30]
                              simp only [Bool.true_and, Bool.false_and, Bool.false_eq_true, if_false]
                              clear h30
                              go_enter Try.func73, Try.ntmps73
                              go_wp2_with (go_at_call 141; (with_reducible refine (spec_l01In.pure _ _ _ _).mono ?_); rintro e w' ⟨rfl, ⟨nd, rfl⟩⟩)
                              go_ret
                              exact ⟨rfl, by first | exact pw_below_drewN HB.out _ | exact HB.out⟩
                            case pos =>
                              subst h30
                              rw [decide_eq_true rfl]
                              cases q5 : (f5.toList == ([] : List UInt8)) with
                              | false =>
                                have q5e := (emptyB_eq f5.toList).symm.trans q5
                                simp only [Bool.true_and, Bool.and_false, Bool.false_eq_true, if_false]
                                go_enter Try.func73, Try.ntmps73
                                go_wp2_with (go_at_call 141; (with_reducible refine (spec_l01In.pure _ _ _ _).mono ?_); rintro e w' ⟨rfl, ⟨nd, rfl⟩⟩)
                                go_ret
                                exact ⟨rfl, by first | exact pw_below_drewN HB.out _ | exact HB.out⟩
                              | true =>
                                have q5e := (emptyB_eq f5.toList).symm.trans q5
                                simp only [Bool.true_and, Bool.and_true, if_true]
                                rw [show callName 9 f4 = (f4.toList == ([] : List UInt8)) from rfl]
                                rw [if_pos (Kit.allB_end (pathAt f3) 0)]
                                go_enter Try.func73, Try.ntmps73
                                go_wp2_with (go_at_call 141; (with_reducible refine (spec_l01In.pure _ _ _ _).mono ?_); rintro e w' ⟨rfl, ⟨nd, rfl⟩⟩)
                                go_loopg [7] 0 (fun gg s7 wr => s7 = .int .i64 0 ∧ Drawn0 (w.alloc (.cells #[.int .i64 9, .int .i64 f1, .int .i64 0, .slice A3 0 c3, .string f4, .string f5] 27)) wr)
                                case atStart => exact ⟨rfl, (by first | exact Drawn0.refl _ | exact ⟨⟨_, rfl⟩⟩)⟩
                                case round =>
                                  obtain ⟨rfl, ⟨m1, rfl⟩⟩ := hrel
                                  cases q4 : (f4.toList == ([] : List UInt8)) with
                                  | false =>
                                    have q4e := (emptyB_eq f4.toList).symm.trans q4
                                    go_wp2
                                    go_ret
                                    refine ⟨?_, by first | exact pw_below_drewN HB.out _ | exact HB.out⟩
                                    first | rfl | (rw [q4]; first | done | rfl)
                                  | true =>
                                    have q4e := (emptyB_eq f4.toList).symm.trans q4
                                    go_wp2
                                    go_ret
                                    refine ⟨?_, by first | exact pw_below_drewN HB.out _ | exact HB.out⟩
                                    first | rfl | (rw [q4]; first | done | rfl)


end Go.Proofs.Ytophaihdibplkaa.PFnExactSafeDocs
