/- By a program of this session, out of the kit's print and contracts made by hand: the machine side of a law; Lean checks it. No conditions. -/
import Derived.Test.YtophaihdibplkaaPFnExactCommentOKx0
import Derived.Test.YtophaihdibplkaaPFnExactCommentOKx2
import Derived.Test.YtophaihdibplkaaPFnExactCommentOKx3
namespace Go.Proofs.Ytophaihdibplkaa.PFnExactCommentOK
open Go.RowKit Go.Proofs.YtophaihdibplkaaW.PrintWords Go.Proofs.YtophaihdibplkaaW.PrintLast Go.Proofs.YtophaihdibplkaaW.PrintMore
attribute [local go_sem] max2_int min2_int max_two min_two max_three min_three max_four min_four   -- for this text's walks alone
set_option linter.unusedVariables false
set_option linter.unusedSimpArgs false

/-! ### strings_Contains: function 111, by hand -/
/-- strings.Contains of one byte. -/
def strings_Contains.f (a0 a1 : ByteArray) : Option Bool := match a1.data.toList with | [c] => some (decide (0 ≤ Lib.indexByte a0.data.toList c)) | _ => none
theorem strings_Contains.calls (a0 : ByteArray) (a1 : ByteArray) (r : Bool) (w : World) (h : strings_Contains.f a0 a1 = some r) :
    Calls Try.prog 111 #[.string a0, .string a1] w fun e w' => e = .returned (.bool r) ∧ Drawn0 w w' := by
  unfold strings_Contains.f at h
  rcases a1 with ⟨⟨l⟩⟩
  cases l with
  | nil => cases h
  | cons c l =>
    cases l with
    | cons _ _ => cases h
    | nil =>
      obtain rfl := Option.some.inj h
      refine (Try.strings_Contains_one a0 c w).mono ?_
      rintro e w' ⟨rfl, rfl⟩
      exact ⟨rfl, Drawn0.refl _⟩


/-! ### stringslite_HasSuffix: function 157 -/
def stringslite_HasSuffix.f (a0 : ByteArray) (a1 : ByteArray) : Option (Bool) := if (a0.size : Int) ≥ (a1.size : Int) then (if 0 ≤ (wrap64 ((a0.size : Int) - (a1.size : Int))) then (if (wrap64 ((a0.size : Int) - (a1.size : Int))) ≤ (a0.size : Int) then (some ((a0.extract ((wrap64 ((a0.size : Int) - (a1.size : Int))) : Int).toNat a0.size).toList == a1.toList)) else (none)) else (none)) else (some false)
set_option maxHeartbeats 8000000 in
set_option maxRecDepth 100000 in
theorem stringslite_HasSuffix.calls (a0 : ByteArray) (a1 : ByteArray) (r : Bool) (w : World) (h : stringslite_HasSuffix.f a0 a1 = some r) :
    Calls Try.prog 157 #[.string a0, .string a1] w fun e w' => e = .returned (.bool r) ∧ Drawn0 w w' := by
  have H : (if (a0.size : Int) ≥ (a1.size : Int) then (if 0 ≤ (wrap64 ((a0.size : Int) - (a1.size : Int))) then (if (wrap64 ((a0.size : Int) - (a1.size : Int))) ≤ (a0.size : Int) then (some ((a0.extract ((wrap64 ((a0.size : Int) - (a1.size : Int))) : Int).toNat a0.size).toList == a1.toList)) else (none)) else (none)) else (some false)) = some r := h
  clear h
  by_cases c3 : (a0.size : Int) ≥ (a1.size : Int)
  · rw [if_pos c3] at H
    have c3b0 : decide ((a1.size : Int) ≤ (a0.size : Int)) = true := decide_eq_true c3
    have c3b1 : decide (a1.size ≤ a0.size) = true := decide_eq_true (Int.ofNat_le.mp c3)
    clear c3
    obtain ⟨ji4, hji4⟩ : ∃ j_ : Int, (wrap64 ((a0.size : Int) - (a1.size : Int))) = j_ := ⟨_, rfl⟩
    replace H : (if 0 ≤ (ji4) then (if (ji4) ≤ (a0.size : Int) then (some ((a0.extract ((ji4) : Int).toNat a0.size).toList == a1.toList)) else (none)) else (none)) = some r := by first | (rw [hji4] at H; exact H) | (simp only [hji4] at H ⊢; exact H)
    have hji4w : (IntKind.i64.wrap ((a0.size : Int) - (a1.size : Int))) = ji4 := (i64_w _).trans hji4
    by_cases c5 : 0 ≤ (ji4)
    · rw [if_pos c5] at H
      have c5b0 := eq_true c5
      have c5b1 : decide (0 ≤ (ji4)) = true := decide_eq_true c5
      clear c5
      by_cases c6 : (ji4) ≤ (a0.size : Int)
      · rw [if_pos c6] at H
        have c6b0 := eq_true c6
        have c6b1 : decide ((ji4) ≤ (a0.size : Int)) = true := decide_eq_true c6
        clear c6
        obtain rfl := Option.some.inj H
        go_enter Try.func157, Try.ntmps157
        go_wp2
        go_ret
        exact ⟨by first | rfl | (simp; done) | (simp only [← hji4] <;> (first | rfl | simp)) | (simp [*]; done), by repeat (first | exact Drawn0.refl _ | apply Drawn0.step)⟩
      · rw [if_neg c6] at H
        exact absurd H (by simp)
    · rw [if_neg c5] at H
      exact absurd H (by simp)
  · rw [if_neg c3] at H
    have c3b0 : decide ((a1.size : Int) ≤ (a0.size : Int)) = false := decide_eq_false c3
    have c3b1 : decide (a1.size ≤ a0.size) = false := decide_eq_false (fun h => c3 (Int.ofNat_le.mpr h))
    clear c3
    obtain rfl := Option.some.inj H
    go_enter Try.func157, Try.ntmps157
    go_wp2
    go_ret
    exact ⟨by first | rfl | (simp; done) | (simp [*]; done), by repeat (first | exact Drawn0.refl _ | apply Drawn0.step)⟩

/-! ### strings_HasSuffix: function 112 -/
def strings_HasSuffix.f (a0 : ByteArray) (a1 : ByteArray) : Option (Bool) := (stringslite_HasSuffix.f a0 a1).bind fun t103 => (some t103)
set_option maxHeartbeats 8000000 in
set_option maxRecDepth 100000 in
theorem strings_HasSuffix.calls (a0 : ByteArray) (a1 : ByteArray) (r : Bool) (w : World) (h : strings_HasSuffix.f a0 a1 = some r) :
    Calls Try.prog 112 #[.string a0, .string a1] w fun e w' => e = .returned (.bool r) ∧ Drawn0 w w' := by
  have H : ((stringslite_HasSuffix.f a0 a1).bind fun t103 => (some t103)) = some r := h
  clear h
  replace H := Option.bind_eq_some_iff.mp H
  obtain ⟨t103, A30, H⟩ := H
  replace H : (some t103) = some r := H
  have A3 := Aside0.mk A30
  clear A30
  obtain rfl := Option.some.inj H
  go_enter Try.func112, Try.ntmps112
  go_wp2_with (first | ((with_reducible refine gate_callee (f := 157) rfl ?_); refine goesL_ (some 7) rfl rfl Try.func157 (by kernel_rfl) rfl #[.string a0, .string a1] rfl (by (try simp only [List.map_toArray, List.map_cons, List.map_nil]); first | done | rfl | (simp only [List.length_drop, List.length_take]; rfl)) ?_; (with_reducible refine (stringslite_HasSuffix.calls a0 a1 t103 _ A3.out).mono ?_); rintro e w' ⟨rfl, ⟨nd, rfl⟩⟩; refine ⟨_, rfl, ?_⟩))
  go_ret
  exact ⟨by first | rfl | (simp; done) | (simp [*]; done), by repeat (first | exact Drawn0.refl _ | apply Drawn0.step)⟩

/-! ### impl_CommentOK: function 48, by hand -/
/-- What impl.CommentOK comes to, the two ends told. -/
def commentB (t : ByteArray) (p q : Bool) : Bool := !decide (65536 < (t.size : Int)) && (!Lib.containsAny t.data.toList [60, 62] && (!Lib.contains t.data.toList [45, 45] && (!p && !q)))
set_option maxHeartbeats 8000000 in
theorem impl_CommentOK.calls (t : ByteArray) (m : Int) (p q : Bool) (w : World) (hm : w.cell? ⟨0, 0, none⟩ = some (.int .i64 m)) (hs : t.size ≤ 1048576) (hp : strings_HasPrefix.f t ⟨#[45]⟩ = some p) (hq : strings_HasSuffix.f t ⟨#[45]⟩ = some q) :
    Calls Try.prog 48 #[.string t] w fun e w' => e = .returned (.bool (commentB t p q)) ∧ Below w.heap.size w w' := by
  have QL := Aside0.mk (impl_isLong.one t w)
  have HB0 := Aside0.mk (below_alloc (Below.refl w.heap.size w) (.cells #[.string t] 9 (0, 0)))
  have QA := Aside0.mk (fun W => containsAny_lt t W hs)
  have QC : Aside0 (∀ W, Below w.heap.size w W → Calls Try.prog 111 #[.string t, .string ⟨#[45, 45]⟩] W fun e w' => e = .returned (.bool (Lib.contains t.data.toList [45, 45])) ∧ w' = W) := ⟨fun W hW => Try.strings_Contains t ⟨#[45, 45]⟩ m W (by omega) (pw_cell_below hW hm)⟩
  have QP := Aside0.mk (fun W => strings_HasPrefix.calls t ⟨#[45]⟩ p W hp)
  have QS := Aside0.mk (fun W => strings_HasSuffix.calls t ⟨#[45]⟩ q W hq)
  unfold commentB
  clear hm hp hq hs
  generalize decide (65536 < (t.size : Int)) = b1 at *
  generalize Lib.containsAny t.data.toList [60, 62] = b2 at *
  generalize Lib.contains t.data.toList [45, 45] = b3 at *
  cases b1 <;> cases b2 <;> cases b3 <;> cases p <;> cases q
  all_goals
    go_enter Try.func48, Try.ntmps48
    go_wp2_with (first | (go_at_call 100; (with_reducible refine QL.out.mono ?_); rintro e w1 ⟨rfl, hb⟩; (have HB1 := Aside0.mk (below_step HB0.out hb)); clear hb HB0) | (go_at_call 110; (with_reducible refine (QA.out _).mono ?_); rintro e w2 ⟨rfl, hb⟩; (have HB2 := Aside0.mk (below_step HB1.out hb)); clear hb) | (go_at_call 111; (with_reducible refine (QC.out _ HB2.out).mono ?_); rintro e w3 ⟨rfl, hw⟩; rw [hw]) | (go_at_call 101; (with_reducible refine (QP.out _).mono ?_); rintro e w4 ⟨rfl, ⟨nd, rfl⟩⟩) | (go_at_call 112; (with_reducible refine (QS.out _).mono ?_); rintro e w5 ⟨rfl, ⟨nd, rfl⟩⟩))
    go_ret
    first | exact ⟨rfl, HB1.out⟩ | exact ⟨rfl, HB2.out⟩ | exact ⟨rfl, pw_below_drewN HB2.out _⟩


/-! ### laws_FnExactCommentOK: function 8, by hand -/
def laws_FnExactCommentOK.f (k : Nat) (a0 : ByteArray) : Option Bool := if 1048576 < a0.size then some true else
  (spec_CommentOK.f k a0).bind fun s => (strings_HasPrefix.f a0 ⟨#[45]⟩).bind fun p => (strings_HasSuffix.f a0 ⟨#[45]⟩).bind fun q => if s = commentB a0 p q then some true else none
set_option maxHeartbeats 8000000 in
theorem laws_FnExactCommentOK.calls (k : Nat) (a0 : ByteArray) (r : Bool) (w : World) (m : Int) (hm : w.cell? ⟨0, 0, none⟩ = some (.int .i64 m)) (h : laws_FnExactCommentOK.f k a0 = some r) (hr : Aside0 (r = true)) :
    Calls Try.prog 8 #[.string a0] w fun e w' => e = .returned (.bool r) ∧ Below w.heap.size w w' := by
  obtain rfl := hr.out
  clear hr
  unfold laws_FnExactCommentOK.f at h
  by_cases c1 : 1048576 < a0.size
  · have z1 : decide ((1048576 : Int) < (a0.size : Int)) = true := decide_eq_true (by omega)
    clear h c1 hm
    go_enter Try.func8, Try.ntmps8
    go_wp2
    go_ret
    exact ⟨rfl, Below.refl _ _⟩
  rw [if_neg c1] at h
  have z1 : decide ((1048576 : Int) < (a0.size : Int)) = false := decide_eq_false (by omega)
  obtain ⟨s, hs, h⟩ := Option.bind_eq_some_iff.mp h
  obtain ⟨p, hp, h⟩ := Option.bind_eq_some_iff.mp h
  obtain ⟨q, hq, h⟩ := Option.bind_eq_some_iff.mp h
  obtain ⟨h, _⟩ := Option.ite_none_right_eq_some.mp h
  have QS := Aside0.mk (fun W => spec_CommentOK.calls k a0 s W hs)
  have QI : Aside0 (∀ W, Below w.heap.size w W → Calls Try.prog 48 #[.string a0] W fun e w' => e = .returned (.bool s) ∧ Below W.heap.size W w') := ⟨fun W hW => by rw [h]; exact impl_CommentOK.calls a0 m p q W (pw_cell_below hW hm) (by omega) hp hq⟩
  have HB0 := Aside0.mk (Below.refl w.heap.size w)
  clear hs hp hq h c1 hm
  cases s
  all_goals
    go_enter Try.func8, Try.ntmps8
    go_wp2_with (first | (go_at_call 47; (with_reducible refine (QS.out _).mono ?_); rintro e w1 ⟨rfl, hd⟩; (have HB1 := Aside0.mk hd.below); clear hd HB0) | (go_at_call 48; (with_reducible refine (QI.out _ HB1.out).mono ?_); rintro e w2 ⟨rfl, hb⟩; (have HB2 := Aside0.mk (below_step HB1.out hb)); clear hb))
    go_ret
    exact ⟨rfl, HB2.out⟩


end Go.Proofs.Ytophaihdibplkaa.PFnExactCommentOK
