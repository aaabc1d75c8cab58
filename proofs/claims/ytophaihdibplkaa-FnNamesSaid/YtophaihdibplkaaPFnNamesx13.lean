/- By a program of this session, out of the kit's print and contracts made by hand: the machine side of a law; Lean checks it. No conditions. -/
import Derived.Test.YtophaihdibplkaaPFnNamesx0
import Derived.Test.YtophaihdibplkaaPFnNamesx2
import Derived.Test.YtophaihdibplkaaPFnNamesx3
import Derived.Test.YtophaihdibplkaaPFnNamesx4
import Derived.Test.YtophaihdibplkaaPFnNamesx5
import Derived.Test.YtophaihdibplkaaPFnNamesx6
import Derived.Test.YtophaihdibplkaaPFnNamesx7
import Derived.Test.YtophaihdibplkaaPFnNamesx8
import Derived.Test.YtophaihdibplkaaPFnNamesx10
import Derived.Test.YtophaihdibplkaaPFnNamesx11
import Derived.Test.YtophaihdibplkaaPFnNamesx12
namespace Go.Proofs.Ytophaihdibplkaa.PFnNames
open Go.RowKit Go.Proofs.YtophaihdibplkaaW.PrintWords Go.Proofs.YtophaihdibplkaaW.PrintLast Go.Proofs.YtophaihdibplkaaW.PrintMore
attribute [local go_sem] max2_int min2_int max_two min_two max_three min_three max_four min_four   -- for this text's walks alone
set_option linter.unusedVariables false
set_option linter.unusedSimpArgs false

/-! ### laws_FnNames: function 6 -/
mutual
def laws_FnNames.j0 : Nat → List Int → List Int → Bool → Option (Bool)
  | 0, _, _, _ => none
  | k + 1, x0, x1, x18 => if x18 = true then (some true) else ((spec_TagDrawn.f x0).bind fun t220 => ((spec_TagDrawn.f x1).bind fun t221 => ((spec_AttrDrawn.f x0).bind fun bt222 => (laws_FnNames.l0 k x1 (([t220, t221, bt222.1, (⟨#[101, 109, 98, 101, 100]⟩ : ByteArray), (⟨#[102, 114, 97, 109, 101]⟩ : ByteArray), (⟨#[98, 97, 115, 101]⟩ : ByteArray), (⟨#[109, 101, 116, 97]⟩ : ByteArray), (⟨#[104, 49]⟩ : ByteArray), (⟨#[111, 110, 120]⟩ : ByteArray), (⟨#[111, 110]⟩ : ByteArray)] : List ByteArray)) 0))))
def laws_FnNames.l0 : Nat → List Int → List ByteArray → Int → Option (Bool)
  | 0, _, _, _ => none
  | k + 1, x1, x5, x6 => if x6 < (x5.length : Int) then (if 0 ≤ x6 then ((impl_IsVoid.f k (rdOf ByteArray.empty x5 x6)).bind fun t228 => ((spec_IsVoid.f k (rdOf ByteArray.empty x5 x6)).bind fun t229 => (if (t228 != t229) = true then (laws_FnNames.j2 k x1 x5 x6 (rdOf ByteArray.empty x5 x6) true) else ((impl_IsRaw.f k (rdOf ByteArray.empty x5 x6)).bind fun t230 => ((spec_IsRaw.f k (rdOf ByteArray.empty x5 x6)).bind fun t231 => (if (t230 != t231) = true then (laws_FnNames.j2 k x1 x5 x6 (rdOf ByteArray.empty x5 x6) true) else ((impl_BreaksOut.f k (rdOf ByteArray.empty x5 x6)).bind fun t232 => ((spec_BreaksOut.f k (rdOf ByteArray.empty x5 x6)).bind fun t233 => (if (t232 != t233) = true then (laws_FnNames.j2 k x1 x5 x6 (rdOf ByteArray.empty x5 x6) true) else ((impl_IsBanned.f k (rdOf ByteArray.empty x5 x6)).bind fun t234 => ((spec_IsBanned.f k (rdOf ByteArray.empty x5 x6)).bind fun t235 => (if (t234 != t235) = true then (laws_FnNames.j2 k x1 x5 x6 (rdOf ByteArray.empty x5 x6) true) else ((impl_IsHandler.f (rdOf ByteArray.empty x5 x6)).bind fun t236 => ((spec_IsHandler.f (rdOf ByteArray.empty x5 x6)).bind fun t237 => (if (t236 != t237) = true then (laws_FnNames.j2 k x1 x5 x6 (rdOf ByteArray.empty x5 x6) true) else ((impl_IsLink.f k (rdOf ByteArray.empty x5 x6)).bind fun t238 => ((spec_IsLink.f k (rdOf ByteArray.empty x5 x6)).bind fun t239 => (if (t238 != t239) = true then (laws_FnNames.j2 k x1 x5 x6 (rdOf ByteArray.empty x5 x6) true) else ((impl_SpaceOf.f (rdOf ByteArray.empty x5 x6)).bind fun t240 => ((spec_SpaceOf.f (rdOf ByteArray.empty x5 x6)).bind fun t241 => (if t240 = t241 then ((impl_TagOK.f k (rdOf ByteArray.empty x5 x6)).bind fun t242 => (laws_FnNames.j2 k x1 x5 x6 (rdOf ByteArray.empty x5 x6) (!t242))) else (laws_FnNames.j2 k x1 x5 x6 (rdOf ByteArray.empty x5 x6) true)))))))))))))))))))))) else (none)) else (some true)
def laws_FnNames.j2 : Nat → List Int → List ByteArray → Int → ByteArray → Bool → Option (Bool)
  | 0, _, _, _, _, _ => none
  | k + 1, x1, x5, x6, x7, x88 => if x88 = true then (some false) else (laws_FnNames.l1 k x1 x5 x6 x7 (([] : List Int)) 0)
def laws_FnNames.l1 : Nat → List Int → List ByteArray → Int → ByteArray → List Int → Int → Option (Bool)
  | 0, _, _, _, _, _, _ => none
  | k + 1, x1, x5, x6, x7, x8, x9 => if x9 < (x7.size : Int) then (if 0 ≤ x9 then (if (bt x7 x9) ≥ 97 then (if (bt x7 x9) ≤ 122 then ((laws_at.f x1 x9 2).bind fun t246 => (if t246 = 0 then (if x8.length < 140737488355328 then (laws_FnNames.l1 k x1 x5 x6 x7 (x8 ++ [((bt x7 x9) - 32) % 256]) (wrap64 (x9 + 1))) else (none)) else (if x8.length < 140737488355328 then (laws_FnNames.l1 k x1 x5 x6 x7 (x8 ++ [bt x7 x9]) (wrap64 (x9 + 1))) else (none)))) else (if x8.length < 140737488355328 then (laws_FnNames.l1 k x1 x5 x6 x7 (x8 ++ [bt x7 x9]) (wrap64 (x9 + 1))) else (none))) else (if x8.length < 140737488355328 then (laws_FnNames.l1 k x1 x5 x6 x7 (x8 ++ [bt x7 x9]) (wrap64 (x9 + 1))) else (none))) else (none)) else ((impl_LowerOf.f (strOfNums x8)).bind fun t259 => (if t259.toList = x7.toList then ((impl_TagOK.f k (strOfNums x8)).bind fun t260 => (if (t260 != ((strOfNums x8).toList == x7.toList)) = true then (some false) else (laws_FnNames.l0 k x1 x5 (wrap64 (x6 + 1))))) else (some false)))
end
def laws_FnNames.f (k : Nat) (l0 : List Int) (l1 : List Int) : Option (Bool) := if (l0.length : Int) > 1048576 then (laws_FnNames.j0 k l0 l1 true) else (laws_FnNames.j0 k l0 l1 (decide ((l1.length : Int) > 1048576)))
theorem laws_FnNames.mono_l : ∀ k, (∀ y0 y1 y2, LeO (laws_FnNames.j0 k y0 y1 y2) (laws_FnNames.j0 (k + 1) y0 y1 y2)) ∧ (∀ y0 y1 y2, LeO (laws_FnNames.l0 k y0 y1 y2) (laws_FnNames.l0 (k + 1) y0 y1 y2)) ∧ (∀ y0 y1 y2 y3 y4, LeO (laws_FnNames.j2 k y0 y1 y2 y3 y4) (laws_FnNames.j2 (k + 1) y0 y1 y2 y3 y4)) ∧ (∀ y0 y1 y2 y3 y4 y5, LeO (laws_FnNames.l1 k y0 y1 y2 y3 y4 y5) (laws_FnNames.l1 (k + 1) y0 y1 y2 y3 y4 y5))
  | 0 => ⟨fun _ _ _ r h => by simp [laws_FnNames.j0] at h, fun _ _ _ r h => by simp [laws_FnNames.l0] at h, fun _ _ _ _ _ r h => by simp [laws_FnNames.j2] at h, fun _ _ _ _ _ _ r h => by simp [laws_FnNames.l1] at h⟩
  | k + 1 => by
    obtain ⟨ih0, ih1, ih2, ih3⟩ := laws_FnNames.mono_l k
    refine ⟨?_, ?_, ?_, ?_⟩
    · intro y0 y1 y2
      unfold laws_FnNames.j0
      repeat' first
      | (with_reducible exact ih0 _ _ _)
      | (with_reducible exact ih1 _ _ _)
      | (with_reducible exact ih2 _ _ _ _ _)
      | (with_reducible exact ih3 _ _ _ _ _ _)
      | (with_reducible exact impl_BreaksOut.mono _ _)
      | (with_reducible exact impl_IsBanned.mono _ _)
      | (with_reducible exact impl_IsLink.mono _ _)
      | (with_reducible exact impl_IsRaw.mono _ _)
      | (with_reducible exact impl_IsVoid.mono _ _)
      | (with_reducible exact impl_TagOK.mono _ _)
      | (with_reducible exact spec_BreaksOut.mono _ _)
      | (with_reducible exact spec_IsBanned.mono _ _)
      | (with_reducible exact spec_IsLink.mono _ _)
      | (with_reducible exact spec_IsRaw.mono _ _)
      | (with_reducible exact spec_IsVoid.mono _ _)
      | (with_reducible exact LeO.refl _)
      | (with_reducible exact LeO.none _)
      | (with_reducible refine LeO.ite ?_ ?_)
      | (with_reducible refine LeO.bind ?_ (fun _ => ?_))
      | exact ih0 _ _ _
      | exact ih1 _ _ _
      | exact ih2 _ _ _ _ _
      | exact ih3 _ _ _ _ _ _
      | exact impl_BreaksOut.mono _ _
      | exact impl_IsBanned.mono _ _
      | exact impl_IsLink.mono _ _
      | exact impl_IsRaw.mono _ _
      | exact impl_IsVoid.mono _ _
      | exact impl_TagOK.mono _ _
      | exact spec_BreaksOut.mono _ _
      | exact spec_IsBanned.mono _ _
      | exact spec_IsLink.mono _ _
      | exact spec_IsRaw.mono _ _
      | exact spec_IsVoid.mono _ _
      | exact LeO.none _
      | refine LeO.ite ?_ ?_
      | refine LeO.bind ?_ (fun _ => ?_)
    · intro y0 y1 y2
      unfold laws_FnNames.l0
      repeat' first
      | (with_reducible exact ih0 _ _ _)
      | (with_reducible exact ih1 _ _ _)
      | (with_reducible exact ih2 _ _ _ _ _)
      | (with_reducible exact ih3 _ _ _ _ _ _)
      | (with_reducible exact impl_BreaksOut.mono _ _)
      | (with_reducible exact impl_IsBanned.mono _ _)
      | (with_reducible exact impl_IsLink.mono _ _)
      | (with_reducible exact impl_IsRaw.mono _ _)
      | (with_reducible exact impl_IsVoid.mono _ _)
      | (with_reducible exact impl_TagOK.mono _ _)
      | (with_reducible exact spec_BreaksOut.mono _ _)
      | (with_reducible exact spec_IsBanned.mono _ _)
      | (with_reducible exact spec_IsLink.mono _ _)
      | (with_reducible exact spec_IsRaw.mono _ _)
      | (with_reducible exact spec_IsVoid.mono _ _)
      | (with_reducible exact LeO.refl _)
      | (with_reducible exact LeO.none _)
      | (with_reducible refine LeO.ite ?_ ?_)
      | (with_reducible refine LeO.bind ?_ (fun _ => ?_))
      | exact ih0 _ _ _
      | exact ih1 _ _ _
      | exact ih2 _ _ _ _ _
      | exact ih3 _ _ _ _ _ _
      | exact impl_BreaksOut.mono _ _
      | exact impl_IsBanned.mono _ _
      | exact impl_IsLink.mono _ _
      | exact impl_IsRaw.mono _ _
      | exact impl_IsVoid.mono _ _
      | exact impl_TagOK.mono _ _
      | exact spec_BreaksOut.mono _ _
      | exact spec_IsBanned.mono _ _
      | exact spec_IsLink.mono _ _
      | exact spec_IsRaw.mono _ _
      | exact spec_IsVoid.mono _ _
      | exact LeO.none _
      | refine LeO.ite ?_ ?_
      | refine LeO.bind ?_ (fun _ => ?_)
    · intro y0 y1 y2 y3 y4
      unfold laws_FnNames.j2
      repeat' first
      | (with_reducible exact ih0 _ _ _)
      | (with_reducible exact ih1 _ _ _)
      | (with_reducible exact ih2 _ _ _ _ _)
      | (with_reducible exact ih3 _ _ _ _ _ _)
      | (with_reducible exact impl_BreaksOut.mono _ _)
      | (with_reducible exact impl_IsBanned.mono _ _)
      | (with_reducible exact impl_IsLink.mono _ _)
      | (with_reducible exact impl_IsRaw.mono _ _)
      | (with_reducible exact impl_IsVoid.mono _ _)
      | (with_reducible exact impl_TagOK.mono _ _)
      | (with_reducible exact spec_BreaksOut.mono _ _)
      | (with_reducible exact spec_IsBanned.mono _ _)
      | (with_reducible exact spec_IsLink.mono _ _)
      | (with_reducible exact spec_IsRaw.mono _ _)
      | (with_reducible exact spec_IsVoid.mono _ _)
      | (with_reducible exact LeO.refl _)
      | (with_reducible exact LeO.none _)
      | (with_reducible refine LeO.ite ?_ ?_)
      | (with_reducible refine LeO.bind ?_ (fun _ => ?_))
      | exact ih0 _ _ _
      | exact ih1 _ _ _
      | exact ih2 _ _ _ _ _
      | exact ih3 _ _ _ _ _ _
      | exact impl_BreaksOut.mono _ _
      | exact impl_IsBanned.mono _ _
      | exact impl_IsLink.mono _ _
      | exact impl_IsRaw.mono _ _
      | exact impl_IsVoid.mono _ _
      | exact impl_TagOK.mono _ _
      | exact spec_BreaksOut.mono _ _
      | exact spec_IsBanned.mono _ _
      | exact spec_IsLink.mono _ _
      | exact spec_IsRaw.mono _ _
      | exact spec_IsVoid.mono _ _
      | exact LeO.none _
      | refine LeO.ite ?_ ?_
      | refine LeO.bind ?_ (fun _ => ?_)
    · intro y0 y1 y2 y3 y4 y5
      unfold laws_FnNames.l1
      repeat' first
      | (with_reducible exact ih0 _ _ _)
      | (with_reducible exact ih1 _ _ _)
      | (with_reducible exact ih2 _ _ _ _ _)
      | (with_reducible exact ih3 _ _ _ _ _ _)
      | (with_reducible exact impl_BreaksOut.mono _ _)
      | (with_reducible exact impl_IsBanned.mono _ _)
      | (with_reducible exact impl_IsLink.mono _ _)
      | (with_reducible exact impl_IsRaw.mono _ _)
      | (with_reducible exact impl_IsVoid.mono _ _)
      | (with_reducible exact impl_TagOK.mono _ _)
      | (with_reducible exact spec_BreaksOut.mono _ _)
      | (with_reducible exact spec_IsBanned.mono _ _)
      | (with_reducible exact spec_IsLink.mono _ _)
      | (with_reducible exact spec_IsRaw.mono _ _)
      | (with_reducible exact spec_IsVoid.mono _ _)
      | (with_reducible exact LeO.refl _)
      | (with_reducible exact LeO.none _)
      | (with_reducible refine LeO.ite ?_ ?_)
      | (with_reducible refine LeO.bind ?_ (fun _ => ?_))
      | exact ih0 _ _ _
      | exact ih1 _ _ _
      | exact ih2 _ _ _ _ _
      | exact ih3 _ _ _ _ _ _
      | exact impl_BreaksOut.mono _ _
      | exact impl_IsBanned.mono _ _
      | exact impl_IsLink.mono _ _
      | exact impl_IsRaw.mono _ _
      | exact impl_IsVoid.mono _ _
      | exact impl_TagOK.mono _ _
      | exact spec_BreaksOut.mono _ _
      | exact spec_IsBanned.mono _ _
      | exact spec_IsLink.mono _ _
      | exact spec_IsRaw.mono _ _
      | exact spec_IsVoid.mono _ _
      | exact LeO.none _
      | refine LeO.ite ?_ ?_
      | refine LeO.bind ?_ (fun _ => ?_)
theorem laws_FnNames.mono : ∀ a0 a1 k, LeO (laws_FnNames.f k a0 a1) (laws_FnNames.f (k + 1) a0 a1) := by
  intro a0 a1 k
  obtain ⟨ih0, ih1, ih2, ih3⟩ := laws_FnNames.mono_l k
  unfold laws_FnNames.f
  repeat' first
      | (with_reducible exact ih0 _ _ _)
      | (with_reducible exact ih1 _ _ _)
      | (with_reducible exact ih2 _ _ _ _ _)
      | (with_reducible exact ih3 _ _ _ _ _ _)
      | (with_reducible exact impl_BreaksOut.mono _ _)
      | (with_reducible exact impl_IsBanned.mono _ _)
      | (with_reducible exact impl_IsLink.mono _ _)
      | (with_reducible exact impl_IsRaw.mono _ _)
      | (with_reducible exact impl_IsVoid.mono _ _)
      | (with_reducible exact impl_TagOK.mono _ _)
      | (with_reducible exact spec_BreaksOut.mono _ _)
      | (with_reducible exact spec_IsBanned.mono _ _)
      | (with_reducible exact spec_IsLink.mono _ _)
      | (with_reducible exact spec_IsRaw.mono _ _)
      | (with_reducible exact spec_IsVoid.mono _ _)
      | (with_reducible exact LeO.refl _)
      | (with_reducible exact LeO.none _)
      | (with_reducible refine LeO.ite ?_ ?_)
      | (with_reducible refine LeO.bind ?_ (fun _ => ?_))
      | exact ih0 _ _ _
      | exact ih1 _ _ _
      | exact ih2 _ _ _ _ _
      | exact ih3 _ _ _ _ _ _
      | exact impl_BreaksOut.mono _ _
      | exact impl_IsBanned.mono _ _
      | exact impl_IsLink.mono _ _
      | exact impl_IsRaw.mono _ _
      | exact impl_IsVoid.mono _ _
      | exact impl_TagOK.mono _ _
      | exact spec_BreaksOut.mono _ _
      | exact spec_IsBanned.mono _ _
      | exact spec_IsLink.mono _ _
      | exact spec_IsRaw.mono _ _
      | exact spec_IsVoid.mono _ _
      | exact LeO.none _
      | refine LeO.ite ?_ ?_
      | refine LeO.bind ?_ (fun _ => ?_)
def laws_FnNames.T18 : Bool × List (List Nat × List Nat) := (true, [([], []), ([0], [0]), ([1], [1]), ([], []), ([2, 3], [2, 3]), ([4, 2], [4]), ([5], [5]), ([6, 5], [5, 6]), ([7, 5, 5], [5, 7]), ([5], [5]), ([9, 5], [5, 9]), ([5], [5]), ([10, 11, 5], [5, 10, 11]), ([8, 12, 5], [5, 8, 12]), ([5, 13], [5, 13])])
def laws_FnNames.B18 : List Nat := [0, 1, 3, 0, 15, 31, 63, 127, 255, 63, 575, 63, 3647, 8191, 16383]
theorem laws_FnNames.tab18 : rtab .any (opsOf Try.f6 18) = laws_FnNames.T18 := by kernel_rfl
theorem laws_FnNames.bits18 : waitsOk laws_FnNames.T18.2 laws_FnNames.B18 = true := by kernel_rfl
set_option maxHeartbeats 8000000 in
set_option maxRecDepth 100000 in
theorem laws_FnNames.calls (k : Nat) (A0 : Option Addr) (c0 : Nat) (l0 : List Int) (A1 : Option Addr) (c1 : Nat) (l1 : List Int) (r : Bool) (w : World) (hr0 : Kd.C (Kd.int .u8) w A0 l0.length l0) (hc0 : l0.length ≤ c0) (hr1 : Kd.C (Kd.int .u8) w A1 l1.length l1) (hc1 : l1.length ≤ c1) (h : laws_FnNames.f k l0 l1 = some r) (HRT : Aside0 (r = true)) :
    Calls Try.prog 6 #[.slice A0 l0.length c0, .slice A1 l1.length c1] w fun e w' => e = .returned (.bool r) ∧ Below w.heap.size w w' := by
  have HR0 := Aside0.mk hr0
  have HC0 := Aside0.mk hc0
  clear hr0 hc0
  have HR1 := Aside0.mk hr1
  have HC1 := Aside0.mk hc1
  clear hr1 hc1
  have HB := Aside0.mk (Below.refl w.heap.size w)
  have H : (if (l0.length : Int) > 1048576 then (laws_FnNames.j0 k l0 l1 true) else (laws_FnNames.j0 k l0 l1 (decide ((l1.length : Int) > 1048576)))) = some r := h
  clear h
  have HC3 := Aside0.mk H
  clear H
  go_enter Try.func6, Try.ntmps6
  go_upto_region 1 with (fail)
  go_cut [18] (fun v18 wc => ∃ (kq : Nat) (x18_2 : Bool), v18 = .bool x18_2 ∧ Aside0 (laws_FnNames.j0 kq l0 l1 x18_2 = some r) ∧ Aside0 (kq ≤ k) ∧ Aside0 (Below w.heap.size w wc))
  case first =>
    have H := HC3.out
    clear HC3
    by_cases c4 : (l0.length : Int) > 1048576
    · rw [if_pos c4] at H
      have c4b0 : decide (1048576 < (l0.length : Int)) = true := decide_eq_true c4
      have c4b1 : decide (1048576 < l0.length) = true := decide_eq_true (by omega)
      clear c4
      (first | rw [c4b0] | (simp only [i64_w, i32_w]; rw [c4b0]) | skip)
      have H' := Aside0.mk H
      clear H
      go_wp2
      go_meet
      case rel => exact ⟨_, (true), (by first | rfl | (simp; done) | (simp [*]; done)), H', ⟨by first | omega | exact Nat.le_refl _⟩, ⟨by repeat (first | (with_reducible first | exact HB.out | apply below_alloc | apply pw_below_drewN | apply below_drew1) | exact HB.out)⟩⟩
    · rw [if_neg c4] at H
      have c4b0 : decide (1048576 < (l0.length : Int)) = false := decide_eq_false c4
      have c4b1 : decide (1048576 < l0.length) = false := decide_eq_false (by omega)
      clear c4
      (first | rw [c4b0] | (simp only [i64_w, i32_w]; rw [c4b0]) | skip)
      have H' := Aside0.mk H
      clear H
      go_wp2
      go_meet
      case rel => exact ⟨_, (decide ((l1.length : Int) > 1048576)), (by first | rfl | (simp; done) | (simp [*]; done)), H', ⟨by first | omega | exact Nat.le_refl _⟩, ⟨by repeat (first | (with_reducible first | exact HB.out | apply below_alloc | apply pw_below_drewN | apply below_drew1) | exact HB.out)⟩⟩
  case rest =>
    clear HC3
    try clear c1
    try clear p2
    try clear c4
    try clear c4b0
    try clear c4b1
    obtain ⟨kq, x18_2, rfl, HA, HJ2, HB⟩ := hcut
    cases kq with
    | zero => exact absurd HA.out (by simp [laws_FnNames.j0])
    | succ kj2 =>
      have H := HA.out
      clear HA
      simp only [laws_FnNames.j0] at H
      by_cases c5 : x18_2 = true
      · subst c5
        have H1 : (some true) = some r := by rw [if_pos rfl] at H; exact H
        clear H
        have H := H1
        clear H1
        obtain rfl := Option.some.inj H
        go_wp2
        go_ret
        exact ⟨by first | rfl | (simp [errW_none, errW_some] <;> rfl) | (simp [*, errW_none, errW_some] <;> rfl), by repeat (first | (with_reducible first | exact HB.out | apply below_alloc | apply pw_below_drewN | apply below_drew1) | exact HB.out)⟩
      · replace c5 := Bool.eq_false_iff.mpr c5
        subst c5
        have H1 : ((spec_TagDrawn.f l0).bind fun t220 => ((spec_TagDrawn.f l1).bind fun t221 => ((spec_AttrDrawn.f l0).bind fun bt222 => (laws_FnNames.l0 kj2 l1 (([t220, t221, bt222.1, (⟨#[101, 109, 98, 101, 100]⟩ : ByteArray), (⟨#[102, 114, 97, 109, 101]⟩ : ByteArray), (⟨#[98, 97, 115, 101]⟩ : ByteArray), (⟨#[109, 101, 116, 97]⟩ : ByteArray), (⟨#[104, 49]⟩ : ByteArray), (⟨#[111, 110, 120]⟩ : ByteArray), (⟨#[111, 110]⟩ : ByteArray)] : List ByteArray)) 0)))) = some r := by rw [if_neg (show ¬ (false = true) by decide)] at H; exact H
        clear H
        have H := H1
        clear H1
        replace H := Option.bind_eq_some_iff.mp H
        obtain ⟨t220, A60, H⟩ := H
        replace H : ((spec_TagDrawn.f l1).bind fun t221 => ((spec_AttrDrawn.f l0).bind fun bt222 => (laws_FnNames.l0 kj2 l1 (([t220, t221, bt222.1, (⟨#[101, 109, 98, 101, 100]⟩ : ByteArray), (⟨#[102, 114, 97, 109, 101]⟩ : ByteArray), (⟨#[98, 97, 115, 101]⟩ : ByteArray), (⟨#[109, 101, 116, 97]⟩ : ByteArray), (⟨#[104, 49]⟩ : ByteArray), (⟨#[111, 110, 120]⟩ : ByteArray), (⟨#[111, 110]⟩ : ByteArray)] : List ByteArray)) 0))) = some r := H
        have A6 := Aside0.mk A60
        clear A60
        replace H := Option.bind_eq_some_iff.mp H
        obtain ⟨t221, A70, H⟩ := H
        replace H : ((spec_AttrDrawn.f l0).bind fun bt222 => (laws_FnNames.l0 kj2 l1 (([t220, t221, bt222.1, (⟨#[101, 109, 98, 101, 100]⟩ : ByteArray), (⟨#[102, 114, 97, 109, 101]⟩ : ByteArray), (⟨#[98, 97, 115, 101]⟩ : ByteArray), (⟨#[109, 101, 116, 97]⟩ : ByteArray), (⟨#[104, 49]⟩ : ByteArray), (⟨#[111, 110, 120]⟩ : ByteArray), (⟨#[111, 110]⟩ : ByteArray)] : List ByteArray)) 0)) = some r := H
        have A7 := Aside0.mk A70
        clear A70
        replace H := Option.bind_eq_some_iff.mp H
        obtain ⟨⟨t222, t223⟩, A80, H⟩ := H
        replace H : (laws_FnNames.l0 kj2 l1 (([t220, t221, t222, (⟨#[101, 109, 98, 101, 100]⟩ : ByteArray), (⟨#[102, 114, 97, 109, 101]⟩ : ByteArray), (⟨#[98, 97, 115, 101]⟩ : ByteArray), (⟨#[109, 101, 116, 97]⟩ : ByteArray), (⟨#[104, 49]⟩ : ByteArray), (⟨#[111, 110, 120]⟩ : ByteArray), (⟨#[111, 110]⟩ : ByteArray)] : List ByteArray)) 0) = some r := H
        have A8 := Aside0.mk A80
        clear A80
        obtain ⟨y224, hy224⟩ : ∃ y_ : List ByteArray, y_ = (([t220, t221, t222, (⟨#[101, 109, 98, 101, 100]⟩ : ByteArray), (⟨#[102, 114, 97, 109, 101]⟩ : ByteArray), (⟨#[98, 97, 115, 101]⟩ : ByteArray), (⟨#[109, 101, 116, 97]⟩ : ByteArray), (⟨#[104, 49]⟩ : ByteArray), (⟨#[111, 110, 120]⟩ : ByteArray), (⟨#[111, 110]⟩ : ByteArray)] : List ByteArray)) := ⟨_, rfl⟩
        replace H : (laws_FnNames.l0 kj2 l1 y224 0) = some r := by first | (rw [hy224]; with_reducible exact H) | (have H2_ := (Option.bind_some _ _).symm.trans H; rw [hy224]; with_reducible exact H2_) | (have H2_ := (Option.bind_some _ _).symm.trans H; with_reducible exact H2_) | with_reducible exact H | (rw [hy224]; exact H) | exact H
        have Ny224 := Aside0.mk hy224
        clear hy224
        have H' := Aside0.mk H
        clear H
        have hfd : ∀ w : World, (Instr.field 42 (.agg #[.string t222, .string t223]) 0).run Try.prog w = .ok (.string t222) w := fun _ => by kernel_rfl
        go_wp2_with (first | ((with_reducible refine gate_callee (f := 26) rfl ?_); refine goesL_ (some 20) rfl rfl Try.func26 (by kernel_rfl) rfl #[.slice A0 l0.length c0] rfl (by (try simp only [List.map_toArray, List.map_cons, List.map_nil]); first | done | rfl | (simp only [List.length_drop, List.length_take]; rfl)) ?_; (with_reducible refine (spec_TagDrawn.calls _ _ l0 t220 _ ?side1 ?side2 A6.out).mono ?_); (case side1 => repeat (first | exact (Kd.C_below HR0.out HB.out) | (with_reducible refine Kd.C_alloc ?_ _) | (with_reducible refine Kd.C_drewN ?_ _) | (with_reducible refine Kd.C_drew ?_))); (case side2 => exact HC0.out); rintro e w9 ⟨rfl, hb⟩; refine ⟨_, rfl, ?_⟩; have n0_ := Aside0.mk (below_step (by repeat (first | (with_reducible first | exact HB.out | apply below_alloc | apply pw_below_drewN | apply below_drew1) | exact HB.out)) hb); clear HB; have HB := n0_; clear n0_; (try clear hb); (try clear hb2); (try clear hk); (try clear hi)) | ((with_reducible refine gate_callee (f := 26) rfl ?_); refine goesL_ (some 22) rfl rfl Try.func26 (by kernel_rfl) rfl #[.slice A1 l1.length c1] rfl (by (try simp only [List.map_toArray, List.map_cons, List.map_nil]); first | done | rfl | (simp only [List.length_drop, List.length_take]; rfl)) ?_; (with_reducible refine (spec_TagDrawn.calls _ _ l1 t221 _ ?side1 ?side2 A7.out).mono ?_); (case side1 => repeat (first | exact (Kd.C_below HR1.out HB.out) | (with_reducible refine Kd.C_alloc ?_ _) | (with_reducible refine Kd.C_drewN ?_ _) | (with_reducible refine Kd.C_drew ?_))); (case side2 => exact HC1.out); rintro e w10 ⟨rfl, hb⟩; refine ⟨_, rfl, ?_⟩; have n0_ := Aside0.mk (below_step (by repeat (first | (with_reducible first | exact HB.out | apply below_alloc | apply pw_below_drewN | apply below_drew1) | exact HB.out)) hb); clear HB; have HB := n0_; clear n0_; (try clear hb); (try clear hb2); (try clear hk); (try clear hi)) | ((with_reducible refine gate_callee (f := 27) rfl ?_); refine goesL_ (some 24) rfl rfl Try.func27 (by kernel_rfl) rfl #[.slice A0 l0.length c0] rfl (by (try simp only [List.map_toArray, List.map_cons, List.map_nil]); first | done | rfl | (simp only [List.length_drop, List.length_take]; rfl)) ?_; (with_reducible refine (spec_AttrDrawn.calls _ _ l0 t222 t223 _ ?side1 ?side2 A8.out).mono ?_); (case side1 => repeat (first | exact (Kd.C_below HR0.out HB.out) | (with_reducible refine Kd.C_alloc ?_ _) | (with_reducible refine Kd.C_drewN ?_ _) | (with_reducible refine Kd.C_drew ?_))); (case side2 => exact HC0.out); rintro e w11 ⟨rfl, hb⟩; refine ⟨_, rfl, ?_⟩; have n0_ := Aside0.mk (below_step (by repeat (first | (with_reducible first | exact HB.out | apply below_alloc | apply pw_below_drewN | apply below_drew1) | exact HB.out)) hb); clear HB; have HB := n0_; clear n0_; (try clear hb); (try clear hb2); (try clear hk); (try clear hi)) | ((with_reducible refine gate_dst (N := 26) rfl ?_); (try (refine gate_guard (by rfl) ?_; dsimp only)); refine Kd.R_lit Kd.string _ 9 ?hg (N := 26) ?hd (xs := ([t220, t221, t222, (⟨#[101, 109, 98, 101, 100]⟩ : ByteArray), (⟨#[102, 114, 97, 109, 101]⟩ : ByteArray), (⟨#[98, 97, 115, 101]⟩ : ByteArray), (⟨#[109, 101, 116, 97]⟩ : ByteArray), (⟨#[104, 49]⟩ : ByteArray), (⟨#[111, 110, 120]⟩ : ByteArray), (⟨#[111, 110]⟩ : ByteArray)] : List ByteArray)) (inner := [.string t220, .string t221, .string t222, .string (⟨#[101, 109, 98, 101, 100]⟩ : ByteArray), .string (⟨#[102, 114, 97, 109, 101]⟩ : ByteArray), .string (⟨#[98, 97, 115, 101]⟩ : ByteArray), .string (⟨#[109, 101, 116, 97]⟩ : ByteArray), .string (⟨#[104, 49]⟩ : ByteArray), .string (⟨#[111, 110, 120]⟩ : ByteArray), .string (⟨#[111, 110]⟩ : ByteArray)]) (ok := fun _ => True) (okp := fun _ => True) ?hr ?hp (fun _ hk => hk) trivial (Below.refl _ _) (Nat.le_refl _) (by simp) ?_; (case hd => rfl); (case hg => rfl); (case hr => first | (go_simp; done) | (go_simp; rfl) | (first | (go_simp; done) | (go_simp; rfl))); (case hp => exact (Reps.one (show Kd.M Kd.string _ _ _ t220 [.string t220] from rfl) (Reps.one (show Kd.M Kd.string _ _ _ t221 [.string t221] from rfl) (Reps.one (show Kd.M Kd.string _ _ _ t222 [.string t222] from rfl) (Reps.one (show Kd.M Kd.string _ _ _ (⟨#[101, 109, 98, 101, 100]⟩ : ByteArray) [.string (⟨#[101, 109, 98, 101, 100]⟩ : ByteArray)] from rfl) (Reps.one (show Kd.M Kd.string _ _ _ (⟨#[102, 114, 97, 109, 101]⟩ : ByteArray) [.string (⟨#[102, 114, 97, 109, 101]⟩ : ByteArray)] from rfl) (Reps.one (show Kd.M Kd.string _ _ _ (⟨#[98, 97, 115, 101]⟩ : ByteArray) [.string (⟨#[98, 97, 115, 101]⟩ : ByteArray)] from rfl) (Reps.one (show Kd.M Kd.string _ _ _ (⟨#[109, 101, 116, 97]⟩ : ByteArray) [.string (⟨#[109, 101, 116, 97]⟩ : ByteArray)] from rfl) (Reps.one (show Kd.M Kd.string _ _ _ (⟨#[104, 49]⟩ : ByteArray) [.string (⟨#[104, 49]⟩ : ByteArray)] from rfl) (Reps.one (show Kd.M Kd.string _ _ _ (⟨#[111, 110, 120]⟩ : ByteArray) [.string (⟨#[111, 110, 120]⟩ : ByteArray)] from rfl) (Reps.one (show Kd.M Kd.string _ _ _ (⟨#[111, 110]⟩ : ByteArray) [.string (⟨#[111, 110]⟩ : ByteArray)] from rfl) (Reps.none _ _)))))))))))); intro v225 w12 ho13 hb hg_ hnew_; clear hg_ hnew_; (first | rw [← Ny224.out] at ho13 | (simp only [Int.reduceToNat] at ho13; rw [← Ny224.out] at ho13)); have n0_ := Aside0.mk (Kd.R_lower ho13 (below_size (by repeat (first | (with_reducible first | exact HB.out | apply below_alloc | apply pw_below_drewN | apply below_drew1) | exact HB.out)))); have n1_ := Aside0.mk (below_step (by repeat (first | (with_reducible first | exact HB.out | apply below_alloc | apply pw_below_drewN | apply below_drew1) | exact HB.out)) hb); clear HB; have HO226 := n0_; have HB := n1_; clear n0_ n1_; clear hb ho13))
        go_loopg [6] kj2 (fun kq v6 w' => ∃ (x6_2 : Int), v6 = .int .i64 x6_2 ∧ Aside0 (laws_FnNames.l0 kq l1 y224 x6_2 = some r) ∧ Aside0 (kq ≤ kj2) ∧ Aside0 (Kd.R Kd.string 9 w' w.heap.size (fun _ => True) v225 y224) ∧ Aside0 (Below w.heap.size w w'))
        case atStart => exact ⟨(0), (by first | rfl | (simp; done) | (simp [*]; done)), H', ⟨Nat.le_refl _⟩, ⟨by (with_reducible repeat (first | apply Kd.R_alloc | apply Kd.R_drewN | apply Kd.R_drew)); exact HO226.out⟩, ⟨by repeat (first | (with_reducible first | exact HB.out | apply below_alloc | apply pw_below_drewN | apply below_drew1) | exact HB.out)⟩⟩
        case round =>
          clear H'
          try clear c1
          try clear c2
          try clear p2
          try clear c4
          try clear c4b0
          try clear c4b1
          try clear c5
          try clear c6
          try clear p2
          obtain ⟨x6_2, rfl, HA, HK2, HO_5, HB⟩ := hrel
          cases gk with
          | zero => exact absurd HA.out (by simp [laws_FnNames.l0])
          | succ k2 =>
            have H := HA.out
            clear HA
            simp only [laws_FnNames.l0] at H
            by_cases c14 : x6_2 < (y224.length : Int)
            · rw [if_pos c14] at H
              have c14b0 : decide (x6_2 < (y224.length : Int)) = true := decide_eq_true c14
              clear c14
              by_cases c15 : 0 ≤ x6_2
              · rw [if_pos c15] at H
                have c15b0 : decide (0 ≤ x6_2) = true := decide_eq_true c15
                clear c15
                have HC16 := Aside0.mk H
                clear H
                obtain ⟨Ao17, co17, eo17⟩ := Kd.R_slice HO_5.out
                subst eo17
                have p227 : 0 ≤ (x6_2 : Int) := of_decide_eq_true (by first | (with_reducible assumption) | assumption)
                have q227 : x6_2 < (y224.length : Int) := of_decide_eq_true (by first | (with_reducible assumption) | assumption)
                obtain ⟨ad227, e227, hx227_0⟩ := Kd.at_string (Kd.R_reads' HO_5.out).2.2 x6_2 p227 q227
                cases e227
                replace p227 := eq_true p227
                replace q227 := eq_true q227
                go_upto_region 8 with (fail)
                go_cut [88] (fun v88 wc => ∃ (kq : Nat) (x88_15 : Bool), v88 = .bool x88_15 ∧ Aside0 (laws_FnNames.j2 kq l1 y224 x6_2 (rdOf ByteArray.empty y224 x6_2) x88_15 = some r) ∧ Aside0 (kq ≤ k2) ∧ Aside0 (Kd.R Kd.string 9 wc w.heap.size (fun _ => True) (.slice (some ad227) y224.length co17) y224) ∧ Aside0 (Below w.heap.size w wc))
                case first =>
                  have H := HC16.out
                  clear HC16
                  replace H := Option.bind_eq_some_iff.mp H
                  obtain ⟨t228, A180, H⟩ := H
                  replace H : ((spec_IsVoid.f k2 (rdOf ByteArray.empty y224 x6_2)).bind fun t229 => (if (t228 != t229) = true then (laws_FnNames.j2 k2 l1 y224 x6_2 (rdOf ByteArray.empty y224 x6_2) true) else ((impl_IsRaw.f k2 (rdOf ByteArray.empty y224 x6_2)).bind fun t230 => ((spec_IsRaw.f k2 (rdOf ByteArray.empty y224 x6_2)).bind fun t231 => (if (t230 != t231) = true then (laws_FnNames.j2 k2 l1 y224 x6_2 (rdOf ByteArray.empty y224 x6_2) true) else ((impl_BreaksOut.f k2 (rdOf ByteArray.empty y224 x6_2)).bind fun t232 => ((spec_BreaksOut.f k2 (rdOf ByteArray.empty y224 x6_2)).bind fun t233 => (if (t232 != t233) = true then (laws_FnNames.j2 k2 l1 y224 x6_2 (rdOf ByteArray.empty y224 x6_2) true) else ((impl_IsBanned.f k2 (rdOf ByteArray.empty y224 x6_2)).bind fun t234 => ((spec_IsBanned.f k2 (rdOf ByteArray.empty y224 x6_2)).bind fun t235 => (if (t234 != t235) = true then (laws_FnNames.j2 k2 l1 y224 x6_2 (rdOf ByteArray.empty y224 x6_2) true) else ((impl_IsHandler.f (rdOf ByteArray.empty y224 x6_2)).bind fun t236 => ((spec_IsHandler.f (rdOf ByteArray.empty y224 x6_2)).bind fun t237 => (if (t236 != t237) = true then (laws_FnNames.j2 k2 l1 y224 x6_2 (rdOf ByteArray.empty y224 x6_2) true) else ((impl_IsLink.f k2 (rdOf ByteArray.empty y224 x6_2)).bind fun t238 => ((spec_IsLink.f k2 (rdOf ByteArray.empty y224 x6_2)).bind fun t239 => (if (t238 != t239) = true then (laws_FnNames.j2 k2 l1 y224 x6_2 (rdOf ByteArray.empty y224 x6_2) true) else ((impl_SpaceOf.f (rdOf ByteArray.empty y224 x6_2)).bind fun t240 => ((spec_SpaceOf.f (rdOf ByteArray.empty y224 x6_2)).bind fun t241 => (if t240 = t241 then ((impl_TagOK.f k2 (rdOf ByteArray.empty y224 x6_2)).bind fun t242 => (laws_FnNames.j2 k2 l1 y224 x6_2 (rdOf ByteArray.empty y224 x6_2) (!t242))) else (laws_FnNames.j2 k2 l1 y224 x6_2 (rdOf ByteArray.empty y224 x6_2) true))))))))))))))))))))) = some r := H
                  have A18 := Aside0.mk A180
                  clear A180
                  replace H := Option.bind_eq_some_iff.mp H
                  obtain ⟨t229, A190, H⟩ := H
                  replace H : (if (t228 != t229) = true then (laws_FnNames.j2 k2 l1 y224 x6_2 (rdOf ByteArray.empty y224 x6_2) true) else ((impl_IsRaw.f k2 (rdOf ByteArray.empty y224 x6_2)).bind fun t230 => ((spec_IsRaw.f k2 (rdOf ByteArray.empty y224 x6_2)).bind fun t231 => (if (t230 != t231) = true then (laws_FnNames.j2 k2 l1 y224 x6_2 (rdOf ByteArray.empty y224 x6_2) true) else ((impl_BreaksOut.f k2 (rdOf ByteArray.empty y224 x6_2)).bind fun t232 => ((spec_BreaksOut.f k2 (rdOf ByteArray.empty y224 x6_2)).bind fun t233 => (if (t232 != t233) = true then (laws_FnNames.j2 k2 l1 y224 x6_2 (rdOf ByteArray.empty y224 x6_2) true) else ((impl_IsBanned.f k2 (rdOf ByteArray.empty y224 x6_2)).bind fun t234 => ((spec_IsBanned.f k2 (rdOf ByteArray.empty y224 x6_2)).bind fun t235 => (if (t234 != t235) = true then (laws_FnNames.j2 k2 l1 y224 x6_2 (rdOf ByteArray.empty y224 x6_2) true) else ((impl_IsHandler.f (rdOf ByteArray.empty y224 x6_2)).bind fun t236 => ((spec_IsHandler.f (rdOf ByteArray.empty y224 x6_2)).bind fun t237 => (if (t236 != t237) = true then (laws_FnNames.j2 k2 l1 y224 x6_2 (rdOf ByteArray.empty y224 x6_2) true) else ((impl_IsLink.f k2 (rdOf ByteArray.empty y224 x6_2)).bind fun t238 => ((spec_IsLink.f k2 (rdOf ByteArray.empty y224 x6_2)).bind fun t239 => (if (t238 != t239) = true then (laws_FnNames.j2 k2 l1 y224 x6_2 (rdOf ByteArray.empty y224 x6_2) true) else ((impl_SpaceOf.f (rdOf ByteArray.empty y224 x6_2)).bind fun t240 => ((spec_SpaceOf.f (rdOf ByteArray.empty y224 x6_2)).bind fun t241 => (if t240 = t241 then ((impl_TagOK.f k2 (rdOf ByteArray.empty y224 x6_2)).bind fun t242 => (laws_FnNames.j2 k2 l1 y224 x6_2 (rdOf ByteArray.empty y224 x6_2) (!t242))) else (laws_FnNames.j2 k2 l1 y224 x6_2 (rdOf ByteArray.empty y224 x6_2) true)))))))))))))))))))) = some r := H
                  have A19 := Aside0.mk A190
                  clear A190
                  by_cases c20 : (t228 != t229) = true
                  · rw [if_pos c20] at H
                    have c20b0 : (t228 != t229) = true := c20
                    (try (have c20b1 : decide (t228 = t229) = false := by simpa using c20))
                    (try (have c20b2 : (t228 == t229) = false := by simpa using c20))
                    (try (have c20b3 : ¬ (t228 = t229) := by simpa using c20))
                    clear c20
                    (first | rw [c20b0] | (simp only [i64_w, i32_w]; rw [c20b0]) | skip)
                    have H' := Aside0.mk H
                    clear H
                    go_wp2_with (first | ((with_reducible refine gate_callee (f := 28) rfl ?_); refine goesL_ (some 38) rfl rfl Try.func28 (by kernel_rfl) rfl #[.string (rdOf ByteArray.empty y224 x6_2)] rfl (by (try simp only [List.map_toArray, List.map_cons, List.map_nil]); first | done | rfl | (simp only [List.length_drop, List.length_take]; rfl)) ?_; (with_reducible refine (impl_IsVoid.calls k2 (rdOf ByteArray.empty y224 x6_2) t228 _ A18.out).mono ?_); rintro e w21 ⟨rfl, hb⟩; refine ⟨_, rfl, ?_⟩; have n0_ := Aside0.mk (Kd.R_below (by (with_reducible repeat (first | apply Kd.R_alloc | apply Kd.R_drewN | apply Kd.R_drew)); exact HO_5.out) hb); have n1_ := Aside0.mk (below_step (by repeat (first | (with_reducible first | exact HB.out | apply below_alloc | apply pw_below_drewN | apply below_drew1) | exact HB.out)) hb); clear HO_5; clear HB; have HO_5 := n0_; have HB := n1_; clear n0_ n1_; (try clear hb); (try clear hb2); (try clear hk); (try clear hi)) | ((with_reducible refine gate_callee (f := 29) rfl ?_); refine goesL_ (some 40) rfl rfl Try.func29 (by kernel_rfl) rfl #[.string (rdOf ByteArray.empty y224 x6_2)] rfl (by (try simp only [List.map_toArray, List.map_cons, List.map_nil]); first | done | rfl | (simp only [List.length_drop, List.length_take]; rfl)) ?_; (with_reducible refine (spec_IsVoid.calls k2 (rdOf ByteArray.empty y224 x6_2) t229 _ A19.out).mono ?_); rintro e w22 ⟨rfl, hb⟩; refine ⟨_, rfl, ?_⟩; have n0_ := Aside0.mk (Kd.R_below (by (with_reducible repeat (first | apply Kd.R_alloc | apply Kd.R_drewN | apply Kd.R_drew)); exact HO_5.out) hb); have n1_ := Aside0.mk (below_step (by repeat (first | (with_reducible first | exact HB.out | apply below_alloc | apply pw_below_drewN | apply below_drew1) | exact HB.out)) hb); clear HO_5; clear HB; have HO_5 := n0_; have HB := n1_; clear n0_ n1_; (try clear hb); (try clear hb2); (try clear hk); (try clear hi)))
                    go_meet
                    case rel => exact ⟨_, (true), (by first | rfl | (simp; done) | (simp [*]; done)), H', ⟨by have := HJ2.out; have := HK2.out; first | omega | exact Nat.le_refl _⟩, ⟨by (with_reducible repeat (first | apply Kd.R_alloc | apply Kd.R_drewN | apply Kd.R_drew)); exact HO_5.out⟩, ⟨by repeat (first | (with_reducible first | exact HB.out | apply below_alloc | apply pw_below_drewN | apply below_drew1) | exact HB.out)⟩⟩
                  · rw [if_neg c20] at H
                    have c20b0 : (t228 != t229) = false := by simpa using c20
                    (try (have c20b1 : decide (t228 = t229) = true := by simpa using c20))
                    (try (have c20b2 : (t228 == t229) = true := by simpa using c20))
                    clear c20
                    (first | rw [c20b0] | (simp only [i64_w, i32_w]; rw [c20b0]) | skip)
                    replace H := Option.bind_eq_some_iff.mp H
                    obtain ⟨t230, A230, H⟩ := H
                    replace H : ((spec_IsRaw.f k2 (rdOf ByteArray.empty y224 x6_2)).bind fun t231 => (if (t230 != t231) = true then (laws_FnNames.j2 k2 l1 y224 x6_2 (rdOf ByteArray.empty y224 x6_2) true) else ((impl_BreaksOut.f k2 (rdOf ByteArray.empty y224 x6_2)).bind fun t232 => ((spec_BreaksOut.f k2 (rdOf ByteArray.empty y224 x6_2)).bind fun t233 => (if (t232 != t233) = true then (laws_FnNames.j2 k2 l1 y224 x6_2 (rdOf ByteArray.empty y224 x6_2) true) else ((impl_IsBanned.f k2 (rdOf ByteArray.empty y224 x6_2)).bind fun t234 => ((spec_IsBanned.f k2 (rdOf ByteArray.empty y224 x6_2)).bind fun t235 => (if (t234 != t235) = true then (laws_FnNames.j2 k2 l1 y224 x6_2 (rdOf ByteArray.empty y224 x6_2) true) else ((impl_IsHandler.f (rdOf ByteArray.empty y224 x6_2)).bind fun t236 => ((spec_IsHandler.f (rdOf ByteArray.empty y224 x6_2)).bind fun t237 => (if (t236 != t237) = true then (laws_FnNames.j2 k2 l1 y224 x6_2 (rdOf ByteArray.empty y224 x6_2) true) else ((impl_IsLink.f k2 (rdOf ByteArray.empty y224 x6_2)).bind fun t238 => ((spec_IsLink.f k2 (rdOf ByteArray.empty y224 x6_2)).bind fun t239 => (if (t238 != t239) = true then (laws_FnNames.j2 k2 l1 y224 x6_2 (rdOf ByteArray.empty y224 x6_2) true) else ((impl_SpaceOf.f (rdOf ByteArray.empty y224 x6_2)).bind fun t240 => ((spec_SpaceOf.f (rdOf ByteArray.empty y224 x6_2)).bind fun t241 => (if t240 = t241 then ((impl_TagOK.f k2 (rdOf ByteArray.empty y224 x6_2)).bind fun t242 => (laws_FnNames.j2 k2 l1 y224 x6_2 (rdOf ByteArray.empty y224 x6_2) (!t242))) else (laws_FnNames.j2 k2 l1 y224 x6_2 (rdOf ByteArray.empty y224 x6_2) true)))))))))))))))))) = some r := H
                    have A23 := Aside0.mk A230
                    clear A230
                    replace H := Option.bind_eq_some_iff.mp H
                    obtain ⟨t231, A240, H⟩ := H
                    replace H : (if (t230 != t231) = true then (laws_FnNames.j2 k2 l1 y224 x6_2 (rdOf ByteArray.empty y224 x6_2) true) else ((impl_BreaksOut.f k2 (rdOf ByteArray.empty y224 x6_2)).bind fun t232 => ((spec_BreaksOut.f k2 (rdOf ByteArray.empty y224 x6_2)).bind fun t233 => (if (t232 != t233) = true then (laws_FnNames.j2 k2 l1 y224 x6_2 (rdOf ByteArray.empty y224 x6_2) true) else ((impl_IsBanned.f k2 (rdOf ByteArray.empty y224 x6_2)).bind fun t234 => ((spec_IsBanned.f k2 (rdOf ByteArray.empty y224 x6_2)).bind fun t235 => (if (t234 != t235) = true then (laws_FnNames.j2 k2 l1 y224 x6_2 (rdOf ByteArray.empty y224 x6_2) true) else ((impl_IsHandler.f (rdOf ByteArray.empty y224 x6_2)).bind fun t236 => ((spec_IsHandler.f (rdOf ByteArray.empty y224 x6_2)).bind fun t237 => (if (t236 != t237) = true then (laws_FnNames.j2 k2 l1 y224 x6_2 (rdOf ByteArray.empty y224 x6_2) true) else ((impl_IsLink.f k2 (rdOf ByteArray.empty y224 x6_2)).bind fun t238 => ((spec_IsLink.f k2 (rdOf ByteArray.empty y224 x6_2)).bind fun t239 => (if (t238 != t239) = true then (laws_FnNames.j2 k2 l1 y224 x6_2 (rdOf ByteArray.empty y224 x6_2) true) else ((impl_SpaceOf.f (rdOf ByteArray.empty y224 x6_2)).bind fun t240 => ((spec_SpaceOf.f (rdOf ByteArray.empty y224 x6_2)).bind fun t241 => (if t240 = t241 then ((impl_TagOK.f k2 (rdOf ByteArray.empty y224 x6_2)).bind fun t242 => (laws_FnNames.j2 k2 l1 y224 x6_2 (rdOf ByteArray.empty y224 x6_2) (!t242))) else (laws_FnNames.j2 k2 l1 y224 x6_2 (rdOf ByteArray.empty y224 x6_2) true))))))))))))))))) = some r := H
                    have A24 := Aside0.mk A240
                    clear A240
                    by_cases c25 : (t230 != t231) = true
                    · rw [if_pos c25] at H
                      have c25b0 : (t230 != t231) = true := c25
                      (try (have c25b1 : decide (t230 = t231) = false := by simpa using c25))
                      (try (have c25b2 : (t230 == t231) = false := by simpa using c25))
                      (try (have c25b3 : ¬ (t230 = t231) := by simpa using c25))
                      clear c25
                      have H' := Aside0.mk H
                      clear H
                      go_wp2_with (first | ((with_reducible refine gate_callee (f := 28) rfl ?_); refine goesL_ (some 38) rfl rfl Try.func28 (by kernel_rfl) rfl #[.string (rdOf ByteArray.empty y224 x6_2)] rfl (by (try simp only [List.map_toArray, List.map_cons, List.map_nil]); first | done | rfl | (simp only [List.length_drop, List.length_take]; rfl)) ?_; (with_reducible refine (impl_IsVoid.calls k2 (rdOf ByteArray.empty y224 x6_2) t228 _ A18.out).mono ?_); rintro e w26 ⟨rfl, hb⟩; refine ⟨_, rfl, ?_⟩; have n0_ := Aside0.mk (Kd.R_below (by (with_reducible repeat (first | apply Kd.R_alloc | apply Kd.R_drewN | apply Kd.R_drew)); exact HO_5.out) hb); have n1_ := Aside0.mk (below_step (by repeat (first | (with_reducible first | exact HB.out | apply below_alloc | apply pw_below_drewN | apply below_drew1) | exact HB.out)) hb); clear HO_5; clear HB; have HO_5 := n0_; have HB := n1_; clear n0_ n1_; (try clear hb); (try clear hb2); (try clear hk); (try clear hi)) | ((with_reducible refine gate_callee (f := 29) rfl ?_); refine goesL_ (some 40) rfl rfl Try.func29 (by kernel_rfl) rfl #[.string (rdOf ByteArray.empty y224 x6_2)] rfl (by (try simp only [List.map_toArray, List.map_cons, List.map_nil]); first | done | rfl | (simp only [List.length_drop, List.length_take]; rfl)) ?_; (with_reducible refine (spec_IsVoid.calls k2 (rdOf ByteArray.empty y224 x6_2) t229 _ A19.out).mono ?_); rintro e w27 ⟨rfl, hb⟩; refine ⟨_, rfl, ?_⟩; have n0_ := Aside0.mk (Kd.R_below (by (with_reducible repeat (first | apply Kd.R_alloc | apply Kd.R_drewN | apply Kd.R_drew)); exact HO_5.out) hb); have n1_ := Aside0.mk (below_step (by repeat (first | (with_reducible first | exact HB.out | apply below_alloc | apply pw_below_drewN | apply below_drew1) | exact HB.out)) hb); clear HO_5; clear HB; have HO_5 := n0_; have HB := n1_; clear n0_ n1_; (try clear hb); (try clear hb2); (try clear hk); (try clear hi)) | (go_at_call 30; (with_reducible refine (impl_IsRaw.calls k2 (rdOf ByteArray.empty y224 x6_2) t230 _ A23.out).mono ?_); rintro e w28 ⟨rfl, hb⟩; have n0_ := Aside0.mk (Kd.R_below (by (with_reducible repeat (first | apply Kd.R_alloc | apply Kd.R_drewN | apply Kd.R_drew)); exact HO_5.out) hb); have n1_ := Aside0.mk (below_step (by repeat (first | (with_reducible first | exact HB.out | apply below_alloc | apply pw_below_drewN | apply below_drew1) | exact HB.out)) hb); clear HO_5; clear HB; have HO_5 := n0_; have HB := n1_; clear n0_ n1_; (try clear hb); (try clear hb2); (try clear hk); (try clear hi)) | (go_at_call 31; (with_reducible refine (spec_IsRaw.calls k2 (rdOf ByteArray.empty y224 x6_2) t231 _ A24.out).mono ?_); rintro e w29 ⟨rfl, hb⟩; have n0_ := Aside0.mk (Kd.R_below (by (with_reducible repeat (first | apply Kd.R_alloc | apply Kd.R_drewN | apply Kd.R_drew)); exact HO_5.out) hb); have n1_ := Aside0.mk (below_step (by repeat (first | (with_reducible first | exact HB.out | apply below_alloc | apply pw_below_drewN | apply below_drew1) | exact HB.out)) hb); clear HO_5; clear HB; have HO_5 := n0_; have HB := n1_; clear n0_ n1_; (try clear hb); (try clear hb2); (try clear hk); (try clear hi)))
                      go_meet
                      case rel => exact ⟨_, (true), (by first | rfl | (simp; done) | (simp [*]; done)), H', ⟨by have := HJ2.out; have := HK2.out; first | omega | exact Nat.le_refl _⟩, ⟨by (with_reducible repeat (first | apply Kd.R_alloc | apply Kd.R_drewN | apply Kd.R_drew)); exact HO_5.out⟩, ⟨by repeat (first | (with_reducible first | exact HB.out | apply below_alloc | apply pw_below_drewN | apply below_drew1) | exact HB.out)⟩⟩
                    · rw [if_neg c25] at H
                      have c25b0 : (t230 != t231) = false := by simpa using c25
                      (try (have c25b1 : decide (t230 = t231) = true := by simpa using c25))
                      (try (have c25b2 : (t230 == t231) = true := by simpa using c25))
                      clear c25
                      replace H := Option.bind_eq_some_iff.mp H
                      obtain ⟨t232, A300, H⟩ := H
                      replace H : ((spec_BreaksOut.f k2 (rdOf ByteArray.empty y224 x6_2)).bind fun t233 => (if (t232 != t233) = true then (laws_FnNames.j2 k2 l1 y224 x6_2 (rdOf ByteArray.empty y224 x6_2) true) else ((impl_IsBanned.f k2 (rdOf ByteArray.empty y224 x6_2)).bind fun t234 => ((spec_IsBanned.f k2 (rdOf ByteArray.empty y224 x6_2)).bind fun t235 => (if (t234 != t235) = true then (laws_FnNames.j2 k2 l1 y224 x6_2 (rdOf ByteArray.empty y224 x6_2) true) else ((impl_IsHandler.f (rdOf ByteArray.empty y224 x6_2)).bind fun t236 => ((spec_IsHandler.f (rdOf ByteArray.empty y224 x6_2)).bind fun t237 => (if (t236 != t237) = true then (laws_FnNames.j2 k2 l1 y224 x6_2 (rdOf ByteArray.empty y224 x6_2) true) else ((impl_IsLink.f k2 (rdOf ByteArray.empty y224 x6_2)).bind fun t238 => ((spec_IsLink.f k2 (rdOf ByteArray.empty y224 x6_2)).bind fun t239 => (if (t238 != t239) = true then (laws_FnNames.j2 k2 l1 y224 x6_2 (rdOf ByteArray.empty y224 x6_2) true) else ((impl_SpaceOf.f (rdOf ByteArray.empty y224 x6_2)).bind fun t240 => ((spec_SpaceOf.f (rdOf ByteArray.empty y224 x6_2)).bind fun t241 => (if t240 = t241 then ((impl_TagOK.f k2 (rdOf ByteArray.empty y224 x6_2)).bind fun t242 => (laws_FnNames.j2 k2 l1 y224 x6_2 (rdOf ByteArray.empty y224 x6_2) (!t242))) else (laws_FnNames.j2 k2 l1 y224 x6_2 (rdOf ByteArray.empty y224 x6_2) true))))))))))))))) = some r := H
                      have A30 := Aside0.mk A300
                      clear A300
                      replace H := Option.bind_eq_some_iff.mp H
                      obtain ⟨t233, A310, H⟩ := H
                      replace H : (if (t232 != t233) = true then (laws_FnNames.j2 k2 l1 y224 x6_2 (rdOf ByteArray.empty y224 x6_2) true) else ((impl_IsBanned.f k2 (rdOf ByteArray.empty y224 x6_2)).bind fun t234 => ((spec_IsBanned.f k2 (rdOf ByteArray.empty y224 x6_2)).bind fun t235 => (if (t234 != t235) = true then (laws_FnNames.j2 k2 l1 y224 x6_2 (rdOf ByteArray.empty y224 x6_2) true) else ((impl_IsHandler.f (rdOf ByteArray.empty y224 x6_2)).bind fun t236 => ((spec_IsHandler.f (rdOf ByteArray.empty y224 x6_2)).bind fun t237 => (if (t236 != t237) = true then (laws_FnNames.j2 k2 l1 y224 x6_2 (rdOf ByteArray.empty y224 x6_2) true) else ((impl_IsLink.f k2 (rdOf ByteArray.empty y224 x6_2)).bind fun t238 => ((spec_IsLink.f k2 (rdOf ByteArray.empty y224 x6_2)).bind fun t239 => (if (t238 != t239) = true then (laws_FnNames.j2 k2 l1 y224 x6_2 (rdOf ByteArray.empty y224 x6_2) true) else ((impl_SpaceOf.f (rdOf ByteArray.empty y224 x6_2)).bind fun t240 => ((spec_SpaceOf.f (rdOf ByteArray.empty y224 x6_2)).bind fun t241 => (if t240 = t241 then ((impl_TagOK.f k2 (rdOf ByteArray.empty y224 x6_2)).bind fun t242 => (laws_FnNames.j2 k2 l1 y224 x6_2 (rdOf ByteArray.empty y224 x6_2) (!t242))) else (laws_FnNames.j2 k2 l1 y224 x6_2 (rdOf ByteArray.empty y224 x6_2) true)))))))))))))) = some r := H
                      have A31 := Aside0.mk A310
                      clear A310
                      by_cases c32 : (t232 != t233) = true
                      · rw [if_pos c32] at H
                        have c32b0 : (t232 != t233) = true := c32
                        (try (have c32b1 : decide (t232 = t233) = false := by simpa using c32))
                        (try (have c32b2 : (t232 == t233) = false := by simpa using c32))
                        (try (have c32b3 : ¬ (t232 = t233) := by simpa using c32))
                        clear c32
                        have H' := Aside0.mk H
                        clear H
                        go_wp2_with (first | ((with_reducible refine gate_callee (f := 28) rfl ?_); refine goesL_ (some 38) rfl rfl Try.func28 (by kernel_rfl) rfl #[.string (rdOf ByteArray.empty y224 x6_2)] rfl (by (try simp only [List.map_toArray, List.map_cons, List.map_nil]); first | done | rfl | (simp only [List.length_drop, List.length_take]; rfl)) ?_; (with_reducible refine (impl_IsVoid.calls k2 (rdOf ByteArray.empty y224 x6_2) t228 _ A18.out).mono ?_); rintro e w33 ⟨rfl, hb⟩; refine ⟨_, rfl, ?_⟩; have n0_ := Aside0.mk (Kd.R_below (by (with_reducible repeat (first | apply Kd.R_alloc | apply Kd.R_drewN | apply Kd.R_drew)); exact HO_5.out) hb); have n1_ := Aside0.mk (below_step (by repeat (first | (with_reducible first | exact HB.out | apply below_alloc | apply pw_below_drewN | apply below_drew1) | exact HB.out)) hb); clear HO_5; clear HB; have HO_5 := n0_; have HB := n1_; clear n0_ n1_; (try clear hb); (try clear hb2); (try clear hk); (try clear hi)) | ((with_reducible refine gate_callee (f := 29) rfl ?_); refine goesL_ (some 40) rfl rfl Try.func29 (by kernel_rfl) rfl #[.string (rdOf ByteArray.empty y224 x6_2)] rfl (by (try simp only [List.map_toArray, List.map_cons, List.map_nil]); first | done | rfl | (simp only [List.length_drop, List.length_take]; rfl)) ?_; (with_reducible refine (spec_IsVoid.calls k2 (rdOf ByteArray.empty y224 x6_2) t229 _ A19.out).mono ?_); rintro e w34 ⟨rfl, hb⟩; refine ⟨_, rfl, ?_⟩; have n0_ := Aside0.mk (Kd.R_below (by (with_reducible repeat (first | apply Kd.R_alloc | apply Kd.R_drewN | apply Kd.R_drew)); exact HO_5.out) hb); have n1_ := Aside0.mk (below_step (by repeat (first | (with_reducible first | exact HB.out | apply below_alloc | apply pw_below_drewN | apply below_drew1) | exact HB.out)) hb); clear HO_5; clear HB; have HO_5 := n0_; have HB := n1_; clear n0_ n1_; (try clear hb); (try clear hb2); (try clear hk); (try clear hi)) | (go_at_call 30; (with_reducible refine (impl_IsRaw.calls k2 (rdOf ByteArray.empty y224 x6_2) t230 _ A23.out).mono ?_); rintro e w35 ⟨rfl, hb⟩; have n0_ := Aside0.mk (Kd.R_below (by (with_reducible repeat (first | apply Kd.R_alloc | apply Kd.R_drewN | apply Kd.R_drew)); exact HO_5.out) hb); have n1_ := Aside0.mk (below_step (by repeat (first | (with_reducible first | exact HB.out | apply below_alloc | apply pw_below_drewN | apply below_drew1) | exact HB.out)) hb); clear HO_5; clear HB; have HO_5 := n0_; have HB := n1_; clear n0_ n1_; (try clear hb); (try clear hb2); (try clear hk); (try clear hi)) | (go_at_call 31; (with_reducible refine (spec_IsRaw.calls k2 (rdOf ByteArray.empty y224 x6_2) t231 _ A24.out).mono ?_); rintro e w36 ⟨rfl, hb⟩; have n0_ := Aside0.mk (Kd.R_below (by (with_reducible repeat (first | apply Kd.R_alloc | apply Kd.R_drewN | apply Kd.R_drew)); exact HO_5.out) hb); have n1_ := Aside0.mk (below_step (by repeat (first | (with_reducible first | exact HB.out | apply below_alloc | apply pw_below_drewN | apply below_drew1) | exact HB.out)) hb); clear HO_5; clear HB; have HO_5 := n0_; have HB := n1_; clear n0_ n1_; (try clear hb); (try clear hb2); (try clear hk); (try clear hi)) | (go_at_call 32; (with_reducible refine (impl_BreaksOut.calls k2 (rdOf ByteArray.empty y224 x6_2) t232 _ A30.out).mono ?_); rintro e w37 ⟨rfl, hb⟩; have n0_ := Aside0.mk (Kd.R_below (by (with_reducible repeat (first | apply Kd.R_alloc | apply Kd.R_drewN | apply Kd.R_drew)); exact HO_5.out) hb); have n1_ := Aside0.mk (below_step (by repeat (first | (with_reducible first | exact HB.out | apply below_alloc | apply pw_below_drewN | apply below_drew1) | exact HB.out)) hb); clear HO_5; clear HB; have HO_5 := n0_; have HB := n1_; clear n0_ n1_; (try clear hb); (try clear hb2); (try clear hk); (try clear hi)) | (go_at_call 33; (with_reducible refine (spec_BreaksOut.calls k2 (rdOf ByteArray.empty y224 x6_2) t233 _ A31.out).mono ?_); rintro e w38 ⟨rfl, hb⟩; have n0_ := Aside0.mk (Kd.R_below (by (with_reducible repeat (first | apply Kd.R_alloc | apply Kd.R_drewN | apply Kd.R_drew)); exact HO_5.out) hb); have n1_ := Aside0.mk (below_step (by repeat (first | (with_reducible first | exact HB.out | apply below_alloc | apply pw_below_drewN | apply below_drew1) | exact HB.out)) hb); clear HO_5; clear HB; have HO_5 := n0_; have HB := n1_; clear n0_ n1_; (try clear hb); (try clear hb2); (try clear hk); (try clear hi)))
                        go_meet
                        case rel => exact ⟨_, (true), (by first | rfl | (simp; done) | (simp [*]; done)), H', ⟨by have := HJ2.out; have := HK2.out; first | omega | exact Nat.le_refl _⟩, ⟨by (with_reducible repeat (first | apply Kd.R_alloc | apply Kd.R_drewN | apply Kd.R_drew)); exact HO_5.out⟩, ⟨by repeat (first | (with_reducible first | exact HB.out | apply below_alloc | apply pw_below_drewN | apply below_drew1) | exact HB.out)⟩⟩
                      · rw [if_neg c32] at H
                        have c32b0 : (t232 != t233) = false := by simpa using c32
                        (try (have c32b1 : decide (t232 = t233) = true := by simpa using c32))
                        (try (have c32b2 : (t232 == t233) = true := by simpa using c32))
                        clear c32
                        replace H := Option.bind_eq_some_iff.mp H
                        obtain ⟨t234, A390, H⟩ := H
                        replace H : ((spec_IsBanned.f k2 (rdOf ByteArray.empty y224 x6_2)).bind fun t235 => (if (t234 != t235) = true then (laws_FnNames.j2 k2 l1 y224 x6_2 (rdOf ByteArray.empty y224 x6_2) true) else ((impl_IsHandler.f (rdOf ByteArray.empty y224 x6_2)).bind fun t236 => ((spec_IsHandler.f (rdOf ByteArray.empty y224 x6_2)).bind fun t237 => (if (t236 != t237) = true then (laws_FnNames.j2 k2 l1 y224 x6_2 (rdOf ByteArray.empty y224 x6_2) true) else ((impl_IsLink.f k2 (rdOf ByteArray.empty y224 x6_2)).bind fun t238 => ((spec_IsLink.f k2 (rdOf ByteArray.empty y224 x6_2)).bind fun t239 => (if (t238 != t239) = true then (laws_FnNames.j2 k2 l1 y224 x6_2 (rdOf ByteArray.empty y224 x6_2) true) else ((impl_SpaceOf.f (rdOf ByteArray.empty y224 x6_2)).bind fun t240 => ((spec_SpaceOf.f (rdOf ByteArray.empty y224 x6_2)).bind fun t241 => (if t240 = t241 then ((impl_TagOK.f k2 (rdOf ByteArray.empty y224 x6_2)).bind fun t242 => (laws_FnNames.j2 k2 l1 y224 x6_2 (rdOf ByteArray.empty y224 x6_2) (!t242))) else (laws_FnNames.j2 k2 l1 y224 x6_2 (rdOf ByteArray.empty y224 x6_2) true)))))))))))) = some r := H
                        have A39 := Aside0.mk A390
                        clear A390
                        replace H := Option.bind_eq_some_iff.mp H
                        obtain ⟨t235, A400, H⟩ := H
                        replace H : (if (t234 != t235) = true then (laws_FnNames.j2 k2 l1 y224 x6_2 (rdOf ByteArray.empty y224 x6_2) true) else ((impl_IsHandler.f (rdOf ByteArray.empty y224 x6_2)).bind fun t236 => ((spec_IsHandler.f (rdOf ByteArray.empty y224 x6_2)).bind fun t237 => (if (t236 != t237) = true then (laws_FnNames.j2 k2 l1 y224 x6_2 (rdOf ByteArray.empty y224 x6_2) true) else ((impl_IsLink.f k2 (rdOf ByteArray.empty y224 x6_2)).bind fun t238 => ((spec_IsLink.f k2 (rdOf ByteArray.empty y224 x6_2)).bind fun t239 => (if (t238 != t239) = true then (laws_FnNames.j2 k2 l1 y224 x6_2 (rdOf ByteArray.empty y224 x6_2) true) else ((impl_SpaceOf.f (rdOf ByteArray.empty y224 x6_2)).bind fun t240 => ((spec_SpaceOf.f (rdOf ByteArray.empty y224 x6_2)).bind fun t241 => (if t240 = t241 then ((impl_TagOK.f k2 (rdOf ByteArray.empty y224 x6_2)).bind fun t242 => (laws_FnNames.j2 k2 l1 y224 x6_2 (rdOf ByteArray.empty y224 x6_2) (!t242))) else (laws_FnNames.j2 k2 l1 y224 x6_2 (rdOf ByteArray.empty y224 x6_2) true))))))))))) = some r := H
                        have A40 := Aside0.mk A400
                        clear A400
                        by_cases c41 : (t234 != t235) = true
                        · rw [if_pos c41] at H
                          have c41b0 : (t234 != t235) = true := c41
                          (try (have c41b1 : decide (t234 = t235) = false := by simpa using c41))
                          (try (have c41b2 : (t234 == t235) = false := by simpa using c41))
                          (try (have c41b3 : ¬ (t234 = t235) := by simpa using c41))
                          clear c41
                          have H' := Aside0.mk H
                          clear H
                          go_wp2_with (first | ((with_reducible refine gate_callee (f := 28) rfl ?_); refine goesL_ (some 38) rfl rfl Try.func28 (by kernel_rfl) rfl #[.string (rdOf ByteArray.empty y224 x6_2)] rfl (by (try simp only [List.map_toArray, List.map_cons, List.map_nil]); first | done | rfl | (simp only [List.length_drop, List.length_take]; rfl)) ?_; (with_reducible refine (impl_IsVoid.calls k2 (rdOf ByteArray.empty y224 x6_2) t228 _ A18.out).mono ?_); rintro e w42 ⟨rfl, hb⟩; refine ⟨_, rfl, ?_⟩; have n0_ := Aside0.mk (Kd.R_below (by (with_reducible repeat (first | apply Kd.R_alloc | apply Kd.R_drewN | apply Kd.R_drew)); exact HO_5.out) hb); have n1_ := Aside0.mk (below_step (by repeat (first | (with_reducible first | exact HB.out | apply below_alloc | apply pw_below_drewN | apply below_drew1) | exact HB.out)) hb); clear HO_5; clear HB; have HO_5 := n0_; have HB := n1_; clear n0_ n1_; (try clear hb); (try clear hb2); (try clear hk); (try clear hi)) | ((with_reducible refine gate_callee (f := 29) rfl ?_); refine goesL_ (some 40) rfl rfl Try.func29 (by kernel_rfl) rfl #[.string (rdOf ByteArray.empty y224 x6_2)] rfl (by (try simp only [List.map_toArray, List.map_cons, List.map_nil]); first | done | rfl | (simp only [List.length_drop, List.length_take]; rfl)) ?_; (with_reducible refine (spec_IsVoid.calls k2 (rdOf ByteArray.empty y224 x6_2) t229 _ A19.out).mono ?_); rintro e w43 ⟨rfl, hb⟩; refine ⟨_, rfl, ?_⟩; have n0_ := Aside0.mk (Kd.R_below (by (with_reducible repeat (first | apply Kd.R_alloc | apply Kd.R_drewN | apply Kd.R_drew)); exact HO_5.out) hb); have n1_ := Aside0.mk (below_step (by repeat (first | (with_reducible first | exact HB.out | apply below_alloc | apply pw_below_drewN | apply below_drew1) | exact HB.out)) hb); clear HO_5; clear HB; have HO_5 := n0_; have HB := n1_; clear n0_ n1_; (try clear hb); (try clear hb2); (try clear hk); (try clear hi)) | (go_at_call 30; (with_reducible refine (impl_IsRaw.calls k2 (rdOf ByteArray.empty y224 x6_2) t230 _ A23.out).mono ?_); rintro e w44 ⟨rfl, hb⟩; have n0_ := Aside0.mk (Kd.R_below (by (with_reducible repeat (first | apply Kd.R_alloc | apply Kd.R_drewN | apply Kd.R_drew)); exact HO_5.out) hb); have n1_ := Aside0.mk (below_step (by repeat (first | (with_reducible first | exact HB.out | apply below_alloc | apply pw_below_drewN | apply below_drew1) | exact HB.out)) hb); clear HO_5; clear HB; have HO_5 := n0_; have HB := n1_; clear n0_ n1_; (try clear hb); (try clear hb2); (try clear hk); (try clear hi)) | (go_at_call 31; (with_reducible refine (spec_IsRaw.calls k2 (rdOf ByteArray.empty y224 x6_2) t231 _ A24.out).mono ?_); rintro e w45 ⟨rfl, hb⟩; have n0_ := Aside0.mk (Kd.R_below (by (with_reducible repeat (first | apply Kd.R_alloc | apply Kd.R_drewN | apply Kd.R_drew)); exact HO_5.out) hb); have n1_ := Aside0.mk (below_step (by repeat (first | (with_reducible first | exact HB.out | apply below_alloc | apply pw_below_drewN | apply below_drew1) | exact HB.out)) hb); clear HO_5; clear HB; have HO_5 := n0_; have HB := n1_; clear n0_ n1_; (try clear hb); (try clear hb2); (try clear hk); (try clear hi)) | (go_at_call 32; (with_reducible refine (impl_BreaksOut.calls k2 (rdOf ByteArray.empty y224 x6_2) t232 _ A30.out).mono ?_); rintro e w46 ⟨rfl, hb⟩; have n0_ := Aside0.mk (Kd.R_below (by (with_reducible repeat (first | apply Kd.R_alloc | apply Kd.R_drewN | apply Kd.R_drew)); exact HO_5.out) hb); have n1_ := Aside0.mk (below_step (by repeat (first | (with_reducible first | exact HB.out | apply below_alloc | apply pw_below_drewN | apply below_drew1) | exact HB.out)) hb); clear HO_5; clear HB; have HO_5 := n0_; have HB := n1_; clear n0_ n1_; (try clear hb); (try clear hb2); (try clear hk); (try clear hi)) | (go_at_call 33; (with_reducible refine (spec_BreaksOut.calls k2 (rdOf ByteArray.empty y224 x6_2) t233 _ A31.out).mono ?_); rintro e w47 ⟨rfl, hb⟩; have n0_ := Aside0.mk (Kd.R_below (by (with_reducible repeat (first | apply Kd.R_alloc | apply Kd.R_drewN | apply Kd.R_drew)); exact HO_5.out) hb); have n1_ := Aside0.mk (below_step (by repeat (first | (with_reducible first | exact HB.out | apply below_alloc | apply pw_below_drewN | apply below_drew1) | exact HB.out)) hb); clear HO_5; clear HB; have HO_5 := n0_; have HB := n1_; clear n0_ n1_; (try clear hb); (try clear hb2); (try clear hk); (try clear hi)) | (go_at_call 34; (with_reducible refine (impl_IsBanned.calls k2 (rdOf ByteArray.empty y224 x6_2) t234 _ A39.out).mono ?_); rintro e w48 ⟨rfl, hb⟩; have n0_ := Aside0.mk (Kd.R_below (by (with_reducible repeat (first | apply Kd.R_alloc | apply Kd.R_drewN | apply Kd.R_drew)); exact HO_5.out) hb); have n1_ := Aside0.mk (below_step (by repeat (first | (with_reducible first | exact HB.out | apply below_alloc | apply pw_below_drewN | apply below_drew1) | exact HB.out)) hb); clear HO_5; clear HB; have HO_5 := n0_; have HB := n1_; clear n0_ n1_; (try clear hb); (try clear hb2); (try clear hk); (try clear hi)) | (go_at_call 35; (with_reducible refine (spec_IsBanned.calls k2 (rdOf ByteArray.empty y224 x6_2) t235 _ A40.out).mono ?_); rintro e w49 ⟨rfl, hb⟩; have n0_ := Aside0.mk (Kd.R_below (by (with_reducible repeat (first | apply Kd.R_alloc | apply Kd.R_drewN | apply Kd.R_drew)); exact HO_5.out) hb); have n1_ := Aside0.mk (below_step (by repeat (first | (with_reducible first | exact HB.out | apply below_alloc | apply pw_below_drewN | apply below_drew1) | exact HB.out)) hb); clear HO_5; clear HB; have HO_5 := n0_; have HB := n1_; clear n0_ n1_; (try clear hb); (try clear hb2); (try clear hk); (try clear hi)))
                          go_meet
                          case rel => exact ⟨_, (true), (by first | rfl | (simp; done) | (simp [*]; done)), H', ⟨by have := HJ2.out; have := HK2.out; first | omega | exact Nat.le_refl _⟩, ⟨by (with_reducible repeat (first | apply Kd.R_alloc | apply Kd.R_drewN | apply Kd.R_drew)); exact HO_5.out⟩, ⟨by repeat (first | (with_reducible first | exact HB.out | apply below_alloc | apply pw_below_drewN | apply below_drew1) | exact HB.out)⟩⟩
                        · rw [if_neg c41] at H
                          have c41b0 : (t234 != t235) = false := by simpa using c41
                          (try (have c41b1 : decide (t234 = t235) = true := by simpa using c41))
                          (try (have c41b2 : (t234 == t235) = true := by simpa using c41))
                          clear c41
                          replace H := Option.bind_eq_some_iff.mp H
                          obtain ⟨t236, A500, H⟩ := H
                          replace H : ((spec_IsHandler.f (rdOf ByteArray.empty y224 x6_2)).bind fun t237 => (if (t236 != t237) = true then (laws_FnNames.j2 k2 l1 y224 x6_2 (rdOf ByteArray.empty y224 x6_2) true) else ((impl_IsLink.f k2 (rdOf ByteArray.empty y224 x6_2)).bind fun t238 => ((spec_IsLink.f k2 (rdOf ByteArray.empty y224 x6_2)).bind fun t239 => (if (t238 != t239) = true then (laws_FnNames.j2 k2 l1 y224 x6_2 (rdOf ByteArray.empty y224 x6_2) true) else ((impl_SpaceOf.f (rdOf ByteArray.empty y224 x6_2)).bind fun t240 => ((spec_SpaceOf.f (rdOf ByteArray.empty y224 x6_2)).bind fun t241 => (if t240 = t241 then ((impl_TagOK.f k2 (rdOf ByteArray.empty y224 x6_2)).bind fun t242 => (laws_FnNames.j2 k2 l1 y224 x6_2 (rdOf ByteArray.empty y224 x6_2) (!t242))) else (laws_FnNames.j2 k2 l1 y224 x6_2 (rdOf ByteArray.empty y224 x6_2) true))))))))) = some r := H
                          have A50 := Aside0.mk A500
                          clear A500
                          replace H := Option.bind_eq_some_iff.mp H
                          obtain ⟨t237, A510, H⟩ := H
                          replace H : (if (t236 != t237) = true then (laws_FnNames.j2 k2 l1 y224 x6_2 (rdOf ByteArray.empty y224 x6_2) true) else ((impl_IsLink.f k2 (rdOf ByteArray.empty y224 x6_2)).bind fun t238 => ((spec_IsLink.f k2 (rdOf ByteArray.empty y224 x6_2)).bind fun t239 => (if (t238 != t239) = true then (laws_FnNames.j2 k2 l1 y224 x6_2 (rdOf ByteArray.empty y224 x6_2) true) else ((impl_SpaceOf.f (rdOf ByteArray.empty y224 x6_2)).bind fun t240 => ((spec_SpaceOf.f (rdOf ByteArray.empty y224 x6_2)).bind fun t241 => (if t240 = t241 then ((impl_TagOK.f k2 (rdOf ByteArray.empty y224 x6_2)).bind fun t242 => (laws_FnNames.j2 k2 l1 y224 x6_2 (rdOf ByteArray.empty y224 x6_2) (!t242))) else (laws_FnNames.j2 k2 l1 y224 x6_2 (rdOf ByteArray.empty y224 x6_2) true)))))))) = some r := H
                          have A51 := Aside0.mk A510
                          clear A510
                          by_cases c52 : (t236 != t237) = true
                          · rw [if_pos c52] at H
                            have c52b0 : (t236 != t237) = true := c52
                            (try (have c52b1 : decide (t236 = t237) = false := by simpa using c52))
                            (try (have c52b2 : (t236 == t237) = false := by simpa using c52))
                            (try (have c52b3 : ¬ (t236 = t237) := by simpa using c52))
                            clear c52
                            have H' := Aside0.mk H
                            clear H
                            go_wp2_with (first | ((with_reducible refine gate_callee (f := 28) rfl ?_); refine goesL_ (some 38) rfl rfl Try.func28 (by kernel_rfl) rfl #[.string (rdOf ByteArray.empty y224 x6_2)] rfl (by (try simp only [List.map_toArray, List.map_cons, List.map_nil]); first | done | rfl | (simp only [List.length_drop, List.length_take]; rfl)) ?_; (with_reducible refine (impl_IsVoid.calls k2 (rdOf ByteArray.empty y224 x6_2) t228 _ A18.out).mono ?_); rintro e w53 ⟨rfl, hb⟩; refine ⟨_, rfl, ?_⟩; have n0_ := Aside0.mk (Kd.R_below (by (with_reducible repeat (first | apply Kd.R_alloc | apply Kd.R_drewN | apply Kd.R_drew)); exact HO_5.out) hb); have n1_ := Aside0.mk (below_step (by repeat (first | (with_reducible first | exact HB.out | apply below_alloc | apply pw_below_drewN | apply below_drew1) | exact HB.out)) hb); clear HO_5; clear HB; have HO_5 := n0_; have HB := n1_; clear n0_ n1_; (try clear hb); (try clear hb2); (try clear hk); (try clear hi)) | ((with_reducible refine gate_callee (f := 29) rfl ?_); refine goesL_ (some 40) rfl rfl Try.func29 (by kernel_rfl) rfl #[.string (rdOf ByteArray.empty y224 x6_2)] rfl (by (try simp only [List.map_toArray, List.map_cons, List.map_nil]); first | done | rfl | (simp only [List.length_drop, List.length_take]; rfl)) ?_; (with_reducible refine (spec_IsVoid.calls k2 (rdOf ByteArray.empty y224 x6_2) t229 _ A19.out).mono ?_); rintro e w54 ⟨rfl, hb⟩; refine ⟨_, rfl, ?_⟩; have n0_ := Aside0.mk (Kd.R_below (by (with_reducible repeat (first | apply Kd.R_alloc | apply Kd.R_drewN | apply Kd.R_drew)); exact HO_5.out) hb); have n1_ := Aside0.mk (below_step (by repeat (first | (with_reducible first | exact HB.out | apply below_alloc | apply pw_below_drewN | apply below_drew1) | exact HB.out)) hb); clear HO_5; clear HB; have HO_5 := n0_; have HB := n1_; clear n0_ n1_; (try clear hb); (try clear hb2); (try clear hk); (try clear hi)) | (go_at_call 30; (with_reducible refine (impl_IsRaw.calls k2 (rdOf ByteArray.empty y224 x6_2) t230 _ A23.out).mono ?_); rintro e w55 ⟨rfl, hb⟩; have n0_ := Aside0.mk (Kd.R_below (by (with_reducible repeat (first | apply Kd.R_alloc | apply Kd.R_drewN | apply Kd.R_drew)); exact HO_5.out) hb); have n1_ := Aside0.mk (below_step (by repeat (first | (with_reducible first | exact HB.out | apply below_alloc | apply pw_below_drewN | apply below_drew1) | exact HB.out)) hb); clear HO_5; clear HB; have HO_5 := n0_; have HB := n1_; clear n0_ n1_; (try clear hb); (try clear hb2); (try clear hk); (try clear hi)) | (go_at_call 31; (with_reducible refine (spec_IsRaw.calls k2 (rdOf ByteArray.empty y224 x6_2) t231 _ A24.out).mono ?_); rintro e w56 ⟨rfl, hb⟩; have n0_ := Aside0.mk (Kd.R_below (by (with_reducible repeat (first | apply Kd.R_alloc | apply Kd.R_drewN | apply Kd.R_drew)); exact HO_5.out) hb); have n1_ := Aside0.mk (below_step (by repeat (first | (with_reducible first | exact HB.out | apply below_alloc | apply pw_below_drewN | apply below_drew1) | exact HB.out)) hb); clear HO_5; clear HB; have HO_5 := n0_; have HB := n1_; clear n0_ n1_; (try clear hb); (try clear hb2); (try clear hk); (try clear hi)) | (go_at_call 32; (with_reducible refine (impl_BreaksOut.calls k2 (rdOf ByteArray.empty y224 x6_2) t232 _ A30.out).mono ?_); rintro e w57 ⟨rfl, hb⟩; have n0_ := Aside0.mk (Kd.R_below (by (with_reducible repeat (first | apply Kd.R_alloc | apply Kd.R_drewN | apply Kd.R_drew)); exact HO_5.out) hb); have n1_ := Aside0.mk (below_step (by repeat (first | (with_reducible first | exact HB.out | apply below_alloc | apply pw_below_drewN | apply below_drew1) | exact HB.out)) hb); clear HO_5; clear HB; have HO_5 := n0_; have HB := n1_; clear n0_ n1_; (try clear hb); (try clear hb2); (try clear hk); (try clear hi)) | (go_at_call 33; (with_reducible refine (spec_BreaksOut.calls k2 (rdOf ByteArray.empty y224 x6_2) t233 _ A31.out).mono ?_); rintro e w58 ⟨rfl, hb⟩; have n0_ := Aside0.mk (Kd.R_below (by (with_reducible repeat (first | apply Kd.R_alloc | apply Kd.R_drewN | apply Kd.R_drew)); exact HO_5.out) hb); have n1_ := Aside0.mk (below_step (by repeat (first | (with_reducible first | exact HB.out | apply below_alloc | apply pw_below_drewN | apply below_drew1) | exact HB.out)) hb); clear HO_5; clear HB; have HO_5 := n0_; have HB := n1_; clear n0_ n1_; (try clear hb); (try clear hb2); (try clear hk); (try clear hi)) | (go_at_call 34; (with_reducible refine (impl_IsBanned.calls k2 (rdOf ByteArray.empty y224 x6_2) t234 _ A39.out).mono ?_); rintro e w59 ⟨rfl, hb⟩; have n0_ := Aside0.mk (Kd.R_below (by (with_reducible repeat (first | apply Kd.R_alloc | apply Kd.R_drewN | apply Kd.R_drew)); exact HO_5.out) hb); have n1_ := Aside0.mk (below_step (by repeat (first | (with_reducible first | exact HB.out | apply below_alloc | apply pw_below_drewN | apply below_drew1) | exact HB.out)) hb); clear HO_5; clear HB; have HO_5 := n0_; have HB := n1_; clear n0_ n1_; (try clear hb); (try clear hb2); (try clear hk); (try clear hi)) | (go_at_call 35; (with_reducible refine (spec_IsBanned.calls k2 (rdOf ByteArray.empty y224 x6_2) t235 _ A40.out).mono ?_); rintro e w60 ⟨rfl, hb⟩; have n0_ := Aside0.mk (Kd.R_below (by (with_reducible repeat (first | apply Kd.R_alloc | apply Kd.R_drewN | apply Kd.R_drew)); exact HO_5.out) hb); have n1_ := Aside0.mk (below_step (by repeat (first | (with_reducible first | exact HB.out | apply below_alloc | apply pw_below_drewN | apply below_drew1) | exact HB.out)) hb); clear HO_5; clear HB; have HO_5 := n0_; have HB := n1_; clear n0_ n1_; (try clear hb); (try clear hb2); (try clear hk); (try clear hi)) | (go_at_call 36; (with_reducible refine (impl_IsHandler.calls (rdOf ByteArray.empty y224 x6_2) t236 _ A50.out).mono ?_); rintro e w61 ⟨rfl, hb⟩; have n0_ := Aside0.mk (Kd.R_below (by (with_reducible repeat (first | apply Kd.R_alloc | apply Kd.R_drewN | apply Kd.R_drew)); exact HO_5.out) hb); have n1_ := Aside0.mk (below_step (by repeat (first | (with_reducible first | exact HB.out | apply below_alloc | apply pw_below_drewN | apply below_drew1) | exact HB.out)) hb); clear HO_5; clear HB; have HO_5 := n0_; have HB := n1_; clear n0_ n1_; (try clear hb); (try clear hb2); (try clear hk); (try clear hi)) | (go_at_call 37; (with_reducible refine (spec_IsHandler.calls (rdOf ByteArray.empty y224 x6_2) t237 _ A51.out).mono ?_); rintro e w' ⟨rfl, ⟨nd, rfl⟩⟩))
                            go_meet
                            case rel => exact ⟨_, (true), (by first | rfl | (simp; done) | (simp [*]; done)), H', ⟨by have := HJ2.out; have := HK2.out; first | omega | exact Nat.le_refl _⟩, ⟨by (with_reducible repeat (first | apply Kd.R_alloc | apply Kd.R_drewN | apply Kd.R_drew)); exact HO_5.out⟩, ⟨by repeat (first | (with_reducible first | exact HB.out | apply below_alloc | apply pw_below_drewN | apply below_drew1) | exact HB.out)⟩⟩
                          · rw [if_neg c52] at H
                            have c52b0 : (t236 != t237) = false := by simpa using c52
                            (try (have c52b1 : decide (t236 = t237) = true := by simpa using c52))
                            (try (have c52b2 : (t236 == t237) = true := by simpa using c52))
                            clear c52
                            replace H := Option.bind_eq_some_iff.mp H
                            obtain ⟨t238, A620, H⟩ := H
                            replace H : ((spec_IsLink.f k2 (rdOf ByteArray.empty y224 x6_2)).bind fun t239 => (if (t238 != t239) = true then (laws_FnNames.j2 k2 l1 y224 x6_2 (rdOf ByteArray.empty y224 x6_2) true) else ((impl_SpaceOf.f (rdOf ByteArray.empty y224 x6_2)).bind fun t240 => ((spec_SpaceOf.f (rdOf ByteArray.empty y224 x6_2)).bind fun t241 => (if t240 = t241 then ((impl_TagOK.f k2 (rdOf ByteArray.empty y224 x6_2)).bind fun t242 => (laws_FnNames.j2 k2 l1 y224 x6_2 (rdOf ByteArray.empty y224 x6_2) (!t242))) else (laws_FnNames.j2 k2 l1 y224 x6_2 (rdOf ByteArray.empty y224 x6_2) true)))))) = some r := H
                            have A62 := Aside0.mk A620
                            clear A620
                            replace H := Option.bind_eq_some_iff.mp H
                            obtain ⟨t239, A630, H⟩ := H
                            replace H : (if (t238 != t239) = true then (laws_FnNames.j2 k2 l1 y224 x6_2 (rdOf ByteArray.empty y224 x6_2) true) else ((impl_SpaceOf.f (rdOf ByteArray.empty y224 x6_2)).bind fun t240 => ((spec_SpaceOf.f (rdOf ByteArray.empty y224 x6_2)).bind fun t241 => (if t240 = t241 then ((impl_TagOK.f k2 (rdOf ByteArray.empty y224 x6_2)).bind fun t242 => (laws_FnNames.j2 k2 l1 y224 x6_2 (rdOf ByteArray.empty y224 x6_2) (!t242))) else (laws_FnNames.j2 k2 l1 y224 x6_2 (rdOf ByteArray.empty y224 x6_2) true))))) = some r := H
                            have A63 := Aside0.mk A630
                            clear A630
                            by_cases c64 : (t238 != t239) = true
                            · rw [if_pos c64] at H
                              have c64b0 : (t238 != t239) = true := c64
                              (try (have c64b1 : decide (t238 = t239) = false := by simpa using c64))
                              (try (have c64b2 : (t238 == t239) = false := by simpa using c64))
                              (try (have c64b3 : ¬ (t238 = t239) := by simpa using c64))
                              clear c64
                              have H' := Aside0.mk H
                              clear H
                              go_wp2_with (first | ((with_reducible refine gate_callee (f := 28) rfl ?_); refine goesL_ (some 38) rfl rfl Try.func28 (by kernel_rfl) rfl #[.string (rdOf ByteArray.empty y224 x6_2)] rfl (by (try simp only [List.map_toArray, List.map_cons, List.map_nil]); first | done | rfl | (simp only [List.length_drop, List.length_take]; rfl)) ?_; (with_reducible refine (impl_IsVoid.calls k2 (rdOf ByteArray.empty y224 x6_2) t228 _ A18.out).mono ?_); rintro e w65 ⟨rfl, hb⟩; refine ⟨_, rfl, ?_⟩; have n0_ := Aside0.mk (Kd.R_below (by (with_reducible repeat (first | apply Kd.R_alloc | apply Kd.R_drewN | apply Kd.R_drew)); exact HO_5.out) hb); have n1_ := Aside0.mk (below_step (by repeat (first | (with_reducible first | exact HB.out | apply below_alloc | apply pw_below_drewN | apply below_drew1) | exact HB.out)) hb); clear HO_5; clear HB; have HO_5 := n0_; have HB := n1_; clear n0_ n1_; (try clear hb); (try clear hb2); (try clear hk); (try clear hi)) | ((with_reducible refine gate_callee (f := 29) rfl ?_); refine goesL_ (some 40) rfl rfl Try.func29 (by kernel_rfl) rfl #[.string (rdOf ByteArray.empty y224 x6_2)] rfl (by (try simp only [List.map_toArray, List.map_cons, List.map_nil]); first | done | rfl | (simp only [List.length_drop, List.length_take]; rfl)) ?_; (with_reducible refine (spec_IsVoid.calls k2 (rdOf ByteArray.empty y224 x6_2) t229 _ A19.out).mono ?_); rintro e w66 ⟨rfl, hb⟩; refine ⟨_, rfl, ?_⟩; have n0_ := Aside0.mk (Kd.R_below (by (with_reducible repeat (first | apply Kd.R_alloc | apply Kd.R_drewN | apply Kd.R_drew)); exact HO_5.out) hb); have n1_ := Aside0.mk (below_step (by repeat (first | (with_reducible first | exact HB.out | apply below_alloc | apply pw_below_drewN | apply below_drew1) | exact HB.out)) hb); clear HO_5; clear HB; have HO_5 := n0_; have HB := n1_; clear n0_ n1_; (try clear hb); (try clear hb2); (try clear hk); (try clear hi)) | (go_at_call 30; (with_reducible refine (impl_IsRaw.calls k2 (rdOf ByteArray.empty y224 x6_2) t230 _ A23.out).mono ?_); rintro e w67 ⟨rfl, hb⟩; have n0_ := Aside0.mk (Kd.R_below (by (with_reducible repeat (first | apply Kd.R_alloc | apply Kd.R_drewN | apply Kd.R_drew)); exact HO_5.out) hb); have n1_ := Aside0.mk (below_step (by repeat (first | (with_reducible first | exact HB.out | apply below_alloc | apply pw_below_drewN | apply below_drew1) | exact HB.out)) hb); clear HO_5; clear HB; have HO_5 := n0_; have HB := n1_; clear n0_ n1_; (try clear hb); (try clear hb2); (try clear hk); (try clear hi)) | (go_at_call 31; (with_reducible refine (spec_IsRaw.calls k2 (rdOf ByteArray.empty y224 x6_2) t231 _ A24.out).mono ?_); rintro e w68 ⟨rfl, hb⟩; have n0_ := Aside0.mk (Kd.R_below (by (with_reducible repeat (first | apply Kd.R_alloc | apply Kd.R_drewN | apply Kd.R_drew)); exact HO_5.out) hb); have n1_ := Aside0.mk (below_step (by repeat (first | (with_reducible first | exact HB.out | apply below_alloc | apply pw_below_drewN | apply below_drew1) | exact HB.out)) hb); clear HO_5; clear HB; have HO_5 := n0_; have HB := n1_; clear n0_ n1_; (try clear hb); (try clear hb2); (try clear hk); (try clear hi)) | (go_at_call 32; (with_reducible refine (impl_BreaksOut.calls k2 (rdOf ByteArray.empty y224 x6_2) t232 _ A30.out).mono ?_); rintro e w69 ⟨rfl, hb⟩; have n0_ := Aside0.mk (Kd.R_below (by (with_reducible repeat (first | apply Kd.R_alloc | apply Kd.R_drewN | apply Kd.R_drew)); exact HO_5.out) hb); have n1_ := Aside0.mk (below_step (by repeat (first | (with_reducible first | exact HB.out | apply below_alloc | apply pw_below_drewN | apply below_drew1) | exact HB.out)) hb); clear HO_5; clear HB; have HO_5 := n0_; have HB := n1_; clear n0_ n1_; (try clear hb); (try clear hb2); (try clear hk); (try clear hi)) | (go_at_call 33; (with_reducible refine (spec_BreaksOut.calls k2 (rdOf ByteArray.empty y224 x6_2) t233 _ A31.out).mono ?_); rintro e w70 ⟨rfl, hb⟩; have n0_ := Aside0.mk (Kd.R_below (by (with_reducible repeat (first | apply Kd.R_alloc | apply Kd.R_drewN | apply Kd.R_drew)); exact HO_5.out) hb); have n1_ := Aside0.mk (below_step (by repeat (first | (with_reducible first | exact HB.out | apply below_alloc | apply pw_below_drewN | apply below_drew1) | exact HB.out)) hb); clear HO_5; clear HB; have HO_5 := n0_; have HB := n1_; clear n0_ n1_; (try clear hb); (try clear hb2); (try clear hk); (try clear hi)) | (go_at_call 34; (with_reducible refine (impl_IsBanned.calls k2 (rdOf ByteArray.empty y224 x6_2) t234 _ A39.out).mono ?_); rintro e w71 ⟨rfl, hb⟩; have n0_ := Aside0.mk (Kd.R_below (by (with_reducible repeat (first | apply Kd.R_alloc | apply Kd.R_drewN | apply Kd.R_drew)); exact HO_5.out) hb); have n1_ := Aside0.mk (below_step (by repeat (first | (with_reducible first | exact HB.out | apply below_alloc | apply pw_below_drewN | apply below_drew1) | exact HB.out)) hb); clear HO_5; clear HB; have HO_5 := n0_; have HB := n1_; clear n0_ n1_; (try clear hb); (try clear hb2); (try clear hk); (try clear hi)) | (go_at_call 35; (with_reducible refine (spec_IsBanned.calls k2 (rdOf ByteArray.empty y224 x6_2) t235 _ A40.out).mono ?_); rintro e w72 ⟨rfl, hb⟩; have n0_ := Aside0.mk (Kd.R_below (by (with_reducible repeat (first | apply Kd.R_alloc | apply Kd.R_drewN | apply Kd.R_drew)); exact HO_5.out) hb); have n1_ := Aside0.mk (below_step (by repeat (first | (with_reducible first | exact HB.out | apply below_alloc | apply pw_below_drewN | apply below_drew1) | exact HB.out)) hb); clear HO_5; clear HB; have HO_5 := n0_; have HB := n1_; clear n0_ n1_; (try clear hb); (try clear hb2); (try clear hk); (try clear hi)) | (go_at_call 36; (with_reducible refine (impl_IsHandler.calls (rdOf ByteArray.empty y224 x6_2) t236 _ A50.out).mono ?_); rintro e w73 ⟨rfl, hb⟩; have n0_ := Aside0.mk (Kd.R_below (by (with_reducible repeat (first | apply Kd.R_alloc | apply Kd.R_drewN | apply Kd.R_drew)); exact HO_5.out) hb); have n1_ := Aside0.mk (below_step (by repeat (first | (with_reducible first | exact HB.out | apply below_alloc | apply pw_below_drewN | apply below_drew1) | exact HB.out)) hb); clear HO_5; clear HB; have HO_5 := n0_; have HB := n1_; clear n0_ n1_; (try clear hb); (try clear hb2); (try clear hk); (try clear hi)) | (go_at_call 37; (with_reducible refine (spec_IsHandler.calls (rdOf ByteArray.empty y224 x6_2) t237 _ A51.out).mono ?_); rintro e w' ⟨rfl, ⟨nd, rfl⟩⟩) | (go_at_call 38; (with_reducible refine (impl_IsLink.calls k2 (rdOf ByteArray.empty y224 x6_2) t238 _ A62.out).mono ?_); rintro e w74 ⟨rfl, hb⟩; have n0_ := Aside0.mk (Kd.R_below (by (with_reducible repeat (first | apply Kd.R_alloc | apply Kd.R_drewN | apply Kd.R_drew)); exact HO_5.out) hb); have n1_ := Aside0.mk (below_step (by repeat (first | (with_reducible first | exact HB.out | apply below_alloc | apply pw_below_drewN | apply below_drew1) | exact HB.out)) hb); clear HO_5; clear HB; have HO_5 := n0_; have HB := n1_; clear n0_ n1_; (try clear hb); (try clear hb2); (try clear hk); (try clear hi)) | (go_at_call 39; (with_reducible refine (spec_IsLink.calls k2 (rdOf ByteArray.empty y224 x6_2) t239 _ A63.out).mono ?_); rintro e w75 ⟨rfl, hb⟩; have n0_ := Aside0.mk (Kd.R_below (by (with_reducible repeat (first | apply Kd.R_alloc | apply Kd.R_drewN | apply Kd.R_drew)); exact HO_5.out) hb); have n1_ := Aside0.mk (below_step (by repeat (first | (with_reducible first | exact HB.out | apply below_alloc | apply pw_below_drewN | apply below_drew1) | exact HB.out)) hb); clear HO_5; clear HB; have HO_5 := n0_; have HB := n1_; clear n0_ n1_; (try clear hb); (try clear hb2); (try clear hk); (try clear hi)))
                              go_meet
                              case rel => exact ⟨_, (true), (by first | rfl | (simp; done) | (simp [*]; done)), H', ⟨by have := HJ2.out; have := HK2.out; first | omega | exact Nat.le_refl _⟩, ⟨by (with_reducible repeat (first | apply Kd.R_alloc | apply Kd.R_drewN | apply Kd.R_drew)); exact HO_5.out⟩, ⟨by repeat (first | (with_reducible first | exact HB.out | apply below_alloc | apply pw_below_drewN | apply below_drew1) | exact HB.out)⟩⟩
                            · rw [if_neg c64] at H
                              have c64b0 : (t238 != t239) = false := by simpa using c64
                              (try (have c64b1 : decide (t238 = t239) = true := by simpa using c64))
                              (try (have c64b2 : (t238 == t239) = true := by simpa using c64))
                              clear c64
                              replace H := Option.bind_eq_some_iff.mp H
                              obtain ⟨t240, A760, H⟩ := H
                              replace H : ((spec_SpaceOf.f (rdOf ByteArray.empty y224 x6_2)).bind fun t241 => (if t240 = t241 then ((impl_TagOK.f k2 (rdOf ByteArray.empty y224 x6_2)).bind fun t242 => (laws_FnNames.j2 k2 l1 y224 x6_2 (rdOf ByteArray.empty y224 x6_2) (!t242))) else (laws_FnNames.j2 k2 l1 y224 x6_2 (rdOf ByteArray.empty y224 x6_2) true))) = some r := H
                              have A76 := Aside0.mk A760
                              clear A760
                              replace H := Option.bind_eq_some_iff.mp H
                              obtain ⟨t241, A770, H⟩ := H
                              replace H : (if t240 = t241 then ((impl_TagOK.f k2 (rdOf ByteArray.empty y224 x6_2)).bind fun t242 => (laws_FnNames.j2 k2 l1 y224 x6_2 (rdOf ByteArray.empty y224 x6_2) (!t242))) else (laws_FnNames.j2 k2 l1 y224 x6_2 (rdOf ByteArray.empty y224 x6_2) true)) = some r := H
                              have A77 := Aside0.mk A770
                              clear A770
                              by_cases c78 : t240 = t241
                              · rw [if_pos c78] at H
                                have c78b0 : (t240 == t241) = true := beq_iff_eq.mpr c78
                                have c78b1 : (t240 != t241) = false := bne_eq_false_iff_eq.mpr c78
                                clear c78
                                replace H := Option.bind_eq_some_iff.mp H
                                obtain ⟨t242, A790, H⟩ := H
                                replace H : (laws_FnNames.j2 k2 l1 y224 x6_2 (rdOf ByteArray.empty y224 x6_2) (!t242)) = some r := H
                                have A79 := Aside0.mk A790
                                clear A790
                                have H' := Aside0.mk H
                                clear H
                                go_wp2_with (first | ((with_reducible refine gate_callee (f := 28) rfl ?_); refine goesL_ (some 38) rfl rfl Try.func28 (by kernel_rfl) rfl #[.string (rdOf ByteArray.empty y224 x6_2)] rfl (by (try simp only [List.map_toArray, List.map_cons, List.map_nil]); first | done | rfl | (simp only [List.length_drop, List.length_take]; rfl)) ?_; (with_reducible refine (impl_IsVoid.calls k2 (rdOf ByteArray.empty y224 x6_2) t228 _ A18.out).mono ?_); rintro e w80 ⟨rfl, hb⟩; refine ⟨_, rfl, ?_⟩; have n0_ := Aside0.mk (Kd.R_below (by (with_reducible repeat (first | apply Kd.R_alloc | apply Kd.R_drewN | apply Kd.R_drew)); exact HO_5.out) hb); have n1_ := Aside0.mk (below_step (by repeat (first | (with_reducible first | exact HB.out | apply below_alloc | apply pw_below_drewN | apply below_drew1) | exact HB.out)) hb); clear HO_5; clear HB; have HO_5 := n0_; have HB := n1_; clear n0_ n1_; (try clear hb); (try clear hb2); (try clear hk); (try clear hi)) | ((with_reducible refine gate_callee (f := 29) rfl ?_); refine goesL_ (some 40) rfl rfl Try.func29 (by kernel_rfl) rfl #[.string (rdOf ByteArray.empty y224 x6_2)] rfl (by (try simp only [List.map_toArray, List.map_cons, List.map_nil]); first | done | rfl | (simp only [List.length_drop, List.length_take]; rfl)) ?_; (with_reducible refine (spec_IsVoid.calls k2 (rdOf ByteArray.empty y224 x6_2) t229 _ A19.out).mono ?_); rintro e w81 ⟨rfl, hb⟩; refine ⟨_, rfl, ?_⟩; have n0_ := Aside0.mk (Kd.R_below (by (with_reducible repeat (first | apply Kd.R_alloc | apply Kd.R_drewN | apply Kd.R_drew)); exact HO_5.out) hb); have n1_ := Aside0.mk (below_step (by repeat (first | (with_reducible first | exact HB.out | apply below_alloc | apply pw_below_drewN | apply below_drew1) | exact HB.out)) hb); clear HO_5; clear HB; have HO_5 := n0_; have HB := n1_; clear n0_ n1_; (try clear hb); (try clear hb2); (try clear hk); (try clear hi)) | (go_at_call 30; (with_reducible refine (impl_IsRaw.calls k2 (rdOf ByteArray.empty y224 x6_2) t230 _ A23.out).mono ?_); rintro e w82 ⟨rfl, hb⟩; have n0_ := Aside0.mk (Kd.R_below (by (with_reducible repeat (first | apply Kd.R_alloc | apply Kd.R_drewN | apply Kd.R_drew)); exact HO_5.out) hb); have n1_ := Aside0.mk (below_step (by repeat (first | (with_reducible first | exact HB.out | apply below_alloc | apply pw_below_drewN | apply below_drew1) | exact HB.out)) hb); clear HO_5; clear HB; have HO_5 := n0_; have HB := n1_; clear n0_ n1_; (try clear hb); (try clear hb2); (try clear hk); (try clear hi)) | (go_at_call 31; (with_reducible refine (spec_IsRaw.calls k2 (rdOf ByteArray.empty y224 x6_2) t231 _ A24.out).mono ?_); rintro e w83 ⟨rfl, hb⟩; have n0_ := Aside0.mk (Kd.R_below (by (with_reducible repeat (first | apply Kd.R_alloc | apply Kd.R_drewN | apply Kd.R_drew)); exact HO_5.out) hb); have n1_ := Aside0.mk (below_step (by repeat (first | (with_reducible first | exact HB.out | apply below_alloc | apply pw_below_drewN | apply below_drew1) | exact HB.out)) hb); clear HO_5; clear HB; have HO_5 := n0_; have HB := n1_; clear n0_ n1_; (try clear hb); (try clear hb2); (try clear hk); (try clear hi)) | (go_at_call 32; (with_reducible refine (impl_BreaksOut.calls k2 (rdOf ByteArray.empty y224 x6_2) t232 _ A30.out).mono ?_); rintro e w84 ⟨rfl, hb⟩; have n0_ := Aside0.mk (Kd.R_below (by (with_reducible repeat (first | apply Kd.R_alloc | apply Kd.R_drewN | apply Kd.R_drew)); exact HO_5.out) hb); have n1_ := Aside0.mk (below_step (by repeat (first | (with_reducible first | exact HB.out | apply below_alloc | apply pw_below_drewN | apply below_drew1) | exact HB.out)) hb); clear HO_5; clear HB; have HO_5 := n0_; have HB := n1_; clear n0_ n1_; (try clear hb); (try clear hb2); (try clear hk); (try clear hi)) | (go_at_call 33; (with_reducible refine (spec_BreaksOut.calls k2 (rdOf ByteArray.empty y224 x6_2) t233 _ A31.out).mono ?_); rintro e w85 ⟨rfl, hb⟩; have n0_ := Aside0.mk (Kd.R_below (by (with_reducible repeat (first | apply Kd.R_alloc | apply Kd.R_drewN | apply Kd.R_drew)); exact HO_5.out) hb); have n1_ := Aside0.mk (below_step (by repeat (first | (with_reducible first | exact HB.out | apply below_alloc | apply pw_below_drewN | apply below_drew1) | exact HB.out)) hb); clear HO_5; clear HB; have HO_5 := n0_; have HB := n1_; clear n0_ n1_; (try clear hb); (try clear hb2); (try clear hk); (try clear hi)) | (go_at_call 34; (with_reducible refine (impl_IsBanned.calls k2 (rdOf ByteArray.empty y224 x6_2) t234 _ A39.out).mono ?_); rintro e w86 ⟨rfl, hb⟩; have n0_ := Aside0.mk (Kd.R_below (by (with_reducible repeat (first | apply Kd.R_alloc | apply Kd.R_drewN | apply Kd.R_drew)); exact HO_5.out) hb); have n1_ := Aside0.mk (below_step (by repeat (first | (with_reducible first | exact HB.out | apply below_alloc | apply pw_below_drewN | apply below_drew1) | exact HB.out)) hb); clear HO_5; clear HB; have HO_5 := n0_; have HB := n1_; clear n0_ n1_; (try clear hb); (try clear hb2); (try clear hk); (try clear hi)) | (go_at_call 35; (with_reducible refine (spec_IsBanned.calls k2 (rdOf ByteArray.empty y224 x6_2) t235 _ A40.out).mono ?_); rintro e w87 ⟨rfl, hb⟩; have n0_ := Aside0.mk (Kd.R_below (by (with_reducible repeat (first | apply Kd.R_alloc | apply Kd.R_drewN | apply Kd.R_drew)); exact HO_5.out) hb); have n1_ := Aside0.mk (below_step (by repeat (first | (with_reducible first | exact HB.out | apply below_alloc | apply pw_below_drewN | apply below_drew1) | exact HB.out)) hb); clear HO_5; clear HB; have HO_5 := n0_; have HB := n1_; clear n0_ n1_; (try clear hb); (try clear hb2); (try clear hk); (try clear hi)) | (go_at_call 36; (with_reducible refine (impl_IsHandler.calls (rdOf ByteArray.empty y224 x6_2) t236 _ A50.out).mono ?_); rintro e w88 ⟨rfl, hb⟩; have n0_ := Aside0.mk (Kd.R_below (by (with_reducible repeat (first | apply Kd.R_alloc | apply Kd.R_drewN | apply Kd.R_drew)); exact HO_5.out) hb); have n1_ := Aside0.mk (below_step (by repeat (first | (with_reducible first | exact HB.out | apply below_alloc | apply pw_below_drewN | apply below_drew1) | exact HB.out)) hb); clear HO_5; clear HB; have HO_5 := n0_; have HB := n1_; clear n0_ n1_; (try clear hb); (try clear hb2); (try clear hk); (try clear hi)) | (go_at_call 37; (with_reducible refine (spec_IsHandler.calls (rdOf ByteArray.empty y224 x6_2) t237 _ A51.out).mono ?_); rintro e w' ⟨rfl, ⟨nd, rfl⟩⟩) | (go_at_call 38; (with_reducible refine (impl_IsLink.calls k2 (rdOf ByteArray.empty y224 x6_2) t238 _ A62.out).mono ?_); rintro e w89 ⟨rfl, hb⟩; have n0_ := Aside0.mk (Kd.R_below (by (with_reducible repeat (first | apply Kd.R_alloc | apply Kd.R_drewN | apply Kd.R_drew)); exact HO_5.out) hb); have n1_ := Aside0.mk (below_step (by repeat (first | (with_reducible first | exact HB.out | apply below_alloc | apply pw_below_drewN | apply below_drew1) | exact HB.out)) hb); clear HO_5; clear HB; have HO_5 := n0_; have HB := n1_; clear n0_ n1_; (try clear hb); (try clear hb2); (try clear hk); (try clear hi)) | (go_at_call 39; (with_reducible refine (spec_IsLink.calls k2 (rdOf ByteArray.empty y224 x6_2) t239 _ A63.out).mono ?_); rintro e w90 ⟨rfl, hb⟩; have n0_ := Aside0.mk (Kd.R_below (by (with_reducible repeat (first | apply Kd.R_alloc | apply Kd.R_drewN | apply Kd.R_drew)); exact HO_5.out) hb); have n1_ := Aside0.mk (below_step (by repeat (first | (with_reducible first | exact HB.out | apply below_alloc | apply pw_below_drewN | apply below_drew1) | exact HB.out)) hb); clear HO_5; clear HB; have HO_5 := n0_; have HB := n1_; clear n0_ n1_; (try clear hb); (try clear hb2); (try clear hk); (try clear hi)) | (go_at_call 40; (with_reducible refine (impl_SpaceOf.calls (rdOf ByteArray.empty y224 x6_2) t240 _ A76.out).mono ?_); rintro e w' ⟨rfl, ⟨nd, rfl⟩⟩) | (go_at_call 41; (with_reducible refine (spec_SpaceOf.calls (rdOf ByteArray.empty y224 x6_2) t241 _ A77.out).mono ?_); rintro e w' ⟨rfl, ⟨nd, rfl⟩⟩) | (go_at_call 42; (with_reducible refine (impl_TagOK.calls k2 (rdOf ByteArray.empty y224 x6_2) t242 _ A79.out).mono ?_); rintro e w' ⟨rfl, ⟨nd, rfl⟩⟩))
                                go_meet
                                case rel => exact ⟨_, (!t242), (by first | rfl | (simp; done) | (simp [*]; done)), H', ⟨by have := HJ2.out; have := HK2.out; first | omega | exact Nat.le_refl _⟩, ⟨by (with_reducible repeat (first | apply Kd.R_alloc | apply Kd.R_drewN | apply Kd.R_drew)); exact HO_5.out⟩, ⟨by repeat (first | (with_reducible first | exact HB.out | apply below_alloc | apply pw_below_drewN | apply below_drew1) | exact HB.out)⟩⟩
                              · rw [if_neg c78] at H
                                have c78b0 : (t240 == t241) = false := beq_eq_false_iff_ne.mpr c78
                                have c78b1 : (t240 != t241) = true := bne_iff_ne.mpr c78
                                have H' := Aside0.mk H
                                clear H
                                go_wp2_with (first | ((with_reducible refine gate_callee (f := 28) rfl ?_); refine goesL_ (some 38) rfl rfl Try.func28 (by kernel_rfl) rfl #[.string (rdOf ByteArray.empty y224 x6_2)] rfl (by (try simp only [List.map_toArray, List.map_cons, List.map_nil]); first | done | rfl | (simp only [List.length_drop, List.length_take]; rfl)) ?_; (with_reducible refine (impl_IsVoid.calls k2 (rdOf ByteArray.empty y224 x6_2) t228 _ A18.out).mono ?_); rintro e w91 ⟨rfl, hb⟩; refine ⟨_, rfl, ?_⟩; have n0_ := Aside0.mk (Kd.R_below (by (with_reducible repeat (first | apply Kd.R_alloc | apply Kd.R_drewN | apply Kd.R_drew)); exact HO_5.out) hb); have n1_ := Aside0.mk (below_step (by repeat (first | (with_reducible first | exact HB.out | apply below_alloc | apply pw_below_drewN | apply below_drew1) | exact HB.out)) hb); clear HO_5; clear HB; have HO_5 := n0_; have HB := n1_; clear n0_ n1_; (try clear hb); (try clear hb2); (try clear hk); (try clear hi)) | ((with_reducible refine gate_callee (f := 29) rfl ?_); refine goesL_ (some 40) rfl rfl Try.func29 (by kernel_rfl) rfl #[.string (rdOf ByteArray.empty y224 x6_2)] rfl (by (try simp only [List.map_toArray, List.map_cons, List.map_nil]); first | done | rfl | (simp only [List.length_drop, List.length_take]; rfl)) ?_; (with_reducible refine (spec_IsVoid.calls k2 (rdOf ByteArray.empty y224 x6_2) t229 _ A19.out).mono ?_); rintro e w92 ⟨rfl, hb⟩; refine ⟨_, rfl, ?_⟩; have n0_ := Aside0.mk (Kd.R_below (by (with_reducible repeat (first | apply Kd.R_alloc | apply Kd.R_drewN | apply Kd.R_drew)); exact HO_5.out) hb); have n1_ := Aside0.mk (below_step (by repeat (first | (with_reducible first | exact HB.out | apply below_alloc | apply pw_below_drewN | apply below_drew1) | exact HB.out)) hb); clear HO_5; clear HB; have HO_5 := n0_; have HB := n1_; clear n0_ n1_; (try clear hb); (try clear hb2); (try clear hk); (try clear hi)) | (go_at_call 30; (with_reducible refine (impl_IsRaw.calls k2 (rdOf ByteArray.empty y224 x6_2) t230 _ A23.out).mono ?_); rintro e w93 ⟨rfl, hb⟩; have n0_ := Aside0.mk (Kd.R_below (by (with_reducible repeat (first | apply Kd.R_alloc | apply Kd.R_drewN | apply Kd.R_drew)); exact HO_5.out) hb); have n1_ := Aside0.mk (below_step (by repeat (first | (with_reducible first | exact HB.out | apply below_alloc | apply pw_below_drewN | apply below_drew1) | exact HB.out)) hb); clear HO_5; clear HB; have HO_5 := n0_; have HB := n1_; clear n0_ n1_; (try clear hb); (try clear hb2); (try clear hk); (try clear hi)) | (go_at_call 31; (with_reducible refine (spec_IsRaw.calls k2 (rdOf ByteArray.empty y224 x6_2) t231 _ A24.out).mono ?_); rintro e w94 ⟨rfl, hb⟩; have n0_ := Aside0.mk (Kd.R_below (by (with_reducible repeat (first | apply Kd.R_alloc | apply Kd.R_drewN | apply Kd.R_drew)); exact HO_5.out) hb); have n1_ := Aside0.mk (below_step (by repeat (first | (with_reducible first | exact HB.out | apply below_alloc | apply pw_below_drewN | apply below_drew1) | exact HB.out)) hb); clear HO_5; clear HB; have HO_5 := n0_; have HB := n1_; clear n0_ n1_; (try clear hb); (try clear hb2); (try clear hk); (try clear hi)) | (go_at_call 32; (with_reducible refine (impl_BreaksOut.calls k2 (rdOf ByteArray.empty y224 x6_2) t232 _ A30.out).mono ?_); rintro e w95 ⟨rfl, hb⟩; have n0_ := Aside0.mk (Kd.R_below (by (with_reducible repeat (first | apply Kd.R_alloc | apply Kd.R_drewN | apply Kd.R_drew)); exact HO_5.out) hb); have n1_ := Aside0.mk (below_step (by repeat (first | (with_reducible first | exact HB.out | apply below_alloc | apply pw_below_drewN | apply below_drew1) | exact HB.out)) hb); clear HO_5; clear HB; have HO_5 := n0_; have HB := n1_; clear n0_ n1_; (try clear hb); (try clear hb2); (try clear hk); (try clear hi)) | (go_at_call 33; (with_reducible refine (spec_BreaksOut.calls k2 (rdOf ByteArray.empty y224 x6_2) t233 _ A31.out).mono ?_); rintro e w96 ⟨rfl, hb⟩; have n0_ := Aside0.mk (Kd.R_below (by (with_reducible repeat (first | apply Kd.R_alloc | apply Kd.R_drewN | apply Kd.R_drew)); exact HO_5.out) hb); have n1_ := Aside0.mk (below_step (by repeat (first | (with_reducible first | exact HB.out | apply below_alloc | apply pw_below_drewN | apply below_drew1) | exact HB.out)) hb); clear HO_5; clear HB; have HO_5 := n0_; have HB := n1_; clear n0_ n1_; (try clear hb); (try clear hb2); (try clear hk); (try clear hi)) | (go_at_call 34; (with_reducible refine (impl_IsBanned.calls k2 (rdOf ByteArray.empty y224 x6_2) t234 _ A39.out).mono ?_); rintro e w97 ⟨rfl, hb⟩; have n0_ := Aside0.mk (Kd.R_below (by (with_reducible repeat (first | apply Kd.R_alloc | apply Kd.R_drewN | apply Kd.R_drew)); exact HO_5.out) hb); have n1_ := Aside0.mk (below_step (by repeat (first | (with_reducible first | exact HB.out | apply below_alloc | apply pw_below_drewN | apply below_drew1) | exact HB.out)) hb); clear HO_5; clear HB; have HO_5 := n0_; have HB := n1_; clear n0_ n1_; (try clear hb); (try clear hb2); (try clear hk); (try clear hi)) | (go_at_call 35; (with_reducible refine (spec_IsBanned.calls k2 (rdOf ByteArray.empty y224 x6_2) t235 _ A40.out).mono ?_); rintro e w98 ⟨rfl, hb⟩; have n0_ := Aside0.mk (Kd.R_below (by (with_reducible repeat (first | apply Kd.R_alloc | apply Kd.R_drewN | apply Kd.R_drew)); exact HO_5.out) hb); have n1_ := Aside0.mk (below_step (by repeat (first | (with_reducible first | exact HB.out | apply below_alloc | apply pw_below_drewN | apply below_drew1) | exact HB.out)) hb); clear HO_5; clear HB; have HO_5 := n0_; have HB := n1_; clear n0_ n1_; (try clear hb); (try clear hb2); (try clear hk); (try clear hi)) | (go_at_call 36; (with_reducible refine (impl_IsHandler.calls (rdOf ByteArray.empty y224 x6_2) t236 _ A50.out).mono ?_); rintro e w99 ⟨rfl, hb⟩; have n0_ := Aside0.mk (Kd.R_below (by (with_reducible repeat (first | apply Kd.R_alloc | apply Kd.R_drewN | apply Kd.R_drew)); exact HO_5.out) hb); have n1_ := Aside0.mk (below_step (by repeat (first | (with_reducible first | exact HB.out | apply below_alloc | apply pw_below_drewN | apply below_drew1) | exact HB.out)) hb); clear HO_5; clear HB; have HO_5 := n0_; have HB := n1_; clear n0_ n1_; (try clear hb); (try clear hb2); (try clear hk); (try clear hi)) | (go_at_call 37; (with_reducible refine (spec_IsHandler.calls (rdOf ByteArray.empty y224 x6_2) t237 _ A51.out).mono ?_); rintro e w' ⟨rfl, ⟨nd, rfl⟩⟩) | (go_at_call 38; (with_reducible refine (impl_IsLink.calls k2 (rdOf ByteArray.empty y224 x6_2) t238 _ A62.out).mono ?_); rintro e w100 ⟨rfl, hb⟩; have n0_ := Aside0.mk (Kd.R_below (by (with_reducible repeat (first | apply Kd.R_alloc | apply Kd.R_drewN | apply Kd.R_drew)); exact HO_5.out) hb); have n1_ := Aside0.mk (below_step (by repeat (first | (with_reducible first | exact HB.out | apply below_alloc | apply pw_below_drewN | apply below_drew1) | exact HB.out)) hb); clear HO_5; clear HB; have HO_5 := n0_; have HB := n1_; clear n0_ n1_; (try clear hb); (try clear hb2); (try clear hk); (try clear hi)) | (go_at_call 39; (with_reducible refine (spec_IsLink.calls k2 (rdOf ByteArray.empty y224 x6_2) t239 _ A63.out).mono ?_); rintro e w101 ⟨rfl, hb⟩; have n0_ := Aside0.mk (Kd.R_below (by (with_reducible repeat (first | apply Kd.R_alloc | apply Kd.R_drewN | apply Kd.R_drew)); exact HO_5.out) hb); have n1_ := Aside0.mk (below_step (by repeat (first | (with_reducible first | exact HB.out | apply below_alloc | apply pw_below_drewN | apply below_drew1) | exact HB.out)) hb); clear HO_5; clear HB; have HO_5 := n0_; have HB := n1_; clear n0_ n1_; (try clear hb); (try clear hb2); (try clear hk); (try clear hi)) | (go_at_call 40; (with_reducible refine (impl_SpaceOf.calls (rdOf ByteArray.empty y224 x6_2) t240 _ A76.out).mono ?_); rintro e w' ⟨rfl, ⟨nd, rfl⟩⟩) | (go_at_call 41; (with_reducible refine (spec_SpaceOf.calls (rdOf ByteArray.empty y224 x6_2) t241 _ A77.out).mono ?_); rintro e w' ⟨rfl, ⟨nd, rfl⟩⟩))
                                go_meet
                                case rel => exact ⟨_, (true), (by first | rfl | (simp; done) | (simp [*]; done)), H', ⟨by have := HJ2.out; have := HK2.out; first | omega | exact Nat.le_refl _⟩, ⟨by (with_reducible repeat (first | apply Kd.R_alloc | apply Kd.R_drewN | apply Kd.R_drew)); exact HO_5.out⟩, ⟨by repeat (first | (with_reducible first | exact HB.out | apply below_alloc | apply pw_below_drewN | apply below_drew1) | exact HB.out)⟩⟩
                case rest =>
                  clear HC16
                  try clear c1
                  try clear c2
                  try clear p2
                  try clear q2
                  try clear hx2
                  try clear c3
                  try clear c4
                  try clear c4b0
                  try clear c4b1
                  try clear c5
                  try clear c6
                  try clear c7
                  try clear c14
                  try clear c14b0
                  try clear c15
                  try clear c15b0
                  try clear c20
                  try clear c20b0
                  try clear c20b1
                  try clear c20b2
                  try clear p22
                  try clear q22
                  try clear hx22
                  try clear c25
                  try clear c25b0
                  try clear c25b1
                  try clear c25b2
                  try clear c26
                  try clear c27
                  try clear c28
                  try clear c29
                  try clear c32
                  try clear c32b0
                  try clear c32b1
                  try clear c32b2
                  try clear c41
                  try clear c41b0
                  try clear c41b1
                  try clear c41b2
                  try clear c52
                  try clear c52b0
                  try clear c52b1
                  try clear c52b2
                  try clear c64
                  try clear c64b0
                  try clear c64b1
                  try clear c64b2
                  try clear c78
                  try clear c78b0
                  try clear c78b1
                  try clear hx227_0
                  try clear p2
                  try clear p227
                  try clear q227
                  obtain ⟨kq, x88_15, rfl, HA, HJ15, HO_5, HB⟩ := hcut
                  cases kq with
                  | zero => exact absurd HA.out (by simp [laws_FnNames.j2])
                  | succ kj15 =>
                    have H := HA.out
                    clear HA
                    simp only [laws_FnNames.j2] at H
                    by_cases c102 : x88_15 = true
                    · subst c102
                      have H1 : (some false) = some r := by rw [if_pos rfl] at H; exact H
                      clear H
                      have H := H1
                      clear H1
                      exact absurd ((Option.some.inj H).trans HRT.out) (by decide)
                    · replace c102 := Bool.eq_false_iff.mpr c102
                      subst c102
                      have H1 : (laws_FnNames.l1 kj15 l1 y224 x6_2 (rdOf ByteArray.empty y224 x6_2) (([] : List Int)) 0) = some r := by rw [if_neg (show ¬ (false = true) by decide)] at H; exact H
                      clear H
                      have H := H1
                      clear H1
                      obtain ⟨y243, hy243⟩ : ∃ y_ : List Int, y_ = (([] : List Int)) := ⟨_, rfl⟩
                      replace H : (laws_FnNames.l1 kj15 l1 y224 x6_2 (rdOf ByteArray.empty y224 x6_2) y243 0) = some r := by first | (rw [hy243]; with_reducible exact H) | (have H2_ := (Option.bind_some _ _).symm.trans H; rw [hy243]; with_reducible exact H2_) | (have H2_ := (Option.bind_some _ _).symm.trans H; with_reducible exact H2_) | with_reducible exact H | (rw [hy243]; exact H) | exact H
                      have Ny243 := Aside0.mk hy243
                      clear hy243
                      have H' := Aside0.mk H
                      clear H
                      go_wp2_with (first | ((with_reducible refine gate_dst (N := 89) rfl ?_); (try (refine gate_guard (by rfl) ?_; dsimp only)); refine Kd.R_lit (Kd.int .u8) _ 5 ?hg (N := 89) ?hd (xs := ([] : List Int)) (inner := []) (ok := fun _ => True) (okp := fun _ => True) ?hr ?hp (fun _ hk => hk) trivial (Below.refl _ _) (Nat.le_refl _) (by simp) ?_; (case hd => rfl); (case hg => rfl); (case hr => first | (go_simp; done) | (go_simp; rfl) | ((first | (obtain ⟨_, _, rfl⟩ := Kd.R_slice HO226.out) | (obtain ⟨_, _, rfl⟩ := Kd.S_slice HO226.out) | skip); first | (go_simp; done) | (go_simp; rfl))); (case hp => exact (Reps.none _ _)); intro v244 w103 ho104 hb hg_ hnew_; clear hg_ hnew_; (first | rw [← Ny243.out] at ho104 | (simp only [Int.reduceToNat] at ho104; rw [← Ny243.out] at ho104)); have n0_ := Aside0.mk (Kd.R_below (by (with_reducible repeat (first | apply Kd.R_alloc | apply Kd.R_drewN | apply Kd.R_drew)); exact HO_5.out) hb); have n1_ := Aside0.mk (Kd.R_lower ho104 (below_size (by repeat (first | (with_reducible first | exact HB.out | apply below_alloc | apply pw_below_drewN | apply below_drew1) | exact HB.out)))); have n2_ := Aside0.mk (below_step (by repeat (first | (with_reducible first | exact HB.out | apply below_alloc | apply pw_below_drewN | apply below_drew1) | exact HB.out)) hb); clear HO_5; clear HB; have HO_5 := n0_; have HO245 := n1_; have HB := n2_; clear n0_ n1_ n2_; clear hb ho104))
                      go_loopg [8, 9] kj15 (fun kq v8 v9 w' => ∃ (x8_4 : List Int) (x9_4 : Int), v9 = .int .i64 x9_4 ∧ Aside0 (laws_FnNames.l1 kq l1 y224 x6_2 (rdOf ByteArray.empty y224 x6_2) x8_4 x9_4 = some r) ∧ Aside0 (kq ≤ kj15) ∧ Aside0 (Kd.R Kd.string 9 w' w.heap.size (fun _ => True) (.slice (some ad227) y224.length co17) y224) ∧ Aside0 (Kd.R (Kd.int .u8) 5 w' w.heap.size (fun _ => True) v8 x8_4) ∧ Aside0 (Below w.heap.size w w'))
                      case atStart => exact ⟨(y243), (0), (by first | rfl | (simp; done) | (simp [*]; done)), H', ⟨Nat.le_refl _⟩, ⟨by (with_reducible repeat (first | apply Kd.R_alloc | apply Kd.R_drewN | apply Kd.R_drew)); exact HO_5.out⟩, ⟨by (with_reducible repeat (first | apply Kd.R_alloc | apply Kd.R_drewN | apply Kd.R_drew)); exact HO245.out⟩, ⟨by repeat (first | (with_reducible first | exact HB.out | apply below_alloc | apply pw_below_drewN | apply below_drew1) | exact HB.out)⟩⟩
                      case round =>
                        clear H'
                        try clear c1
                        try clear c2
                        try clear p2
                        try clear q2
                        try clear hx2
                        try clear c3
                        try clear c4
                        try clear c4b0
                        try clear c4b1
                        try clear c5
                        try clear c6
                        try clear c7
                        try clear c10
                        try clear c14
                        try clear c14b0
                        try clear c15
                        try clear c15b0
                        try clear c20
                        try clear c20b0
                        try clear c20b1
                        try clear c20b2
                        try clear p22
                        try clear q22
                        try clear hx22
                        try clear c25
                        try clear c25b0
                        try clear c25b1
                        try clear c25b2
                        try clear c26
                        try clear c27
                        try clear c28
                        try clear c29
                        try clear c32
                        try clear c32b0
                        try clear c32b1
                        try clear c32b2
                        try clear c41
                        try clear c41b0
                        try clear c41b1
                        try clear c41b2
                        try clear c52
                        try clear c52b0
                        try clear c52b1
                        try clear c52b2
                        try clear c64
                        try clear c64b0
                        try clear c64b1
                        try clear c64b2
                        try clear c78
                        try clear c78b0
                        try clear c78b1
                        try clear c102
                        try clear hx227_0
                        try clear p2
                        try clear p22
                        try clear p227
                        try clear q2
                        try clear q22
                        try clear q227
                        obtain ⟨x8_4, x9_4, rfl, HA, HK4, HO_5, HO_8, HB⟩ := hrel
                        cases gk with
                        | zero => exact absurd HA.out (by simp [laws_FnNames.l1])
                        | succ k4 =>
                          have H := HA.out
                          clear HA
                          simp only [laws_FnNames.l1] at H
                          by_cases c105 : x9_4 < ((rdOf ByteArray.empty y224 x6_2).size : Int)
                          · rw [if_pos c105] at H
                            have c105b0 : decide (x9_4 < ((rdOf ByteArray.empty y224 x6_2).size : Int)) = true := decide_eq_true c105
                            clear c105
                            by_cases c106 : 0 ≤ x9_4
                            · rw [if_pos c106] at H
                              have c106b0 : decide (0 ≤ x9_4) = true := decide_eq_true c106
                              clear c106
                              by_cases c108 : (bt (rdOf ByteArray.empty y224 x6_2) x9_4) ≥ 97
                              · rw [if_pos c108] at H
                                have c108b0 : decide (97 ≤ (bt (rdOf ByteArray.empty y224 x6_2) x9_4)) = true := decide_eq_true c108
                                clear c108
                                by_cases c109 : (bt (rdOf ByteArray.empty y224 x6_2) x9_4) ≤ 122
                                · rw [if_pos c109] at H
                                  have c109b0 : decide ((bt (rdOf ByteArray.empty y224 x6_2) x9_4) ≤ 122) = true := decide_eq_true c109
                                  clear c109
                                  replace H := Option.bind_eq_some_iff.mp H
                                  obtain ⟨t246, A1100, H⟩ := H
                                  replace H : (if t246 = 0 then (if x8_4.length < 140737488355328 then (laws_FnNames.l1 k4 l1 y224 x6_2 (rdOf ByteArray.empty y224 x6_2) (x8_4 ++ [((bt (rdOf ByteArray.empty y224 x6_2) x9_4) - 32) % 256]) (wrap64 (x9_4 + 1))) else (none)) else (if x8_4.length < 140737488355328 then (laws_FnNames.l1 k4 l1 y224 x6_2 (rdOf ByteArray.empty y224 x6_2) (x8_4 ++ [bt (rdOf ByteArray.empty y224 x6_2) x9_4]) (wrap64 (x9_4 + 1))) else (none))) = some r := H
                                  have A110 := Aside0.mk A1100
                                  clear A1100
                                  by_cases c111 : t246 = 0
                                  · rw [if_pos c111] at H
                                    have c111b0 : (t246 == 0) = true := beq_iff_eq.mpr c111
                                    have c111b1 : (t246 != 0) = false := bne_eq_false_iff_eq.mpr c111
                                    clear c111
                                    by_cases c112 : x8_4.length < 140737488355328
                                    · rw [if_pos c112] at H
                                      have LMc112 := Aside0.mk c112
                                      clear c112
                                      obtain ⟨y247, hy247⟩ : ∃ y_ : List Int, y_ = (x8_4 ++ [((bt (rdOf ByteArray.empty y224 x6_2) x9_4) - 32) % 256]) := ⟨_, rfl⟩
                                      replace H : (laws_FnNames.l1 k4 l1 y224 x6_2 (rdOf ByteArray.empty y224 x6_2) y247 (wrap64 (x9_4 + 1))) = some r := by first | (rw [hy247]; with_reducible exact H) | (have H2_ := (Option.bind_some _ _).symm.trans H; rw [hy247]; with_reducible exact H2_) | (have H2_ := (Option.bind_some _ _).symm.trans H; with_reducible exact H2_) | with_reducible exact H | (rw [hy247]; exact H) | exact H
                                      have Ny247 := Aside0.mk hy247
                                      clear hy247
                                      have H' := Aside0.mk H
                                      clear H
                                      have p107 : 0 ≤ (x9_4 : Int) := of_decide_eq_true (by first | (with_reducible assumption) | assumption)
                                      have q107 : x9_4 < ((rdOf ByteArray.empty y224 x6_2).size : Int) := of_decide_eq_true (by first | (with_reducible assumption) | assumption)
                                      have hx107 := bt_at (rdOf ByteArray.empty y224 x6_2) x9_4
                                      replace p107 := eq_true p107
                                      replace q107 := eq_true q107
                                      go_wp2_with (first | (go_at_call 43; (with_reducible refine (laws_at.calls _ _ l1 x9_4 2 t246 _ ?side1 ?side2 A110.out).mono ?_); (case side1 => repeat (first | exact (Kd.C_below HR1.out HB.out) | (with_reducible refine Kd.C_alloc ?_ _) | (with_reducible refine Kd.C_drewN ?_ _) | (with_reducible refine Kd.C_drew ?_))); (case side2 => exact HC1.out); rintro e w' ⟨rfl, ⟨nd, rfl⟩⟩) | ((with_reducible refine gate_builtin (b := .append) (xs := #[.tmp 113, .tmp 115]) rfl ?_); (try (refine gate_guard (by rfl) ?_; dsimp only)); at_builtin; refine Kd.R_append (Kd.int .u8) (w0 := w) w.heap.size rfl (.tmp 113) (.tmp 115) 39 5 (.int .u8 0) 1 rfl Try.underlying39 info5 rfl (by decide) (by omega) u8 x8_4 (((bt (rdOf ByteArray.empty y224 x6_2) x9_4) - 32) % 256) [.int .u8 (((bt (rdOf ByteArray.empty y224 x6_2) x9_4) - 32) % 256)] (fun _ => True) (fun _ => False) rfl rfl ?aP (fun _ hk => hk.elim) ?aF ?aO ?aB ?aS ?aL ?_; (case aP => exact rfl); (case aB => exact (by repeat (first | (with_reducible first | exact HB.out | apply below_alloc | apply pw_below_drewN | apply below_drew1) | exact HB.out))); (case aF => exact (fun _ _ => trivial)); (case aO => exact (by (with_reducible repeat (first | apply Kd.R_alloc | apply Kd.R_drewN | apply Kd.R_drew)); exact HO_8.out)); (case aS => exact (below_size (by repeat (first | (with_reducible first | exact HB.out | apply below_alloc | apply pw_below_drewN | apply below_drew1) | exact HB.out)))); (case aL => have := LMc112.out; omega); intro v248 w113 ho hb hg hat; rw [← Ny247.out] at ho; have n0_ := Aside0.mk (Kd.R_over' (by (with_reducible repeat (first | apply Kd.R_alloc | apply Kd.R_drewN | apply Kd.R_drew)); exact HO_5.out) (Kd.R_typed (by (with_reducible repeat (first | apply Kd.R_alloc | apply Kd.R_drewN | apply Kd.R_drew)); exact HO_8.out)) (by decide) hg); have n1_ := Aside0.mk (hb); have n2_ := Aside0.mk (ho); clear HO_5; clear HB; clear HO_8; have HO_5 := n0_; have HB := n1_; have HO249 := n2_; clear n0_ n1_ n2_; clear ho hb hg hat))
                                      go_roundg k4
                                      case measure => have := HJ2.out; have := HK2.out; have := HJ15.out; have := HK4.out; omega
                                      case rel => exact ⟨(y247), (wrap64 (x9_4 + 1)), (by first | rfl | (simp; done) | (simp [*]; done)), H', ⟨by have := HJ2.out; have := HK2.out; have := HJ15.out; have := HK4.out; omega⟩, ⟨by (with_reducible repeat (first | apply Kd.R_alloc | apply Kd.R_drewN | apply Kd.R_drew)); exact HO_5.out⟩, ⟨by (with_reducible repeat (first | apply Kd.R_alloc | apply Kd.R_drewN | apply Kd.R_drew)); exact HO249.out⟩, ⟨by repeat (first | (with_reducible first | exact HB.out | apply below_alloc | apply pw_below_drewN | apply below_drew1) | exact HB.out)⟩⟩
                                    · rw [if_neg c112] at H
                                      exact absurd H (by simp)
                                  · rw [if_neg c111] at H
                                    have c111b0 : (t246 == 0) = false := beq_eq_false_iff_ne.mpr c111
                                    have c111b1 : (t246 != 0) = true := bne_iff_ne.mpr c111
                                    by_cases c114 : x8_4.length < 140737488355328
                                    · rw [if_pos c114] at H
                                      have LMc114 := Aside0.mk c114
                                      clear c114
                                      obtain ⟨y250, hy250⟩ : ∃ y_ : List Int, y_ = (x8_4 ++ [bt (rdOf ByteArray.empty y224 x6_2) x9_4]) := ⟨_, rfl⟩
                                      replace H : (laws_FnNames.l1 k4 l1 y224 x6_2 (rdOf ByteArray.empty y224 x6_2) y250 (wrap64 (x9_4 + 1))) = some r := by first | (rw [hy250]; with_reducible exact H) | (have H2_ := (Option.bind_some _ _).symm.trans H; rw [hy250]; with_reducible exact H2_) | (have H2_ := (Option.bind_some _ _).symm.trans H; with_reducible exact H2_) | with_reducible exact H | (rw [hy250]; exact H) | exact H
                                      have Ny250 := Aside0.mk hy250
                                      clear hy250
                                      have H' := Aside0.mk H
                                      clear H
                                      have p107 : 0 ≤ (x9_4 : Int) := of_decide_eq_true (by first | (with_reducible assumption) | assumption)
                                      have q107 : x9_4 < ((rdOf ByteArray.empty y224 x6_2).size : Int) := of_decide_eq_true (by first | (with_reducible assumption) | assumption)
                                      have hx107 := bt_at (rdOf ByteArray.empty y224 x6_2) x9_4
                                      replace p107 := eq_true p107
                                      replace q107 := eq_true q107
                                      go_wp2_with (first | (go_at_call 43; (with_reducible refine (laws_at.calls _ _ l1 x9_4 2 t246 _ ?side1 ?side2 A110.out).mono ?_); (case side1 => repeat (first | exact (Kd.C_below HR1.out HB.out) | (with_reducible refine Kd.C_alloc ?_ _) | (with_reducible refine Kd.C_drewN ?_ _) | (with_reducible refine Kd.C_drew ?_))); (case side2 => exact HC1.out); rintro e w' ⟨rfl, ⟨nd, rfl⟩⟩) | ((with_reducible refine gate_builtin (b := .append) (xs := #[.tmp 113, .tmp 115]) rfl ?_); (try (refine gate_guard (by rfl) ?_; dsimp only)); at_builtin; refine Kd.R_append (Kd.int .u8) (w0 := w) w.heap.size rfl (.tmp 113) (.tmp 115) 39 5 (.int .u8 0) 1 rfl Try.underlying39 info5 rfl (by decide) (by omega) u8 x8_4 (bt (rdOf ByteArray.empty y224 x6_2) x9_4) [.int .u8 (bt (rdOf ByteArray.empty y224 x6_2) x9_4)] (fun _ => True) (fun _ => False) rfl rfl ?aP (fun _ hk => hk.elim) ?aF ?aO ?aB ?aS ?aL ?_; (case aP => exact rfl); (case aB => exact (by repeat (first | (with_reducible first | exact HB.out | apply below_alloc | apply pw_below_drewN | apply below_drew1) | exact HB.out))); (case aF => exact (fun _ _ => trivial)); (case aO => exact (by (with_reducible repeat (first | apply Kd.R_alloc | apply Kd.R_drewN | apply Kd.R_drew)); exact HO_8.out)); (case aS => exact (below_size (by repeat (first | (with_reducible first | exact HB.out | apply below_alloc | apply pw_below_drewN | apply below_drew1) | exact HB.out)))); (case aL => have := LMc114.out; omega); intro v251 w115 ho hb hg hat; rw [← Ny250.out] at ho; have n0_ := Aside0.mk (Kd.R_over' (by (with_reducible repeat (first | apply Kd.R_alloc | apply Kd.R_drewN | apply Kd.R_drew)); exact HO_5.out) (Kd.R_typed (by (with_reducible repeat (first | apply Kd.R_alloc | apply Kd.R_drewN | apply Kd.R_drew)); exact HO_8.out)) (by decide) hg); have n1_ := Aside0.mk (hb); have n2_ := Aside0.mk (ho); clear HO_5; clear HB; clear HO_8; have HO_5 := n0_; have HB := n1_; have HO252 := n2_; clear n0_ n1_ n2_; clear ho hb hg hat))
                                      go_roundg k4
                                      case measure => have := HJ2.out; have := HK2.out; have := HJ15.out; have := HK4.out; omega
                                      case rel => exact ⟨(y250), (wrap64 (x9_4 + 1)), (by first | rfl | (simp; done) | (simp [*]; done)), H', ⟨by have := HJ2.out; have := HK2.out; have := HJ15.out; have := HK4.out; omega⟩, ⟨by (with_reducible repeat (first | apply Kd.R_alloc | apply Kd.R_drewN | apply Kd.R_drew)); exact HO_5.out⟩, ⟨by (with_reducible repeat (first | apply Kd.R_alloc | apply Kd.R_drewN | apply Kd.R_drew)); exact HO252.out⟩, ⟨by repeat (first | (with_reducible first | exact HB.out | apply below_alloc | apply pw_below_drewN | apply below_drew1) | exact HB.out)⟩⟩
                                    · rw [if_neg c114] at H
                                      exact absurd H (by simp)
                                · rw [if_neg c109] at H
                                  have c109b0 : decide ((bt (rdOf ByteArray.empty y224 x6_2) x9_4) ≤ 122) = false := decide_eq_false c109
                                  clear c109
                                  by_cases c116 : x8_4.length < 140737488355328
                                  · rw [if_pos c116] at H
                                    have LMc116 := Aside0.mk c116
                                    clear c116
                                    obtain ⟨y253, hy253⟩ : ∃ y_ : List Int, y_ = (x8_4 ++ [bt (rdOf ByteArray.empty y224 x6_2) x9_4]) := ⟨_, rfl⟩
                                    replace H : (laws_FnNames.l1 k4 l1 y224 x6_2 (rdOf ByteArray.empty y224 x6_2) y253 (wrap64 (x9_4 + 1))) = some r := by first | (rw [hy253]; with_reducible exact H) | (have H2_ := (Option.bind_some _ _).symm.trans H; rw [hy253]; with_reducible exact H2_) | (have H2_ := (Option.bind_some _ _).symm.trans H; with_reducible exact H2_) | with_reducible exact H | (rw [hy253]; exact H) | exact H
                                    have Ny253 := Aside0.mk hy253
                                    clear hy253
                                    have H' := Aside0.mk H
                                    clear H
                                    have p107 : 0 ≤ (x9_4 : Int) := of_decide_eq_true (by first | (with_reducible assumption) | assumption)
                                    have q107 : x9_4 < ((rdOf ByteArray.empty y224 x6_2).size : Int) := of_decide_eq_true (by first | (with_reducible assumption) | assumption)
                                    have hx107 := bt_at (rdOf ByteArray.empty y224 x6_2) x9_4
                                    replace p107 := eq_true p107
                                    replace q107 := eq_true q107
                                    go_wp2_with (first | ((with_reducible refine gate_builtin (b := .append) (xs := #[.tmp 113, .tmp 115]) rfl ?_); (try (refine gate_guard (by rfl) ?_; dsimp only)); at_builtin; refine Kd.R_append (Kd.int .u8) (w0 := w) w.heap.size rfl (.tmp 113) (.tmp 115) 39 5 (.int .u8 0) 1 rfl Try.underlying39 info5 rfl (by decide) (by omega) u8 x8_4 (bt (rdOf ByteArray.empty y224 x6_2) x9_4) [.int .u8 (bt (rdOf ByteArray.empty y224 x6_2) x9_4)] (fun _ => True) (fun _ => False) rfl rfl ?aP (fun _ hk => hk.elim) ?aF ?aO ?aB ?aS ?aL ?_; (case aP => exact rfl); (case aB => exact (by repeat (first | (with_reducible first | exact HB.out | apply below_alloc | apply pw_below_drewN | apply below_drew1) | exact HB.out))); (case aF => exact (fun _ _ => trivial)); (case aO => exact (by (with_reducible repeat (first | apply Kd.R_alloc | apply Kd.R_drewN | apply Kd.R_drew)); exact HO_8.out)); (case aS => exact (below_size (by repeat (first | (with_reducible first | exact HB.out | apply below_alloc | apply pw_below_drewN | apply below_drew1) | exact HB.out)))); (case aL => have := LMc116.out; omega); intro v254 w117 ho hb hg hat; rw [← Ny253.out] at ho; have n0_ := Aside0.mk (Kd.R_over' (by (with_reducible repeat (first | apply Kd.R_alloc | apply Kd.R_drewN | apply Kd.R_drew)); exact HO_5.out) (Kd.R_typed (by (with_reducible repeat (first | apply Kd.R_alloc | apply Kd.R_drewN | apply Kd.R_drew)); exact HO_8.out)) (by decide) hg); have n1_ := Aside0.mk (hb); have n2_ := Aside0.mk (ho); clear HO_5; clear HB; clear HO_8; have HO_5 := n0_; have HB := n1_; have HO255 := n2_; clear n0_ n1_ n2_; clear ho hb hg hat))
                                    go_roundg k4
                                    case measure => have := HJ2.out; have := HK2.out; have := HJ15.out; have := HK4.out; omega
                                    case rel => exact ⟨(y253), (wrap64 (x9_4 + 1)), (by first | rfl | (simp; done) | (simp [*]; done)), H', ⟨by have := HJ2.out; have := HK2.out; have := HJ15.out; have := HK4.out; omega⟩, ⟨by (with_reducible repeat (first | apply Kd.R_alloc | apply Kd.R_drewN | apply Kd.R_drew)); exact HO_5.out⟩, ⟨by (with_reducible repeat (first | apply Kd.R_alloc | apply Kd.R_drewN | apply Kd.R_drew)); exact HO255.out⟩, ⟨by repeat (first | (with_reducible first | exact HB.out | apply below_alloc | apply pw_below_drewN | apply below_drew1) | exact HB.out)⟩⟩
                                  · rw [if_neg c116] at H
                                    exact absurd H (by simp)
                              · rw [if_neg c108] at H
                                have c108b0 : decide (97 ≤ (bt (rdOf ByteArray.empty y224 x6_2) x9_4)) = false := decide_eq_false c108
                                clear c108
                                by_cases c118 : x8_4.length < 140737488355328
                                · rw [if_pos c118] at H
                                  have LMc118 := Aside0.mk c118
                                  clear c118
                                  obtain ⟨y256, hy256⟩ : ∃ y_ : List Int, y_ = (x8_4 ++ [bt (rdOf ByteArray.empty y224 x6_2) x9_4]) := ⟨_, rfl⟩
                                  replace H : (laws_FnNames.l1 k4 l1 y224 x6_2 (rdOf ByteArray.empty y224 x6_2) y256 (wrap64 (x9_4 + 1))) = some r := by first | (rw [hy256]; with_reducible exact H) | (have H2_ := (Option.bind_some _ _).symm.trans H; rw [hy256]; with_reducible exact H2_) | (have H2_ := (Option.bind_some _ _).symm.trans H; with_reducible exact H2_) | with_reducible exact H | (rw [hy256]; exact H) | exact H
                                  have Ny256 := Aside0.mk hy256
                                  clear hy256
                                  have H' := Aside0.mk H
                                  clear H
                                  have p107 : 0 ≤ (x9_4 : Int) := of_decide_eq_true (by first | (with_reducible assumption) | assumption)
                                  have q107 : x9_4 < ((rdOf ByteArray.empty y224 x6_2).size : Int) := of_decide_eq_true (by first | (with_reducible assumption) | assumption)
                                  have hx107 := bt_at (rdOf ByteArray.empty y224 x6_2) x9_4
                                  replace p107 := eq_true p107
                                  replace q107 := eq_true q107
                                  go_wp2_with (first | ((with_reducible refine gate_builtin (b := .append) (xs := #[.tmp 113, .tmp 115]) rfl ?_); (try (refine gate_guard (by rfl) ?_; dsimp only)); at_builtin; refine Kd.R_append (Kd.int .u8) (w0 := w) w.heap.size rfl (.tmp 113) (.tmp 115) 39 5 (.int .u8 0) 1 rfl Try.underlying39 info5 rfl (by decide) (by omega) u8 x8_4 (bt (rdOf ByteArray.empty y224 x6_2) x9_4) [.int .u8 (bt (rdOf ByteArray.empty y224 x6_2) x9_4)] (fun _ => True) (fun _ => False) rfl rfl ?aP (fun _ hk => hk.elim) ?aF ?aO ?aB ?aS ?aL ?_; (case aP => exact rfl); (case aB => exact (by repeat (first | (with_reducible first | exact HB.out | apply below_alloc | apply pw_below_drewN | apply below_drew1) | exact HB.out))); (case aF => exact (fun _ _ => trivial)); (case aO => exact (by (with_reducible repeat (first | apply Kd.R_alloc | apply Kd.R_drewN | apply Kd.R_drew)); exact HO_8.out)); (case aS => exact (below_size (by repeat (first | (with_reducible first | exact HB.out | apply below_alloc | apply pw_below_drewN | apply below_drew1) | exact HB.out)))); (case aL => have := LMc118.out; omega); intro v257 w119 ho hb hg hat; rw [← Ny256.out] at ho; have n0_ := Aside0.mk (Kd.R_over' (by (with_reducible repeat (first | apply Kd.R_alloc | apply Kd.R_drewN | apply Kd.R_drew)); exact HO_5.out) (Kd.R_typed (by (with_reducible repeat (first | apply Kd.R_alloc | apply Kd.R_drewN | apply Kd.R_drew)); exact HO_8.out)) (by decide) hg); have n1_ := Aside0.mk (hb); have n2_ := Aside0.mk (ho); clear HO_5; clear HB; clear HO_8; have HO_5 := n0_; have HB := n1_; have HO258 := n2_; clear n0_ n1_ n2_; clear ho hb hg hat))
                                  go_roundg k4
                                  case measure => have := HJ2.out; have := HK2.out; have := HJ15.out; have := HK4.out; omega
                                  case rel => exact ⟨(y256), (wrap64 (x9_4 + 1)), (by first | rfl | (simp; done) | (simp [*]; done)), H', ⟨by have := HJ2.out; have := HK2.out; have := HJ15.out; have := HK4.out; omega⟩, ⟨by (with_reducible repeat (first | apply Kd.R_alloc | apply Kd.R_drewN | apply Kd.R_drew)); exact HO_5.out⟩, ⟨by (with_reducible repeat (first | apply Kd.R_alloc | apply Kd.R_drewN | apply Kd.R_drew)); exact HO258.out⟩, ⟨by repeat (first | (with_reducible first | exact HB.out | apply below_alloc | apply pw_below_drewN | apply below_drew1) | exact HB.out)⟩⟩
                                · rw [if_neg c118] at H
                                  exact absurd H (by simp)
                            · rw [if_neg c106] at H
                              exact absurd H (by simp)
                          · rw [if_neg c105] at H
                            have c105b0 : decide (x9_4 < ((rdOf ByteArray.empty y224 x6_2).size : Int)) = false := decide_eq_false c105
                            clear c105
                            replace H := Option.bind_eq_some_iff.mp H
                            obtain ⟨t259, A1200, H⟩ := H
                            replace H : (if t259.toList = (rdOf ByteArray.empty y224 x6_2).toList then ((impl_TagOK.f k4 (strOfNums x8_4)).bind fun t260 => (if (t260 != ((strOfNums x8_4).toList == (rdOf ByteArray.empty y224 x6_2).toList)) = true then (some false) else (laws_FnNames.l0 k4 l1 y224 (wrap64 (x6_2 + 1))))) else (some false)) = some r := H
                            have A120 := Aside0.mk A1200
                            clear A1200
                            by_cases c121 : t259.toList = (rdOf ByteArray.empty y224 x6_2).toList
                            · rw [if_pos c121] at H
                              have c121b0 : (t259.toList == (rdOf ByteArray.empty y224 x6_2).toList) = true := beq_iff_eq.mpr c121
                              have c121b1 : (t259.toList != (rdOf ByteArray.empty y224 x6_2).toList) = false := bne_eq_false_iff_eq.mpr c121
                              clear c121
                              replace H := Option.bind_eq_some_iff.mp H
                              obtain ⟨t260, A1220, H⟩ := H
                              replace H : (if (t260 != ((strOfNums x8_4).toList == (rdOf ByteArray.empty y224 x6_2).toList)) = true then (some false) else (laws_FnNames.l0 k4 l1 y224 (wrap64 (x6_2 + 1)))) = some r := H
                              have A122 := Aside0.mk A1220
                              clear A1220
                              by_cases c123 : (t260 != ((strOfNums x8_4).toList == (rdOf ByteArray.empty y224 x6_2).toList)) = true
                              · rw [if_pos c123] at H
                                have c123b0 : (t260 != ((strOfNums x8_4).toList == (rdOf ByteArray.empty y224 x6_2).toList)) = true := c123
                                (try (have c123b1 : decide (t260 = ((strOfNums x8_4).toList == (rdOf ByteArray.empty y224 x6_2).toList)) = false := by simpa using c123))
                                (try (have c123b2 : (t260 == ((strOfNums x8_4).toList == (rdOf ByteArray.empty y224 x6_2).toList)) = false := by simpa using c123))
                                (try (have c123b3 : ¬ (t260 = ((strOfNums x8_4).toList == (rdOf ByteArray.empty y224 x6_2).toList)) := by simpa using c123))
                                clear c123
                                exact absurd ((Option.some.inj H).trans HRT.out) (by decide)
                              · rw [if_neg c123] at H
                                have c123b0 : (t260 != ((strOfNums x8_4).toList == (rdOf ByteArray.empty y224 x6_2).toList)) = false := by simpa using c123
                                (try (have c123b1 : decide (t260 = ((strOfNums x8_4).toList == (rdOf ByteArray.empty y224 x6_2).toList)) = true := by simpa using c123))
                                (try (have c123b2 : (t260 == ((strOfNums x8_4).toList == (rdOf ByteArray.empty y224 x6_2).toList)) = true := by simpa using c123))
                                clear c123
                                have H' := Aside0.mk H
                                clear H
                                try go_wp2
                                have n0_ := Aside0.mk (Kd.R_drew HO_5.out)
                                have n1_ := Aside0.mk (Kd.R_drew HO_8.out)
                                have n2_ := Aside0.mk (below_drew1 HB.out)
                                clear HO_5
                                clear HO_8
                                clear HB
                                have HO_5 := n0_
                                have HO_8 := n1_
                                have HB := n2_
                                clear n0_ n1_ n2_
                                have hcv125 := own_string (P := Try.prog) Try.underlying39 Try.underlying5 Try.underlying9 (Kd.own_of_R HO_8.out)
                                refine start_ (n := 15) (S := fun w' => (convert 39 9 u8).run Try.prog w' = .ok (.string (strOfNums x8_4)) w') (ds := []) #[false, false, false, false, false, false, false, false, false, false, false, false, false, false, false] (by kernel_rfl) rfl rfl hcv125 (fun hHeld => ?_); refine with_tabW laws_FnNames.tab18 laws_FnNames.bits18 (fun HT_ HW_ => ?_)
                                generalize wr.drew = w124 at HO_5 HO_8 HB hHeld ⊢
                                refine pure_ (i := 0) (N := some 117) (v := ?_) (a' := ?_) #[true, false, false, false, false, false, false, false, false, false, false, false, false, false, false] rfl rfl (any_of HT_.out (by kernel_rfl)) (fun _ _ _ h => h) (Or.inl ⟨by rfl, ?_⟩) ?_ ?_
                                rotate_left
                                · intro w'
                                  go_simp
                                  with_reducible rfl
                                rotate_left
                                · simp only [Act.put, List.setIfInBounds_toArray, List.set_cons_zero, List.set_cons_succ, i64_w, i32_w]
                                  rfl
                                refine take_ (i := 1) (N := some 118) (v := ?_) (a' := ?_) #[true, true, false, false, false, false, false, false, false, false, false, false, false, false, false] rfl rfl (take_ofW HT_.out HW_.out (by kernel_rfl)) (fun _ _ _ h => h) (Or.inl ⟨by rfl, ?_⟩) hHeld ?_ ?_
                                rotate_left
                                · intro w' s0
                                  go_simp
                                  with_reducible rfl
                                rotate_left
                                · simp only [Act.put, List.setIfInBounds_toArray, List.set_cons_zero, List.set_cons_succ, i64_w, i32_w]
                                  rfl
                                refine pure_ (i := 3) (N := some 120) (v := ?_) (a' := ?_) #[true, true, false, true, false, false, false, false, false, false, false, false, false, false, false] rfl rfl (any_of HT_.out (by kernel_rfl)) (fun _ _ _ h => h) (Or.inl ⟨by rfl, ?_⟩) ?_ ?_
                                rotate_left
                                · intro w'
                                  go_simp
                                  with_reducible rfl
                                rotate_left
                                · simp only [Act.put, List.setIfInBounds_toArray, List.set_cons_zero, List.set_cons_succ, i64_w, i32_w]
                                  rfl
                                refine one_ (i := 2) (N := some 119) #[true, true, true, true, false, false, false, false, false, false, false, false, false, false, false] rfl rfl (one_of HT_.out (by kernel_rfl)) (by decide) (fun K hK => ?_)
                                refine goes_ Try.func44 (by kernel_rfl) rfl #[.string (strOfNums x8_4)] (by rfl) rfl rfl (by (try simp only [List.map_toArray, List.map_cons, List.map_nil]); first | done | rfl | (simp only [List.length_drop, List.length_take]; rfl)) ?_
                                with_reducible refine (impl_LowerOf.calls (strOfNums x8_4) t259 _ A120.out).mono ?_
                                rintro e w126 ⟨rfl, hb⟩
                                refine ⟨_, rfl, ?_⟩
                                have n0_ := Aside0.mk (Kd.R_below (by (with_reducible repeat (first | apply Kd.R_alloc | apply Kd.R_drewN | apply Kd.R_drew)); exact HO_5.out) hb)
                                have n1_ := Aside0.mk (Kd.R_below (by (with_reducible repeat (first | apply Kd.R_alloc | apply Kd.R_drewN | apply Kd.R_drew)); exact HO_8.out) hb)
                                have n2_ := Aside0.mk (below_step (by repeat (first | (with_reducible first | exact HB.out | apply below_alloc | apply pw_below_drewN | apply below_drew1) | exact HB.out)) hb)
                                clear HO_5
                                clear HO_8
                                clear HB
                                have HO_5 := n0_
                                have HO_8 := n1_
                                have HB := n2_
                                clear n0_ n1_ n2_
                                (try clear hb)
                                (try clear hb2)
                                (try clear hk)
                                (try clear hi)
                                have hcv127 := own_string (P := Try.prog) Try.underlying39 Try.underlying5 Try.underlying9 (Kd.own_of_R HO_8.out)
                                refine hK.out _ _ hcv127 (fun hHeld => ?_)
                                clear hK K
                                refine norm_ (a' := ?_) ?_ ?_
                                rotate_left
                                · show Act.put _ (some 119) _ = _
                                  simp only [Act.put, List.setIfInBounds_toArray, List.set_cons_zero, List.set_cons_succ, i64_w, i32_w]
                                  rfl
                                refine pure_ (i := 4) (N := some 121) (v := ?_) (a' := ?_) #[true, true, true, true, true, false, false, false, false, false, false, false, false, false, false] rfl rfl (any_of HT_.out (by kernel_rfl)) (fun _ _ _ h => h) (Or.inl ⟨by rfl, ?_⟩) ?_ ?_
                                rotate_left
                                · intro w'
                                  go_simp
                                  with_reducible rfl
                                rotate_left
                                · simp only [Act.put, List.setIfInBounds_toArray, List.set_cons_zero, List.set_cons_succ, i64_w, i32_w]
                                  rfl
                                refine pure_ (i := 5) (N := some 122) (v := ?_) (a' := ?_) #[true, true, true, true, true, true, false, false, false, false, false, false, false, false, false] rfl rfl (any_of HT_.out (by kernel_rfl)) (fun _ _ _ h => h) (Or.inl ⟨by rfl, ?_⟩) ?_ ?_
                                rotate_left
                                · intro w'
                                  go_simp
                                  with_reducible rfl
                                rotate_left
                                · simp only [Act.put, List.setIfInBounds_toArray, List.set_cons_zero, List.set_cons_succ, i64_w, i32_w]
                                  rfl
                                refine pure_ (i := 6) (N := some 123) (v := ?_) (a' := ?_) #[true, true, true, true, true, true, true, false, false, false, false, false, false, false, false] rfl rfl (any_of HT_.out (by kernel_rfl)) (fun _ _ _ h => h) (Or.inl ⟨by rfl, ?_⟩) ?_ ?_
                                rotate_left
                                · intro w'
                                  go_simp
                                  with_reducible rfl
                                rotate_left
                                · simp only [Act.put, List.setIfInBounds_toArray, List.set_cons_zero, List.set_cons_succ, i64_w, i32_w]
                                  rfl
                                refine take_ (i := 7) (N := some 124) (v := ?_) (a' := ?_) #[true, true, true, true, true, true, true, true, false, false, false, false, false, false, false] rfl rfl (take_ofW HT_.out HW_.out (by kernel_rfl)) (fun _ _ _ h => h) (Or.inl ⟨by rfl, ?_⟩) hHeld ?_ ?_
                                rotate_left
                                · intro w' s0
                                  go_simp
                                  with_reducible rfl
                                rotate_left
                                · simp only [Act.put, List.setIfInBounds_toArray, List.set_cons_zero, List.set_cons_succ, i64_w, i32_w]
                                  rfl
                                refine pure_ (i := 9) (N := some 126) (v := ?_) (a' := ?_) #[true, true, true, true, true, true, true, true, false, true, false, false, false, false, false] rfl rfl (any_of HT_.out (by kernel_rfl)) (fun _ _ _ h => h) (Or.inl ⟨by rfl, ?_⟩) ?_ ?_
                                rotate_left
                                · intro w'
                                  go_simp
                                  with_reducible rfl
                                rotate_left
                                · simp only [Act.put, List.setIfInBounds_toArray, List.set_cons_zero, List.set_cons_succ, i64_w, i32_w]
                                  rfl
                                refine take_ (i := 10) (N := some 127) (v := ?_) (a' := ?_) #[true, true, true, true, true, true, true, true, false, true, true, false, false, false, false] rfl rfl (take_ofW HT_.out HW_.out (by kernel_rfl)) (fun _ _ _ h => h) (Or.inl ⟨by rfl, ?_⟩) hHeld ?_ ?_
                                rotate_left
                                · intro w' s0
                                  go_simp
                                  with_reducible rfl
                                rotate_left
                                · simp only [Act.put, List.setIfInBounds_toArray, List.set_cons_zero, List.set_cons_succ, i64_w, i32_w]
                                  rfl
                                refine pure_ (i := 11) (N := some 128) (v := ?_) (a' := ?_) #[true, true, true, true, true, true, true, true, false, true, true, true, false, false, false] rfl rfl (any_of HT_.out (by kernel_rfl)) (fun _ _ _ h => h) (Or.inl ⟨by rfl, ?_⟩) ?_ ?_
                                rotate_left
                                · intro w'
                                  go_simp
                                  with_reducible rfl
                                rotate_left
                                · simp only [Act.put, List.setIfInBounds_toArray, List.set_cons_zero, List.set_cons_succ, i64_w, i32_w]
                                  rfl
                                refine pure_ (i := 12) (N := some 129) (v := ?_) (a' := ?_) #[true, true, true, true, true, true, true, true, false, true, true, true, true, false, false] rfl rfl (any_of HT_.out (by kernel_rfl)) (fun _ _ _ h => h) (Or.inl ⟨by rfl, ?_⟩) ?_ ?_
                                rotate_left
                                · intro w'
                                  go_simp
                                  with_reducible rfl
                                rotate_left
                                · simp only [Act.put, List.setIfInBounds_toArray, List.set_cons_zero, List.set_cons_succ, i64_w, i32_w]
                                  rfl
                                refine one_ (i := 8) (N := some 125) #[true, true, true, true, true, true, true, true, true, true, true, true, true, false, false] rfl rfl (one_of HT_.out (by kernel_rfl)) (by decide) (fun K hK => ?_)
                                refine goes_ Try.func42 (by kernel_rfl) rfl #[.string (strOfNums x8_4)] (by rfl) rfl rfl (by (try simp only [List.map_toArray, List.map_cons, List.map_nil]); first | done | rfl | (simp only [List.length_drop, List.length_take]; rfl)) ?_
                                with_reducible refine (impl_TagOK.calls k4 (strOfNums x8_4) t260 _ A122.out).mono ?_
                                rintro e w' ⟨rfl, ⟨nd, rfl⟩⟩
                                refine ⟨_, rfl, ?_⟩
                                have hcv128 := own_string (P := Try.prog) Try.underlying39 Try.underlying5 Try.underlying9 (Kd.own_of_R (Kd.R_drewN HO_8.out nd))
                                refine hK.out _ _ hcv128 (fun hHeld => ?_)
                                clear hK K
                                refine norm_ (a' := ?_) ?_ ?_
                                rotate_left
                                · show Act.put _ (some 125) _ = _
                                  simp only [Act.put, List.setIfInBounds_toArray, List.set_cons_zero, List.set_cons_succ, i64_w, i32_w]
                                  rfl
                                refine pure_ (i := 13) (N := some 130) (v := ?_) (a' := ?_) #[true, true, true, true, true, true, true, true, true, true, true, true, true, true, false] rfl rfl (any_of HT_.out (by kernel_rfl)) (fun _ _ _ h => h) (Or.inl ⟨by rfl, ?_⟩) ?_ ?_
                                rotate_left
                                · intro w'
                                  go_simp
                                  with_reducible rfl
                                rotate_left
                                · simp only [Act.put, List.setIfInBounds_toArray, List.set_cons_zero, List.set_cons_succ, i64_w, i32_w]
                                  rfl
                                refine pure_ (i := 14) (N := some 131) (v := ?_) (a' := ?_) #[true, true, true, true, true, true, true, true, true, true, true, true, true, true, true] rfl rfl (any_of HT_.out (by kernel_rfl)) (fun _ _ _ h => h) (Or.inl ⟨by rfl, ?_⟩) ?_ ?_
                                rotate_left
                                · intro w'
                                  go_simp
                                  with_reducible rfl
                                rotate_left
                                · simp only [Act.put, List.setIfInBounds_toArray, List.set_cons_zero, List.set_cons_succ, i64_w, i32_w]
                                  rfl
                                refine done_ (done_of HT_.out (by kernel_rfl)) ?_
                                try go_wp2
                                go_roundg k4
                                case measure => have := HJ2.out; have := HK2.out; have := HJ15.out; have := HK4.out; omega
                                case rel => exact ⟨(wrap64 (x6_2 + 1)), (by first | rfl | (simp; done) | (simp [*]; done)), H', ⟨by have := HJ2.out; have := HK2.out; have := HJ15.out; have := HK4.out; omega⟩, ⟨by (with_reducible repeat (first | apply Kd.R_alloc | apply Kd.R_drewN | apply Kd.R_drew)); exact HO_5.out⟩, ⟨by repeat (first | (with_reducible first | exact HB.out | apply below_alloc | apply pw_below_drewN | apply below_drew1) | exact HB.out)⟩⟩
                            · rw [if_neg c121] at H
                              have c121b0 : (t259.toList == (rdOf ByteArray.empty y224 x6_2).toList) = false := beq_eq_false_iff_ne.mpr c121
                              have c121b1 : (t259.toList != (rdOf ByteArray.empty y224 x6_2).toList) = true := bne_iff_ne.mpr c121
                              exact absurd ((Option.some.inj H).trans HRT.out) (by decide)
              · rw [if_neg c15] at H
                exact absurd H (by simp)
            · rw [if_neg c14] at H
              have c14b0 : decide (x6_2 < (y224.length : Int)) = false := decide_eq_false c14
              clear c14
              obtain rfl := Option.some.inj H
              obtain ⟨Ao130, co130, eo130⟩ := Kd.R_slice HO_5.out
              subst eo130
              go_wp2
              go_ret
              exact ⟨by first | rfl | (simp [errW_none, errW_some] <;> rfl) | (simp [*, errW_none, errW_some] <;> rfl), by repeat (first | (with_reducible first | exact HB.out | apply below_alloc | apply pw_below_drewN | apply below_drew1) | exact HB.out)⟩

/-- THE ONE PURE STATEMENT of laws_FnNames: yours. -/
def laws_FnNames.Pure : Prop := ∀ (l0 : List Int) (l1 : List Int), l0.length ≤ maxLen → l0.length * 1 ≤ 140737488351232 → (∀ x ∈ l0, (Lit.int .u8 x).wf = true) → l1.length ≤ maxLen → l1.length * 1 ≤ 140737488351232 → (∀ x ∈ l1, (Lit.int .u8 x).wf = true) → ∃ k, laws_FnNames.f k l0 l1 = some true
theorem laws_FnNames.walk (P : laws_FnNames.Pure) (a0 : Option Addr) (len0 cap0 : Nat) (z0 : List Int) (a1 : Option Addr) (len1 cap1 : Nat) (z1 : List Int) (w : World) (w0 : (a0 = none ∧ len0 = 0 ∧ cap0 = 0 ∧ z0 = []) ∨ ∃ x, a0 = some x ∧ len0 ≤ cap0 ∧ cap0 ≤ maxLen ∧ z0.length = cap0 ∧ (∀ i, i < z0.length → w.cell? (x.add i) = some (.int .u8 (z0.getD i 0))) ∧ ∀ n ∈ z0, (Lit.int .u8 n).wf = true) (y0 : len0 * 1 ≤ 140737488351232) (w1 : (a1 = none ∧ len1 = 0 ∧ cap1 = 0 ∧ z1 = []) ∨ ∃ x, a1 = some x ∧ len1 ≤ cap1 ∧ cap1 ≤ maxLen ∧ z1.length = cap1 ∧ (∀ i, i < z1.length → w.cell? (x.add i) = some (.int .u8 (z1.getD i 0))) ∧ ∀ n ∈ z1, (Lit.int .u8 n).wf = true) (y1 : len1 * 1 ≤ 140737488351232) :
    Calls Try.prog 6 #[.slice a0 len0 cap0, .slice a1 len1 cap1] w fun e w' => e = .returned (.bool true) ∧ Below w.heap.size w w' := by
  obtain ⟨l0, rfl, hr0, hm0, hw0, hc0⟩ := ReadsInt.ofRowC w0
  obtain ⟨l1, rfl, hr1, hm1, hw1, hc1⟩ := ReadsInt.ofRowC w1
  obtain ⟨k, h⟩ := P l0 l1 hm0 y0 hw0 hm1 y1 hw1
  refine (laws_FnNames.calls k _ _ l0 _ _ l1 true w (Kd.C_of_reads (d := (0 : Int)) (h1 := fun _ => rfl) hr0) hc0 (Kd.C_of_reads (d := (0 : Int)) (h1 := fun _ => rfl) hr1) hc1 h ⟨rfl⟩).mono ?_
  rintro e w' ⟨rfl, hd⟩
  exact ⟨rfl, hd⟩

end Go.Proofs.Ytophaihdibplkaa.PFnNames
