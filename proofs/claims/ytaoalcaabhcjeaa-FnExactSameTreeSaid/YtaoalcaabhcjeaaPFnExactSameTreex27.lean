/- By a program of this session, out of the kit's print and contracts made by hand: the machine side of a law; Lean checks it. No conditions. -/
import Derived.Test.YtaoalcaabhcjeaaPFnExactSameTreex0
import Derived.Test.YtaoalcaabhcjeaaPFnExactSameTreex26
namespace Go.Proofs.Ytaoalcaabhcjeaa.PFnExactSameTree
open Go.RowKit Go.Proofs.YtaoalcaabhcjeaaW.PrintWords Go.Proofs.YtaoalcaabhcjeaaW.PrintLast Go.Proofs.YtaoalcaabhcjeaaW.PrintMore
attribute [local go_sem] max2_int min2_int max_two min_two max_three min_three max_four min_four   -- for this text's walks alone
set_option linter.unusedVariables false
set_option linter.unusedSimpArgs false

/-! ### impl_TreeOK: function 35, by hand -/
def treeB (l : List S46) : Bool := (kidsI (nodeI 10) l 0).1
def impl_TreeOK.f (l0 : List S46) : Option Bool := if ∀ y ∈ l0, fitB 10 y = true then some (treeB l0) else none
theorem impl_TreeOK.fit {l0 : List S46} (h : ∀ y ∈ l0, fitB 10 y = true) : impl_TreeOK.f l0 = some (treeB l0) := by
  unfold impl_TreeOK.f
  rw [if_pos h]
set_option maxHeartbeats 1000000 in
theorem impl_TreeOK.calls (A0 : Option Addr) (c0 : Nat) (l0 : List S46) (r : Bool) (w : World) (hr0 : Kd.C k46 w A0 l0.length l0) (hc0 : l0.length ≤ c0) (h : impl_TreeOK.f l0 = some r) :
    Calls Try.prog 35 #[.slice A0 l0.length c0] w fun e w' => e = .returned (.bool r) ∧ Below w.heap.size w w' := by
  by_cases hfit : ∀ y ∈ l0, fitB 10 y = true
  case neg =>
    unfold impl_TreeOK.f at h
    rw [if_neg hfit] at h
    cases h
  case pos =>
    rw [impl_TreeOK.fit hfit] at h
    obtain rfl := Option.some.inj h
    unfold treeB
    obtain ⟨R, hR⟩ : ∃ R, kidsI (nodeI 10) l0 0 = R := ⟨_, rfl⟩
    rw [hR]
    have HR := Aside0.mk hR
    have hL : l0.length ≤ 9223372036854775807 := hr0.2.1
    have HFIT := Aside0.mk hfit
    have HR0 := Aside0.mk hr0
    clear hR h hfit hr0 hc0
    have HG0 : Aside0 ((w.alloc (.cells #[.int .i64 0] 3)).heap[w.heap.size]? = some (.cells #[.int .i64 0] 3 (0, 0))) := ⟨blk_new w _⟩
    have HB0 : Aside0 (Below w.heap.size w (w.alloc (.cells #[.int .i64 0] 3))) := ⟨below_alloc (Below.refl _ _) _⟩
    go_enter Try.func35, Try.ntmps35
    go_wp2
    go_loopg [5, 8] l0.length (fun gg _ s8 wr => ∃ (kk : Nat) (cc : Int), kk ≤ l0.length ∧ l0.length - kk ≤ gg ∧ s8 = .int .i64 kk ∧ 0 ≤ cc ∧ cc ≤ 60 ∧ Aside0 (kidsI (nodeI 10) (l0.drop kk) cc = R) ∧ Aside0 (wr.heap[w.heap.size]? = some (.cells #[.int .i64 cc] 3 (0, 0))) ∧ Aside0 (Below w.heap.size w wr))
    case atStart => exact ⟨0, 0, Nat.zero_le _, by omega, rfl, by omega, by omega, HR, HG0, HB0⟩
    case round =>
      obtain ⟨kk, cc, hkk, hgg, rfl, z0, z1, KI, HG, BW⟩ := hrel
      by_cases hlt : kk < l0.length
      case pos =>
        have hltz : (kk : Int) < (l0.length : Int) := by omega
        obtain ⟨ad, cs, e, hcl, hK, hc⟩ := Kd.C_get HR0.out z46 (kk : Int) (by omega) (by omega)
        rw [Int.toNat_natCast] at hK hc
        have hdr : l0.drop kk = l0.getD kk z46 :: l0.drop (kk + 1) := by rw [List.getD_eq_getElem?_getD, List.getElem?_eq_getElem hlt]; exact List.drop_eq_getElem_cons hlt
        have hmem : l0.getD kk z46 ∈ l0 := by rw [List.getD_eq_getElem?_getD, List.getElem?_eq_getElem hlt]; exact List.getElem_mem hlt
        have KI2 := KI.out
        rw [hdr, kidsI] at KI2
        have hky := HFIT.out _ hmem
        clear KI hdr hmem
        generalize l0.getD kk z46 = y at *
        obtain ⟨yA4, yc4, yA5, yc5, rfl, m4, q4, m5, q5⟩ := k46_open hK
        subst e
        have r0 : wr.cell? (ad.add (kk * 6)) = some (.int .i64 y.f0) := pw_cell_below BW.out (hc 0 _ rfl)
        have r1 : wr.cell? ⟨(ad.add (kk * 6)).block, (ad.add (kk * 6)).off + 1, none⟩ = some (.int .i64 y.f1) := pw_cell_below BW.out (by rw [← add_field _ _ 1 (by omega)]; exact hc 1 _ rfl)
        have r2 : wr.cell? ⟨(ad.add (kk * 6)).block, (ad.add (kk * 6)).off + 2, none⟩ = some (.string y.f2) := pw_cell_below BW.out (by rw [← add_field _ _ 2 (by omega)]; exact hc 2 _ rfl)
        have r3 : wr.cell? ⟨(ad.add (kk * 6)).block, (ad.add (kk * 6)).off + 3, none⟩ = some (.string y.f3) := pw_cell_below BW.out (by rw [← add_field _ _ 3 (by omega)]; exact hc 3 _ rfl)
        have r4 : wr.cell? ⟨(ad.add (kk * 6)).block, (ad.add (kk * 6)).off + 4, none⟩ = some (.slice yA4 y.f4.length yc4) := pw_cell_below BW.out (by rw [← add_field _ _ 4 (by omega)]; exact hc 4 _ rfl)
        have r5 : wr.cell? ⟨(ad.add (kk * 6)).block, (ad.add (kk * 6)).off + 5, none⟩ = some (.slice yA5 y.f5.length yc5) := pw_cell_below BW.out (by rw [← add_field _ _ 5 (by omega)]; exact hc 5 _ rfl)
        have QN := Aside0.mk (impl_Node_isNode.holds 10 y yA4 yc4 yA5 yc5 1 cc w (wr.alloc (.cells #[.int .i64 y.f0, .int .i64 y.f1, .string y.f2, .string y.f3, .slice yA4 y.f4.length yc4, .slice yA5 y.f5.length yc5] 46)) w.heap.size (by omega) (by omega) hky z0 z1 (below_alloc BW.out _) (Nat.le_refl _) (blk_alloc HG.out _) q4 m4 q5 m5)
        have hbd := nodeI_bd 10 y cc z0 z1
        clear hc hK hcl hky q4 q5 m4 m5
        obtain ⟨b, hb⟩ : ∃ b, (nodeI 10 y cc).1 = b := ⟨_, rfl⟩
        rw [hb] at QN hbd KI2
        generalize (nodeI 10 y cc).2 = c2 at *
        have KI3 := Aside0.mk KI2
        clear KI2 hb
        have HBD := Aside0.mk hbd
        clear hbd
        cases b with
        | false =>
          have KI4 : Aside0 ((false, c2) = R) := ⟨by have h := KI3.out; rwa [if_neg Bool.false_ne_true] at h⟩
          clear KI3 HBD
          go_wp2_with (go_at_call 53; (with_reducible refine QN.out.mono ?_); rintro e v9 ⟨rfl, hg9, hv9⟩; have HG9 := Aside0.mk hg9; have HV9 := Aside0.mk hv9; clear hg9 hv9)
          go_ret
          obtain rfl := KI4.out
          exact ⟨rfl, HV9.out⟩
        | true =>
          have KI4 : Aside0 (kidsI (nodeI 10) (l0.drop (kk + 1)) c2 = R) := ⟨by have h := KI3.out; rwa [if_pos rfl] at h⟩
          have B0 := (HBD.out rfl).1
          have B1 := (HBD.out rfl).2
          clear KI3 HBD
          go_wp2_with (go_at_call 53; (with_reducible refine QN.out.mono ?_); rintro e v9 ⟨rfl, hg9, hv9⟩; have HG9 := Aside0.mk hg9; have HV9 := Aside0.mk hv9; clear hg9 hv9)
          go_roundg (l0.length - (kk + 1))
          case measure => omega
          case rel => exact ⟨kk + 1, c2, by omega, by omega, by go_num, B0, B1, KI4, HG9, HV9⟩
      case neg =>
        have hltz : ¬ (kk : Int) < (l0.length : Int) := by omega
        have KI2 := KI.out
        rw [List.drop_eq_nil_of_le (by omega), kidsI] at KI2
        have KI3 := Aside0.mk KI2
        clear KI2
        go_wp2
        go_ret
        obtain rfl := KI3.out
        exact ⟨rfl, BW.out⟩


/-! ### EqualFunc_Node: function 54, by hand -/
set_option maxHeartbeats 1000000 in
/-- slices.EqualFunc at this type, whatever the relation. -/
theorem EqualFunc_Node.holds (A1 A2 : Option Addr) (n1 c1 n2 c2 : Nat) (v1 v2 : Nat → List Value) (p : Nat → Bool) (g : Nat) (lb : Array Value) (eg : ∀ args w, (callFunc g args).run Try.prog w = .ok (.enter g args) w) (w : World)
    (hp : ∀ j, j < n1 → j < n2 → ∀ W, Below w.heap.size w W → Calls Try.prog g (#[.agg (v1 j).toArray, .agg (v2 j).toArray] ++ lb) W fun e w' => e = .returned (.bool (p j)) ∧ Below w.heap.size w w')
    (hbig1 : n1 ≤ 9223372036854775807) (hbig2 : n2 ≤ 9223372036854775807)
    (hc1 : ∀ j, j < n1 → ∃ ad, A1 = some ad ∧ (∃ a b s t A n c B m d, v1 j = [.int .i64 a, .int .i64 b, .string s, .string t, .slice A n c, .slice B m d]) ∧ ∀ i u, (v1 j)[i]? = some u → w.cell? (ad.add (j * 6 + i)) = some u)
    (hc2 : ∀ j, j < n2 → ∃ ad, A2 = some ad ∧ (∃ a b s t A n c B m d, v2 j = [.int .i64 a, .int .i64 b, .string s, .string t, .slice A n c, .slice B m d]) ∧ ∀ i u, (v2 j)[i]? = some u → w.cell? (ad.add (j * 6 + i)) = some u) :
    Calls Try.prog 54 #[.slice A1 n1 c1, .slice A2 n2 c2, .func (.func g) #[] lb] w fun e w' => e = .returned (.bool (decide (n1 = n2) && Mach.allP p n1)) ∧ Below w.heap.size w w' := by
  have HC1 := Aside0.mk hc1
  have HC2 := Aside0.mk hc2
  have HP := Aside0.mk hp
  clear hc1 hc2 hp
  by_cases hn : n1 = n2
  case neg =>
    rw [decide_eq_false hn, Bool.false_and]
    have hz : ((n1 : Int) == (n2 : Int)) = false := by simpa using fun h => hn (by omega)
    go_enter Try.func54, Try.ntmps54
    go_wp2
    go_ret
    exact ⟨rfl, Below.refl _ _⟩
  case pos =>
    subst hn
    rw [decide_eq_true rfl, Bool.true_and]
    go_enter Try.func54, Try.ntmps54
    go_wp2
    go_loopg [7, 8, 9, 17] n1 (fun gg _ _ _ s17 wr => ∃ kk : Nat, kk ≤ n1 ∧ n1 - kk ≤ gg ∧ s17 = .int .i64 kk ∧ Aside0 (Below w.heap.size w wr) ∧ Aside0 (∀ j, j < kk → p j = true))
    case atStart => exact ⟨0, Nat.zero_le _, by omega, rfl, ⟨Below.refl _ w⟩, ⟨fun j hj => absurd hj (Nat.not_lt_zero _)⟩⟩
    case round =>
      obtain ⟨kk, hkk, hg, rfl, BW, AA⟩ := hrel
      by_cases hlt : kk < n1
      · have hltz : (kk : Int) < (n1 : Int) := by omega
        obtain ⟨ad, e, ⟨xa, xb, xs, xt, xA, xn, xc, xB, xm, xd, hv⟩, l1⟩ := HC1.out kk hlt
        cases e
        obtain ⟨bd, e2, ⟨ya, yb, ys, yt, yA, yn, yc, yB, ym, yd, hu⟩, l2⟩ := HC2.out kk hlt
        cases e2
        have m0 := pw_cell_below BW.out (l1 0 (.int .i64 xa) (by rw [hv]; rfl))
        rw [Nat.add_zero] at m0
        have m1 := pw_cell_below BW.out (l1 1 (.int .i64 xb) (by rw [hv]; rfl))
        rw [add_field _ _ 1 (by omega)] at m1
        have m2 := pw_cell_below BW.out (l1 2 (.string xs) (by rw [hv]; rfl))
        rw [add_field _ _ 2 (by omega)] at m2
        have m3 := pw_cell_below BW.out (l1 3 (.string xt) (by rw [hv]; rfl))
        rw [add_field _ _ 3 (by omega)] at m3
        have m4 := pw_cell_below BW.out (l1 4 (.slice xA xn xc) (by rw [hv]; rfl))
        rw [add_field _ _ 4 (by omega)] at m4
        have m5 := pw_cell_below BW.out (l1 5 (.slice xB xm xd) (by rw [hv]; rfl))
        rw [add_field _ _ 5 (by omega)] at m5
        have hba := below_alloc (Below.refl wr.heap.size wr) (.cells #[.int .i64 xa, .int .i64 xb, .string xs, .string xt, .slice xA xn xc, .slice xB xm xd] 46)
        have k0 := pw_cell_below hba (pw_cell_below BW.out (l2 0 (.int .i64 ya) (by rw [hu]; rfl)))
        rw [Nat.add_zero] at k0
        have k1 := pw_cell_below hba (pw_cell_below BW.out (l2 1 (.int .i64 yb) (by rw [hu]; rfl)))
        rw [add_field _ _ 1 (by omega)] at k1
        have k2 := pw_cell_below hba (pw_cell_below BW.out (l2 2 (.string ys) (by rw [hu]; rfl)))
        rw [add_field _ _ 2 (by omega)] at k2
        have k3 := pw_cell_below hba (pw_cell_below BW.out (l2 3 (.string yt) (by rw [hu]; rfl)))
        rw [add_field _ _ 3 (by omega)] at k3
        have k4 := pw_cell_below hba (pw_cell_below BW.out (l2 4 (.slice yA yn yc) (by rw [hu]; rfl)))
        rw [add_field _ _ 4 (by omega)] at k4
        have k5 := pw_cell_below hba (pw_cell_below BW.out (l2 5 (.slice yB ym yd) (by rw [hu]; rfl)))
        rw [add_field _ _ 5 (by omega)] at k5
        have hbb := BW.out.trans ((below_alloc hba (.cells #[.int .i64 ya, .int .i64 yb, .string ys, .string yt, .slice yA yn yc, .slice yB ym yd] 46)).mono BW.out.size)
        have hcall := HP.out kk hlt hlt _ hbb
        clear l1 l2 hba hbb
        rw [hv, hu] at hcall
        clear hv hu
        cases hq : p kk with
        | false =>
          rw [hq] at hcall
          go_wp2_with ((with_reducible refine hcall.mono ?_); rintro e w' ⟨rfl, hb'⟩)
          go_ret
          refine ⟨?_, hb'⟩
          rw [Mach.allP_false hlt hq]
          rfl
        | true =>
          rw [hq] at hcall
          go_wp2_with ((with_reducible refine hcall.mono ?_); rintro e w' ⟨rfl, hb'⟩)
          go_roundg (n1 - (kk + 1))
          case measure => omega
          case rel =>
            refine ⟨kk + 1, by omega, by omega, by go_num, ⟨hb'⟩, ⟨fun j hj => ?_⟩⟩
            by_cases e : j = kk
            · subst e; exact hq
            · exact AA.out j (by omega)
      · have hltz : ¬ (kk : Int) < (n1 : Int) := by omega
        have : kk = n1 := by omega
        subst this
        go_wp2
        go_ret
        refine ⟨?_, BW.out⟩
        rw [Mach.allP_true AA.out]
        rfl


end Go.Proofs.Ytaoalcaabhcjeaa.PFnExactSameTree
