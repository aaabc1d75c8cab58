/- By a program of this session, out of the kit's print and contracts made by hand: the machine side of a law; Lean checks it. No conditions. -/
import Derived.Test.YtlhhcbhmnmndiaaPFnExactNamesInx0
import Derived.Test.YtlhhcbhmnmndiaaPFnExactNamesInx7
import Derived.Test.YtlhhcbhmnmndiaaPFnExactNamesInx10
namespace Go.Proofs.Ytlhhcbhmnmndiaa.PFnExactNamesIn
open Go.RowKit Go.Proofs.YtlhhcbhmnmndiaaW.PrintWords Go.Proofs.YtlhhcbhmnmndiaaW.PrintLast Go.Proofs.YtlhhcbhmnmndiaaW.PrintMore
attribute [local go_sem] max2_int min2_int max_two min_two max_three min_three max_four min_four   -- for this text's walks alone
set_option linter.unusedVariables false
set_option linter.unusedSimpArgs false

/-! ### spec_NamesIn: function 7, by hand -/
-- also 39
-- also 24
mutual
def spec_l03Names.l0 : Nat → List S49 → List ByteArray → Int → Option (List ByteArray)
  | 0, _, _, _ => none
  | k + 1, l0, xs, i => if i < (l0.length : Int) then (if 0 ≤ i then (if (rd_T49 l0 i).f0 = 1 then (spec_l01Has.f k xs (rd_T49 l0 i).f2).bind fun b => (if b = true then some xs else if xs.length < 8000000000000 then some (xs ++ [(rd_T49 l0 i).f2]) else none) else some xs).bind fun ys => (spec_l03Names.f k (rd_T49 l0 i).f5 ys).bind fun zs => spec_l03Names.l0 k l0 zs (wrap64 (i + 1)) else none) else some xs
def spec_l03Names.f : Nat → List S49 → List ByteArray → Option (List ByteArray)
  | 0, _, _ => none
  | k + 1, l0, xs => spec_l03Names.l0 k l0 xs 0
end
theorem infoStr2 : (Try.prog.info? 9).map (fun i => (i.zero, i.size, i.bytes)) = some (some (.string ⟨#[]⟩), 1, 16) := by kernel_rfl
abbrev l03NamesC (k : Nat) : Prop := ∀ (A : Option Addr) (c : Nat) (l0 : List S49) (v : Value) (xs r : List ByteArray) (w0 w : World), Below w0.heap.size w0 w → Kd.C k49 w0 A l0.length l0 → l0.length ≤ c → Kd.R Kd.string 9 w w0.heap.size (fun _ => True) v xs → spec_l03Names.f k l0 xs = some r →
  Calls Try.prog 25 #[.slice A l0.length c, v] w fun e w' => ∃ v', e = .returned v' ∧ Kd.R Kd.string 9 w' w0.heap.size (fun _ => True) v' r ∧ Below w0.heap.size w0 w'
set_option maxHeartbeats 16000000 in
set_option maxRecDepth 1000000 in
theorem l03Names_step (k : Nat) (ih : ∀ j, j < k → l03NamesC j) : l03NamesC k := by
  intro A c l0 v xs r w0 w hB hC hc hR h
  cases k with
  | zero => exact absurd h (by simp [spec_l03Names.f])
  | succ k =>
  simp only [spec_l03Names.f] at h
  have H' := Aside0.mk h
  have HC := Aside0.mk hC
  have HR := Aside0.mk hR
  have HB := Aside0.mk hB
  have IH := Aside0.mk ih
  have hmax : l0.length ≤ 9223372036854775807 := hC.2.1
  have HX := Aside0.mk hmax
  clear h hC hR hB ih hmax
  go_enter Try.func25, Try.ntmps25
  go_wp2
  go_loopg [1, 5] k (fun kq v1 v5 w' => ∃ (x0 : List ByteArray) (v0 : Value) (i : Int), v1 = v0 ∧ v5 = .int .i64 i ∧ Aside0 (spec_l03Names.l0 kq l0 x0 i = some r) ∧ Aside0 (kq ≤ k) ∧ Aside0 (Kd.R Kd.string 9 w' w0.heap.size (fun _ => True) v0 x0) ∧ Aside0 (Below w0.heap.size w0 w'))
  case atStart => exact ⟨xs, v, 0, rfl, rfl, H', ⟨Nat.le_refl _⟩, HR, HB⟩
  case round =>
    clear H' HR HB
    obtain ⟨x0, v0, i, rfl, rfl, HA, HK1, HR, HB⟩ := hrel
    cases gk with
    | zero => exact absurd HA.out (by simp [spec_l03Names.l0])
    | succ k1 =>
      have H := HA.out
      clear HA
      simp only [spec_l03Names.l0] at H
      obtain ⟨A1, c1, rfl⟩ := Kd.R_slice HR.out
      by_cases c3 : i < (l0.length : Int)
      · rw [if_pos c3] at H
        obtain ⟨c5, H⟩ := Option.ite_none_right_eq_some.mp H
        have z3 : decide (i < (l0.length : Int)) = true := decide_eq_true c3
        have z5 : decide (0 ≤ i) = true := decide_eq_true c5
        obtain ⟨ad, Ar, cr, As, cs, e0, q0, q1, q2, q3, q4, q5, m4, g4, m5, g5⟩ := at_T49 HC.out i c5 c3
        subst e0
        have hq5 := Aside0.mk q5
        replace q0 := pw_cell_below HB.out q0
        replace q2 := pw_cell_below HB.out q2
        replace q5 := pw_cell_below HB.out q5
        have hq2 := Aside0.mk q2
        clear q1 q3 q4 m4 g4
        obtain ⟨x, hx⟩ : ∃ x, rd_T49 l0 i = x := ⟨_, rfl⟩
        rw [hx] at H q0 q2 hq5 q5 hq2 m5 g5
        have HC5 := Aside0.mk g5
        have HL5 := Aside0.mk m5
        have p3 := eq_true c3
        have p5 := eq_true c5
        clear hx c3 c5 m5 g5
        obtain ⟨ys, hys, H⟩ := Option.bind_eq_some_iff.mp H
        obtain ⟨zs, hzs, H⟩ := Option.bind_eq_some_iff.mp H
        have HZ := Aside0.mk hzs
        have H' := Aside0.mk H
        clear hzs H
        by_cases h1 : x.f0 = 1
        case neg =>
          rw [if_neg h1] at hys
          obtain rfl := Option.some.inj hys
          have z1 : (x.f0 == 1) = false := by simpa using h1
          clear h1 hys
          go_wp2_with (first | (go_at_call 25; (with_reducible refine (IH.out k1 (by have := HK1.out; omega) _ _ _ _ _ zs w0 _ HB.out HC5.out HL5.out HR.out HZ.out).mono ?_); rintro e w5 ⟨v5, rfl, hr, hb⟩; (have HR5 := Aside0.mk hr); (have HB5 := Aside0.mk hb); clear hr hb))
          go_roundg k1
          case measure => have := HK1.out; omega
          case rel => exact ⟨zs, v5, wrap64 (i + 1), rfl, rfl, H', ⟨by have := HK1.out; omega⟩, HR5, HB5⟩

        rw [if_pos h1] at hys
        have z1 : (x.f0 == 1) = true := by simpa using h1
        obtain ⟨b, hb0, hys⟩ := Option.bind_eq_some_iff.mp hys
        have QH : Aside0 (∀ W, Below w0.heap.size w0 W → Kd.R Kd.string 9 W w0.heap.size (fun _ => True) (.slice A1 x0.length c1) x0 → Calls Try.prog 39 #[.slice A1 x0.length c1, .string x.f2] W fun e w' => e = .returned (.bool b) ∧ Drawn0 W w') := ⟨fun W _ hR => spec_l01Has.calls k1 A1 c1 x0 x.f2 b W (Kd.R_reads' hR).2.2 (Kd.R_reads' hR).2.1 hb0⟩
        clear hb0 h1
        cases b with
        | true =>
          rw [if_pos rfl] at hys
          obtain rfl := Option.some.inj hys
          clear hys
          go_wp2_with (first | (go_at_call 39; (with_reducible refine (QH.out _ HB.out HR.out).mono ?_); rintro e w2 ⟨rfl, ⟨nd, rfl⟩⟩; (have HR2 := Aside0.mk (Kd.R_drewN HR.out nd)); (have HB2 := Aside0.mk (pw_below_drewN HB.out nd)); clear HR HB) | (go_at_call 25; (with_reducible refine (IH.out k1 (by have := HK1.out; omega) _ _ _ _ _ zs w0 _ HB2.out HC5.out HL5.out HR2.out HZ.out).mono ?_); rintro e w5 ⟨v5, rfl, hr, hb⟩; (have HR5 := Aside0.mk hr); (have HB5 := Aside0.mk hb); clear hr hb))
          go_roundg k1
          case measure => have := HK1.out; omega
          case rel => exact ⟨zs, v5, wrap64 (i + 1), rfl, rfl, H', ⟨by have := HK1.out; omega⟩, HR5, HB5⟩

        | false =>
          rw [if_neg Bool.false_ne_true] at hys
          obtain ⟨hf, hys⟩ := Option.ite_none_right_eq_some.mp hys
          obtain rfl := Option.some.inj hys
          have HFEW := Aside0.mk hf
          clear hys hf
          go_wp2_with (first | (go_at_call 39; (with_reducible refine (QH.out _ HB.out HR.out).mono ?_); rintro e w2 ⟨rfl, ⟨nd, rfl⟩⟩) | ((with_reducible refine gate_builtin (b := .append) (xs := #[.tmp 28, .tmp 34]) rfl ?_); at_builtin; refine Kd.R_append Kd.string (w0 := w0) w0.heap.size rfl (.tmp 28) (.tmp 34) 24 9 (.string ⟨#[]⟩) 16 rfl Try.underlying24 infoStr2 rfl (by decide) (by omega) (.slice A1 x0.length c1) x0 x.f2 [.string x.f2] (fun _ => True) (fun _ => False) rfl ?hx ?aP (fun _ hk => hk.elim) (fun _ _ => trivial) ?aO ?aB ?aS ?aL ?_; (case hx => first | rfl | (go_simp; done) | (simp; done) | (go_simp; rfl)); (case aP => exact rfl); (case aO => exact Kd.R_drewN HR.out _); (case aB => exact pw_below_drewN HB.out _); (case aS => exact HB.out.size); (case aL => have := HFEW.out; omega); intro v4 w4 ho hb _ _; obtain ⟨A4, c4, rfl⟩ := Kd.R_slice ho; (have HR4 : Aside0 (Kd.R Kd.string 9 w4 w0.heap.size (fun _ => True) (.slice A4 (x0.length + 1) c4) (x0 ++ [x.f2])) := ⟨by rw [List.length_append] at ho; exact ho⟩); (have HB4 := Aside0.mk hb); (have q5' := pw_cell_below hb hq5.out); clear ho hb HR HB) | (go_at_call 25; (with_reducible refine (IH.out k1 (by have := HK1.out; omega) _ _ _ _ _ zs w0 _ HB4.out HC5.out HL5.out HR4.out HZ.out).mono ?_); rintro e w5 ⟨v5, rfl, hr, hb⟩; (have HR5 := Aside0.mk hr); (have HB5 := Aside0.mk hb); clear hr hb))
          go_roundg k1
          case measure => have := HK1.out; omega
          case rel => exact ⟨zs, v5, wrap64 (i + 1), rfl, rfl, H', ⟨by have := HK1.out; omega⟩, HR5, HB5⟩

      · rw [if_neg c3] at H
        have z3 : decide (i < (l0.length : Int)) = false := decide_eq_false c3
        clear c3
        obtain rfl := Option.some.inj H
        go_wp2
        go_ret
        exact ⟨_, rfl, HR.out, HB.out⟩
theorem spec_l03Names.calls (k : Nat) : l03NamesC k := by
  induction k using Nat.strongRecOn with
  | _ k ih => exact l03Names_step k ih
def spec_NamesIn.f (k : Nat) (l0 : List S49) : Option (List ByteArray × Int) := if 4096 < l0.length then some ([], 2) else (spec_l03Ask.f k l0).bind fun c => if c = 0 then (spec_l03Names.f k l0 []).bind fun r => some (r, 0) else some ([], c)
set_option maxHeartbeats 8000000 in
theorem spec_NamesIn.calls (k : Nat) (A0 : Option Addr) (c0 : Nat) (l0 : List S49) (r1 : List ByteArray) (r2 : Int) (w : World) (hr0 : Kd.C k49 w A0 l0.length l0) (hc0 : l0.length ≤ c0) (h : spec_NamesIn.f k l0 = some (r1, r2)) :
    Calls Try.prog 7 #[.slice A0 l0.length c0] w fun e w' => ∃ v, e = .returned (.tuple #[v, .int .i64 r2]) ∧ Kd.R Kd.string 9 w' w.heap.size (fun _ => True) v r1 ∧ Below w.heap.size w w' := by
  unfold spec_NamesIn.f at h
  have HB0 := Aside0.mk (Below.refl w.heap.size w)
  by_cases h4 : 4096 < l0.length
  · rw [if_pos h4] at h
    obtain ⟨rfl, rfl⟩ := Prod.mk.inj (Option.some.inj h)
    have z1 : decide ((l0.length : Int) > 4096) = true := decide_eq_true (by omega)
    clear h h4 hr0 hc0
    generalize l0.length = n0 at *
    go_enter Try.func7, Try.ntmps7
    go_wp2_with (first | ((with_reducible refine gate_dst (N := 8) rfl ?_); refine Kd.R_lit Kd.string (w0 := w) w.heap.size 9 ?hg (N := 8) ?hd (xs := ([] : List ByteArray)) (inner := []) (ok := fun _ => True) (okp := fun _ => True) ?hr ?hp (fun _ hk => hk) trivial HB0.out (HB0.out).size (by simp) ?_; (case hd => rfl); (case hg => rfl); (case hr => first | (go_simp; done) | (go_simp; rfl)); (case hp => exact (Reps.none _ _)); intro v2 w2 ho hb _ _; obtain ⟨A2, c2, rfl⟩ := Kd.R_slice ho; (have HR2 : Aside0 (Kd.R Kd.string 9 w2 w.heap.size (fun _ => True) (.slice A2 0 c2) []) := ⟨ho⟩); (have HB2 := Aside0.mk hb); clear ho hb))
    go_ret2
    exact ⟨_, rfl, HR2.out, HB2.out⟩
  rw [if_neg h4] at h
  have z1 : decide ((l0.length : Int) > 4096) = false := decide_eq_false (by omega)
  obtain ⟨cd, hcd, h⟩ := Option.bind_eq_some_iff.mp h
  have QA := Aside0.mk (spec_l03Ask.calls k A0 c0 l0 cd w hr0 hc0 hcd)
  by_cases hz : cd = 0
  case neg =>
    rw [if_neg hz] at h
    obtain ⟨rfl, rfl⟩ := Prod.mk.inj (Option.some.inj h)
    have hz1 : (cd == 0) = false := by simpa using hz
    have hz2 : (cd != 0) = true := by simpa using hz
    clear h hcd hr0 hc0 h4
    generalize l0.length = n0 at *
    go_enter Try.func7, Try.ntmps7
    go_wp2_with (first | (go_at_call 24; (with_reducible refine QA.out.mono ?_); rintro e w1 ⟨rfl, hb⟩; (have HB1 := Aside0.mk hb); clear hb) | ((with_reducible refine gate_dst (N := 13) rfl ?_); refine Kd.R_lit Kd.string (w0 := w) w.heap.size 9 ?hg (N := 13) ?hd (xs := ([] : List ByteArray)) (inner := []) (ok := fun _ => True) (okp := fun _ => True) ?hr ?hp (fun _ hk => hk) trivial HB1.out (HB1.out).size (by simp) ?_; (case hd => rfl); (case hg => rfl); (case hr => first | (go_simp; done) | (go_simp; rfl)); (case hp => exact (Reps.none _ _)); intro v2 w2 ho hb _ _; obtain ⟨A2, c2, rfl⟩ := Kd.R_slice ho; (have HR2 : Aside0 (Kd.R Kd.string 9 w2 w.heap.size (fun _ => True) (.slice A2 0 c2) []) := ⟨ho⟩); (have HB2 := Aside0.mk hb); clear ho hb))
    go_ret2
    exact ⟨_, rfl, HR2.out, HB2.out⟩
  subst hz
  rw [if_pos rfl] at h
  obtain ⟨r, hr, h⟩ := Option.bind_eq_some_iff.mp h
  obtain ⟨rfl, rfl⟩ := Prod.mk.inj (Option.some.inj h)
  have QN : Aside0 (∀ V A c, Below w.heap.size w V → Kd.R Kd.string 9 V w.heap.size (fun _ => True) (.slice A 0 c) [] → Calls Try.prog 25 #[.slice A0 l0.length c0, .slice A 0 c] V fun e w' => ∃ v', e = .returned v' ∧ Kd.R Kd.string 9 w' w.heap.size (fun _ => True) v' r ∧ Below w.heap.size w w') := ⟨fun V A c hV hR => spec_l03Names.calls k A0 c0 l0 _ [] r w V hV hr0 hc0 hR hr⟩
  clear h hcd hr0 hc0 h4 hr
  generalize l0.length = n0 at *
  go_enter Try.func7, Try.ntmps7
  go_wp2_with (first | (go_at_call 24; (with_reducible refine QA.out.mono ?_); rintro e w1 ⟨rfl, hb⟩; (have HB1 := Aside0.mk hb); clear hb) | ((with_reducible refine gate_dst (N := 16) rfl ?_); refine Kd.R_lit Kd.string (w0 := w) w.heap.size 9 ?hg (N := 16) ?hd (xs := ([] : List ByteArray)) (inner := []) (ok := fun _ => True) (okp := fun _ => True) ?hr ?hp (fun _ hk => hk) trivial HB1.out (HB1.out).size (by simp) ?_; (case hd => rfl); (case hg => rfl); (case hr => first | (go_simp; done) | (go_simp; rfl)); (case hp => exact (Reps.none _ _)); intro v2 w2 ho hb _ _; obtain ⟨A2, c2, rfl⟩ := Kd.R_slice ho; (have HR2 : Aside0 (Kd.R Kd.string 9 w2 w.heap.size (fun _ => True) (.slice A2 0 c2) []) := ⟨ho⟩); (have HB2 := Aside0.mk hb); clear ho hb) | (go_at_call 25; (with_reducible refine (QN.out w2 A2 c2 HB2.out HR2.out).mono ?_); rintro e w3 ⟨v3, rfl, hr3, hb3⟩; (have HR3 := Aside0.mk hr3); (have HB3 := Aside0.mk hb3); clear hr3 hb3))
  go_ret2
  exact ⟨_, rfl, HR3.out, HB3.out⟩


/-! ### laws_toAttr: function 52 -/
def laws_toAttr.f (a0_0 : ByteArray) (a0_1 : ByteArray) : Option (ByteArray × ByteArray) := some (a0_0, a0_1)
set_option maxHeartbeats 8000000 in
set_option maxRecDepth 100000 in
theorem laws_toAttr.calls (a0_0 : ByteArray) (a0_1 : ByteArray) (r1 : ByteArray) (r2 : ByteArray) (w : World) (h : laws_toAttr.f a0_0 a0_1 = some (r1, r2)) :
    Calls Try.prog 52 #[.agg #[.string a0_0, .string a0_1]] w fun e w' => e = .returned (.agg #[.string r1, .string r2]) ∧ Below w.heap.size w w' := by
  have hu73 := Try.underlying73
  have hu68 := Try.underlying68
  have HB := Aside0.mk (Below.refl w.heap.size w)
  have H : (some (a0_0, a0_1)) = some (r1, r2) := h
  clear h
  simp only [Option.some.injEq, Prod.mk.injEq] at H
  obtain ⟨rfl, rfl⟩ := H
  go_enter Try.func52, Try.ntmps52
  go_wp2_with (first | ((with_reducible refine gate_dst (N := 1) rfl ?_); refine box_event ?hg (N := 1) ?hd (cs := #[.string a0_0, .string a0_1]) (t := 73) ?hr ?_; (case hd => rfl); (case hg => rfl); (case hr => first | (go_simp; done) | (go_simp; rfl)); intro gb164 hg w2 hbox hb; have n0_ := Aside0.mk (below_step (by repeat (first | (with_reducible first | exact HB.out | apply below_alloc | apply pw_below_drewN | apply below_drew1) | exact HB.out)) hb); have n1_ := Aside0.mk (hbox); have n2_ := Aside0.mk ((by rw [hg]; exact (below_size (by repeat (first | (with_reducible first | exact HB.out | apply below_alloc | apply pw_below_drewN | apply below_drew1) | exact HB.out))) : w.heap.size ≤ gb164)); have n3_ := Aside0.mk ((by rw [hg]; exact (below_size (by repeat (first | (with_reducible first | exact HB.out | apply below_alloc | apply pw_below_drewN | apply below_drew1) | exact HB.out))) : w.heap.size ≤ gb164)); clear HB; have HB := n0_; have BK164 := n1_; have GW164 := n2_; have GE164 := n3_; clear n0_ n1_ n2_ n3_; clear hb hbox hg) | ((with_reducible refine gate_dst (N := 2) rfl ?_); refine box_event ?hg (N := 2) ?hd (cs := #[.string (⟨#[]⟩ : ByteArray), .string (⟨#[]⟩ : ByteArray)]) (t := 68) ?hr ?_; (case hd => rfl); (case hg => rfl); (case hr => first | (go_simp; done) | (go_simp; rfl)); intro gb165 hg w3 hbox hb; have n0_ := Aside0.mk (blk_below (g := gb164) (o := .cells #[.string a0_0, .string a0_1] 73 (0, 0)) (by (with_reducible repeat (first | refine blk_drewN ?_ _ | refine blk_drew ?_ | refine blk_alloc ?_ _)); exact BK164.out) hb); have n1_ := Aside0.mk (below_step (by repeat (first | (with_reducible first | exact HB.out | apply below_alloc | apply pw_below_drewN | apply below_drew1 | refine below_set ?_ GE164.out) | exact HB.out)) hb); have n2_ := Aside0.mk (hbox); have n3_ := Aside0.mk ((by rw [hg]; exact (below_size (by repeat (first | (with_reducible first | exact HB.out | apply below_alloc | apply pw_below_drewN | apply below_drew1 | refine below_set ?_ GE164.out) | exact HB.out))) : w.heap.size ≤ gb165)); have n4_ := Aside0.mk ((by rw [hg]; exact (below_size (by repeat (first | (with_reducible first | exact HB.out | apply below_alloc | apply pw_below_drewN | apply below_drew1 | refine below_set ?_ GE164.out) | exact HB.out))) : w.heap.size ≤ gb165)); have n5_ := Aside0.mk ((by rw [hg]; exact Nat.ne_of_lt (blk_lt (g := gb164) (o := .cells #[.string a0_0, .string a0_1] 73 (0, 0)) (by (with_reducible repeat (first | refine blk_drewN ?_ _ | refine blk_drew ?_ | refine blk_alloc ?_ _)); exact BK164.out)) : gb164 ≠ gb165)); have n6_ := Aside0.mk ((by rw [hg]; exact Nat.ne_of_gt (blk_lt (g := gb164) (o := .cells #[.string a0_0, .string a0_1] 73 (0, 0)) (by (with_reducible repeat (first | refine blk_drewN ?_ _ | refine blk_drew ?_ | refine blk_alloc ?_ _)); exact BK164.out)) : gb165 ≠ gb164)); clear BK164; clear HB; have BK164 := n0_; have HB := n1_; have BK165 := n2_; have GW165 := n3_; have GE165 := n4_; have NB164_165 := n5_; have NB165_164 := n6_; clear n0_ n1_ n2_ n3_ n4_ n5_ n6_; clear hb hbox hg) | ((with_reducible refine gate_dst (N := 3) rfl ?_); refine box_event ?hg (N := 3) ?hd (cs := #[.string (⟨#[]⟩ : ByteArray), .string (⟨#[]⟩ : ByteArray)]) (t := 68) ?hr ?_; (case hd => rfl); (case hg => rfl); (case hr => first | (go_simp; done) | (go_simp; rfl)); intro gb166 hg w4 hbox hb; have n0_ := Aside0.mk (blk_below (g := gb164) (o := .cells #[.string a0_0, .string a0_1] 73 (0, 0)) (by (with_reducible repeat (first | refine blk_drewN ?_ _ | refine blk_drew ?_ | refine blk_alloc ?_ _)); exact BK164.out) hb); have n1_ := Aside0.mk (blk_below (g := gb165) (o := .cells #[.string (⟨#[]⟩ : ByteArray), .string (⟨#[]⟩ : ByteArray)] 68 (0, 0)) (by (with_reducible repeat (first | refine blk_drewN ?_ _ | refine blk_drew ?_ | refine blk_alloc ?_ _)); exact BK165.out) hb); have n2_ := Aside0.mk (below_step (by repeat (first | (with_reducible first | exact HB.out | apply below_alloc | apply pw_below_drewN | apply below_drew1 | refine below_set ?_ GE164.out | refine below_set ?_ GE165.out) | exact HB.out)) hb); have n3_ := Aside0.mk (hbox); have n4_ := Aside0.mk ((by rw [hg]; exact (below_size (by repeat (first | (with_reducible first | exact HB.out | apply below_alloc | apply pw_below_drewN | apply below_drew1 | refine below_set ?_ GE164.out | refine below_set ?_ GE165.out) | exact HB.out))) : w.heap.size ≤ gb166)); have n5_ := Aside0.mk ((by rw [hg]; exact (below_size (by repeat (first | (with_reducible first | exact HB.out | apply below_alloc | apply pw_below_drewN | apply below_drew1 | refine below_set ?_ GE164.out | refine below_set ?_ GE165.out) | exact HB.out))) : w.heap.size ≤ gb166)); have n6_ := Aside0.mk ((by rw [hg]; exact Nat.ne_of_lt (blk_lt (g := gb164) (o := .cells #[.string a0_0, .string a0_1] 73 (0, 0)) (by (with_reducible repeat (first | refine blk_drewN ?_ _ | refine blk_drew ?_ | refine blk_alloc ?_ _)); exact BK164.out)) : gb164 ≠ gb166)); have n7_ := Aside0.mk ((by rw [hg]; exact Nat.ne_of_gt (blk_lt (g := gb164) (o := .cells #[.string a0_0, .string a0_1] 73 (0, 0)) (by (with_reducible repeat (first | refine blk_drewN ?_ _ | refine blk_drew ?_ | refine blk_alloc ?_ _)); exact BK164.out)) : gb166 ≠ gb164)); have n8_ := Aside0.mk ((by rw [hg]; exact Nat.ne_of_lt (blk_lt (g := gb165) (o := .cells #[.string (⟨#[]⟩ : ByteArray), .string (⟨#[]⟩ : ByteArray)] 68 (0, 0)) (by (with_reducible repeat (first | refine blk_drewN ?_ _ | refine blk_drew ?_ | refine blk_alloc ?_ _)); exact BK165.out)) : gb165 ≠ gb166)); have n9_ := Aside0.mk ((by rw [hg]; exact Nat.ne_of_gt (blk_lt (g := gb165) (o := .cells #[.string (⟨#[]⟩ : ByteArray), .string (⟨#[]⟩ : ByteArray)] 68 (0, 0)) (by (with_reducible repeat (first | refine blk_drewN ?_ _ | refine blk_drew ?_ | refine blk_alloc ?_ _)); exact BK165.out)) : gb166 ≠ gb165)); clear BK164; clear BK165; clear HB; have BK164 := n0_; have BK165 := n1_; have HB := n2_; have BK166 := n3_; have GW166 := n4_; have GE166 := n5_; have NB164_166 := n6_; have NB166_164 := n7_; have NB165_166 := n8_; have NB166_165 := n9_; clear n0_ n1_ n2_ n3_ n4_ n5_ n6_ n7_ n8_ n9_; clear hb hbox hg; have hnb5 := NB164_165.out; have hnc5 := NB165_164.out; have hnb6 := NB164_166.out; have hnc6 := NB166_164.out; have hcz7_0 : w4.cell? ⟨gb164, 0, none⟩ = some (.string a0_0) := (blk_cell BK164.out 0).trans rfl; have hcz7_1 : w4.cell? ⟨gb164, 1, none⟩ = some (.string a0_1) := (blk_cell BK164.out 1).trans rfl; have hfz7_0 := blk_frozen BK164.out 0; have hfz7_1 := blk_frozen BK164.out 1; have hnb8 := NB166_165.out; have hnc8 := NB165_166.out; have hcz9_0 : w4.cell? ⟨gb166, 0, none⟩ = some (.string (⟨#[]⟩ : ByteArray)) := (blk_cell BK166.out 0).trans rfl; have hcz9_1 : w4.cell? ⟨gb166, 1, none⟩ = some (.string (⟨#[]⟩ : ByteArray)) := (blk_cell BK166.out 1).trans rfl; have hfz9_0 := blk_frozen BK166.out 0; have hfz9_1 := blk_frozen BK166.out 1; have hcz10_0 : w4.cell? ⟨gb165, 0, none⟩ = some (.string (⟨#[]⟩ : ByteArray)) := (blk_cell BK165.out 0).trans rfl; have hcz10_1 : w4.cell? ⟨gb165, 1, none⟩ = some (.string (⟨#[]⟩ : ByteArray)) := (blk_cell BK165.out 1).trans rfl; have hfz10_0 := blk_frozen BK165.out 0; have hfz10_1 := blk_frozen BK165.out 1))
  refine bodyPost_ret (results_cell_row rfl _ _ gb165 68 #[.string a0_0, .string a0_1] (0, 0) _ rfl (by (with_reducible repeat (first | refine blk_drewN ?_ _ | refine blk_drew ?_ | refine blk_alloc ?_ _)); refine blk_put (cs := #[.string a0_0, .string (⟨#[]⟩ : ByteArray)]) ?_ 1 _ rfl; (with_reducible repeat (first | refine blk_drewN ?_ _ | refine blk_drew ?_ | refine blk_alloc ?_ _)); refine blk_put (cs := #[.string (⟨#[]⟩ : ByteArray), .string (⟨#[]⟩ : ByteArray)]) ?_ 0 _ rfl; (with_reducible repeat (first | refine blk_drewN ?_ _ | refine blk_drew ?_ | refine blk_alloc ?_ _)); refine blk_far ?_ NB165_166.out _; (with_reducible repeat (first | refine blk_drewN ?_ _ | refine blk_drew ?_ | refine blk_alloc ?_ _)); refine blk_far ?_ NB165_166.out _; (with_reducible repeat (first | refine blk_drewN ?_ _ | refine blk_drew ?_ | refine blk_alloc ?_ _)); exact BK165.out) Try.underlying68 rfl (by kernel_rfl)) rfl ?_
  exact ⟨by first | rfl | (simp [errW_none, errW_some] <;> rfl) | (simp [*, errW_none, errW_some] <;> rfl), by repeat (first | (with_reducible first | exact HB.out | apply below_alloc | apply pw_below_drewN | apply below_drew1 | refine below_set ?_ GE164.out | refine below_set ?_ GE165.out | refine below_set ?_ GE166.out) | exact HB.out)⟩

end Go.Proofs.Ytlhhcbhmnmndiaa.PFnExactNamesIn
