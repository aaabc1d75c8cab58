/- By a program of this session, out of the kit's print and contracts made by hand: the machine side of a law; Lean checks it. No conditions. -/
import Derived.Test.YtophaihdibplkaaPFnExactSafeDocsx0
import Derived.Test.YtophaihdibplkaaPFnExactSafeDocsx18
namespace Go.Proofs.Ytophaihdibplkaa.PFnExactSafeDocs
open Go.RowKit Go.Proofs.YtophaihdibplkaaW.PrintWords Go.Proofs.YtophaihdibplkaaW.PrintLast Go.Proofs.YtophaihdibplkaaW.PrintMore
attribute [local go_sem] max2_int min2_int max_two min_two max_three min_three max_four min_four   -- for this text's walks alone
set_option linter.unusedVariables false
set_option linter.unusedSimpArgs false

/-! ### laws_markCallS: function 55, by hand -/
/-- One cell of element i written, or what its row leads to. -/
theorem markCells {base g n cap : Nat} {ok : Nat → Prop} {W : World} {xs : List S27} (h : Kd.S k27 27 W base ok (.slice (some ⟨g, 0, none⟩) n cap) xs) (i : Int) (h0 : 0 ≤ i) (h1 : i < n) :
    ∃ v3 : Value, (W.cell? ⟨g, i.toNat * 6, none⟩ = some (.int .i64 (rd_T27 xs i).f0) ∧ W.cell? ⟨g, i.toNat * 6 + 1, none⟩ = some (.int .i64 (rd_T27 xs i).f1) ∧ W.cell? ⟨g, i.toNat * 6 + 2, none⟩ = some (.int .i64 (rd_T27 xs i).f2) ∧ W.cell? ⟨g, i.toNat * 6 + 3, none⟩ = some v3 ∧ W.cell? ⟨g, i.toNat * 6 + 4, none⟩ = some (.string (rd_T27 xs i).f4) ∧ W.cell? ⟨g, i.toNat * 6 + 5, none⟩ = some (.string (rd_T27 xs i).f5)) ∧ (W.frozen? ⟨g, i.toNat * 6, none⟩ = false ∧ W.frozen? ⟨g, i.toNat * 6 + 1, none⟩ = false ∧ W.frozen? ⟨g, i.toNat * 6 + 2, none⟩ = false ∧ W.frozen? ⟨g, i.toNat * 6 + 3, none⟩ = false ∧ W.frozen? ⟨g, i.toNat * 6 + 4, none⟩ = false ∧ W.frozen? ⟨g, i.toNat * 6 + 5, none⟩ = false) ∧ ((∀ m : Int, Kd.S k27 27 (W.setCell ⟨g, i.toNat * 6, none⟩ (.int .i64 m)) base ok (.slice (some ⟨g, 0, none⟩) n cap) (xs.set i.toNat ⟨m, (rd_T27 xs i).f1, (rd_T27 xs i).f2, (rd_T27 xs i).f3, (rd_T27 xs i).f4, (rd_T27 xs i).f5⟩) ∧ W.grownBy (W.setCell ⟨g, i.toNat * 6, none⟩ (.int .i64 m)) (some g)) ∧ (∀ m : Int, Kd.S k27 27 (W.setCell ⟨g, i.toNat * 6 + 1, none⟩ (.int .i64 m)) base ok (.slice (some ⟨g, 0, none⟩) n cap) (xs.set i.toNat ⟨(rd_T27 xs i).f0, m, (rd_T27 xs i).f2, (rd_T27 xs i).f3, (rd_T27 xs i).f4, (rd_T27 xs i).f5⟩) ∧ W.grownBy (W.setCell ⟨g, i.toNat * 6 + 1, none⟩ (.int .i64 m)) (some g)) ∧ (∀ m : Int, Kd.S k27 27 (W.setCell ⟨g, i.toNat * 6 + 2, none⟩ (.int .i64 m)) base ok (.slice (some ⟨g, 0, none⟩) n cap) (xs.set i.toNat ⟨(rd_T27 xs i).f0, (rd_T27 xs i).f1, m, (rd_T27 xs i).f3, (rd_T27 xs i).f4, (rd_T27 xs i).f5⟩) ∧ W.grownBy (W.setCell ⟨g, i.toNat * 6 + 2, none⟩ (.int .i64 m)) (some g)) ∧ (∀ m : ByteArray, Kd.S k27 27 (W.setCell ⟨g, i.toNat * 6 + 4, none⟩ (.string m)) base ok (.slice (some ⟨g, 0, none⟩) n cap) (xs.set i.toNat ⟨(rd_T27 xs i).f0, (rd_T27 xs i).f1, (rd_T27 xs i).f2, (rd_T27 xs i).f3, m, (rd_T27 xs i).f5⟩) ∧ W.grownBy (W.setCell ⟨g, i.toNat * 6 + 4, none⟩ (.string m)) (some g)) ∧ (∀ m : ByteArray, Kd.S k27 27 (W.setCell ⟨g, i.toNat * 6 + 5, none⟩ (.string m)) base ok (.slice (some ⟨g, 0, none⟩) n cap) (xs.set i.toNat ⟨(rd_T27 xs i).f0, (rd_T27 xs i).f1, (rd_T27 xs i).f2, (rd_T27 xs i).f3, (rd_T27 xs i).f4, m⟩) ∧ W.grownBy (W.setCell ⟨g, i.toNat * 6 + 5, none⟩ (.string m)) (some g))) ∧
      ∃ oki : Nat → Prop, Kd.R (Kd.int .i64) 3 W base oki v3 (rd_T27 xs i).f3 ∧ (∀ k, oki k → ok k ∧ k ≠ g) ∧
        ∀ (W1 : World) (ok1 : Nat → Prop) (ys : List Int), Kept W W1 oki → Kd.R (Kd.int .i64) 3 W1 base (fun k => oki k ∨ ok1 k) v3 ys → Kd.S k27 27 W1 base ok (.slice (some ⟨g, 0, none⟩) n cap) (xs.set i.toNat ⟨(rd_T27 xs i).f0, (rd_T27 xs i).f1, (rd_T27 xs i).f2, ys, (rd_T27 xs i).f4, (rd_T27 xs i).f5⟩) := by
  obtain ⟨oki, c, hcl, hM, hcc, hfr, hoki, hH⟩ := Kd.S_elem h z27 i h0 h1
  obtain ⟨v3, rfl, g3⟩ := k27_openM hM
  refine ⟨v3, ⟨hcc 0 _ rfl, hcc 1 _ rfl, hcc 2 _ rfl, hcc 3 _ rfl, hcc 4 _ rfl, hcc 5 _ rfl⟩, ⟨hfr 0, hfr 1, hfr 2, hfr 3, hfr 4, hfr 5⟩, ⟨fun m => ?_, fun m => ?_, fun m => ?_, fun m => ?_, fun m => ?_⟩, oki, g3, hoki, fun W1 ok1 ys hk hr => ?_⟩
  · exact Kd.S_seg (okg := fun _ => False) (okp := oki) (Kd.H_mono hH (fun k hk => ⟨hk, fun h => h⟩)) h0 h1 (seg := [.int .i64 m]) (j := 0) (show 0 + 1 ≤ 6 by decide) (x' := (⟨m, (rd_T27 xs i).f1, (rd_T27 xs i).f2, (rd_T27 xs i).f3, (rd_T27 xs i).f4, (rd_T27 xs i).f5⟩ : S27)) (k27_mkM _ _ _ _ g3) (fun k hk => .inl hk) (fun k hk => hk.elim)
  · exact Kd.S_seg (okg := fun _ => False) (okp := oki) (Kd.H_mono hH (fun k hk => ⟨hk, fun h => h⟩)) h0 h1 (seg := [.int .i64 m]) (j := 1) (show 1 + 1 ≤ 6 by decide) (x' := (⟨(rd_T27 xs i).f0, m, (rd_T27 xs i).f2, (rd_T27 xs i).f3, (rd_T27 xs i).f4, (rd_T27 xs i).f5⟩ : S27)) (k27_mkM _ _ _ _ g3) (fun k hk => .inl hk) (fun k hk => hk.elim)
  · exact Kd.S_seg (okg := fun _ => False) (okp := oki) (Kd.H_mono hH (fun k hk => ⟨hk, fun h => h⟩)) h0 h1 (seg := [.int .i64 m]) (j := 2) (show 2 + 1 ≤ 6 by decide) (x' := (⟨(rd_T27 xs i).f0, (rd_T27 xs i).f1, m, (rd_T27 xs i).f3, (rd_T27 xs i).f4, (rd_T27 xs i).f5⟩ : S27)) (k27_mkM _ _ _ _ g3) (fun k hk => .inl hk) (fun k hk => hk.elim)
  · exact Kd.S_seg (okg := fun _ => False) (okp := oki) (Kd.H_mono hH (fun k hk => ⟨hk, fun h => h⟩)) h0 h1 (seg := [.string m]) (j := 4) (show 4 + 1 ≤ 6 by decide) (x' := (⟨(rd_T27 xs i).f0, (rd_T27 xs i).f1, (rd_T27 xs i).f2, (rd_T27 xs i).f3, m, (rd_T27 xs i).f5⟩ : S27)) (k27_mkM _ _ _ _ g3) (fun k hk => .inl hk) (fun k hk => hk.elim)
  · exact Kd.S_seg (okg := fun _ => False) (okp := oki) (Kd.H_mono hH (fun k hk => ⟨hk, fun h => h⟩)) h0 h1 (seg := [.string m]) (j := 5) (show 5 + 1 ≤ 6 by decide) (x' := (⟨(rd_T27 xs i).f0, (rd_T27 xs i).f1, (rd_T27 xs i).f2, (rd_T27 xs i).f3, (rd_T27 xs i).f4, m⟩ : S27)) (k27_mkM _ _ _ _ g3) (fun k hk => .inl hk) (fun k hk => hk.elim)
  · refine Kd.H_back (Kd.H_step hH (fun k _ hn hlt => hk.2 k hlt hn)) (x' := (⟨(rd_T27 xs i).f0, (rd_T27 xs i).f1, (rd_T27 xs i).f2, ys, (rd_T27 xs i).f4, (rd_T27 xs i).f5⟩ : S27)) (okp := oki) (k27_mkM _ _ _ _ ?_) (fun k hk => hk)
    exact Kd.R_flat (fun h => h) hr (fun k hv _ => g3.1 k hv)
def laws_markCallS.l0 : Nat → List S27 → Int → Int → Option (Int × List S27)
  | 0, _, _, _ => none
  | k + 1, x0, x1, x5 => if x5 < (x0.length : Int) then (if 0 ≤ x5 then (some (x0.set x5.toNat ⟨x1, (rd_T27 x0 x5).f1, (rd_T27 x0 x5).f2, (rd_T27 x0 x5).f3, (rd_T27 x0 x5).f4, (rd_T27 x0 x5).f5⟩)).bind fun y1 => (some (y1.set x5.toNat ⟨(rd_T27 y1 x5).f0, (wrap64 (x1 + 1)), (rd_T27 y1 x5).f2, (rd_T27 y1 x5).f3, (rd_T27 y1 x5).f4, (rd_T27 y1 x5).f5⟩)).bind fun y2 => (some (y2.set x5.toNat ⟨(rd_T27 y2 x5).f0, (rd_T27 y2 x5).f1, (wrap64 ((wrap64 (x1 + 1)) + 1)), (rd_T27 y2 x5).f3, (rd_T27 y2 x5).f4, (rd_T27 y2 x5).f5⟩)).bind fun y3 =>
      (laws_markIntS.f k (rd_T27 y3 x5).f3 (wrap64 ((wrap64 ((wrap64 (x1 + 1)) + 1)) + 1))).bind fun p => (some (y3.set x5.toNat ⟨(rd_T27 y3 x5).f0, (rd_T27 y3 x5).f1, (rd_T27 y3 x5).f2, p.2, (rd_T27 y3 x5).f4, (rd_T27 y3 x5).f5⟩)).bind fun y4 => (laws_markText.f k p.1).bind fun t5 => (some (y4.set x5.toNat ⟨(rd_T27 y4 x5).f0, (rd_T27 y4 x5).f1, (rd_T27 y4 x5).f2, (rd_T27 y4 x5).f3, t5, (rd_T27 y4 x5).f5⟩)).bind fun y5 => (laws_markText.f k (wrap64 (p.1 + 1))).bind fun t6 => laws_markCallS.l0 k (y5.set x5.toNat ⟨(rd_T27 y5 x5).f0, (rd_T27 y5 x5).f1, (rd_T27 y5 x5).f2, (rd_T27 y5 x5).f3, (rd_T27 y5 x5).f4, t6⟩) (wrap64 ((wrap64 (p.1 + 1)) + 1)) (wrap64 (x5 + 1)) else none) else some (x1, x0)
def laws_markCallS.f (k : Nat) (l0 : List S27) (a1 : Int) : Option (Int × List S27) := laws_markCallS.l0 k l0 a1 0
set_option maxHeartbeats 8000000 in
set_option maxRecDepth 100000 in
theorem laws_markCallS.calls (k : Nat) (P0 : Nat → Prop) (u : Value) (l0 : List S27) (a1 r1 : Int) (r2 : List S27) (w0 w : World) (hB : Below w0.heap.size w0 w) (ho0 : Kd.S k27 27 w w0.heap.size P0 u l0) (h : laws_markCallS.f k l0 a1 = some (r1, r2)) :
    Calls Try.prog 55 #[u, .int .i64 a1] w fun e w' => e = .returned (.int .i64 r1) ∧ Kd.S k27 27 w' w0.heap.size P0 u r2 ∧ Below w0.heap.size w0 w' ∧ Kept w w' P0 := by
  have HO := Aside0.mk ho0
  have HK := Aside0.mk (Kept.refl w P0)
  have HB := Aside0.mk hB
  clear hB ho0
  have H' : Aside0 (laws_markCallS.l0 k l0 a1 0 = some (r1, r2)) := ⟨h⟩
  clear h
  go_enter Try.func55, Try.ntmps55
  go_wp2
  go_loopg [1, 5] k (fun kq v1 v5 w' => ∃ (x0 : List S27) (x1 x5 : Int), v1 = .int .i64 x1 ∧ v5 = .int .i64 x5 ∧ Aside0 (laws_markCallS.l0 kq x0 x1 x5 = some (r1, r2)) ∧ Aside0 (kq ≤ k) ∧ Aside0 (Kd.S k27 27 w' w0.heap.size P0 u x0) ∧ Aside0 (Kept w w' P0) ∧ Aside0 (Below w0.heap.size w0 w'))
  case atStart => exact ⟨l0, a1, 0, rfl, rfl, H', ⟨Nat.le_refl _⟩, HO, HK, HB⟩
  case round =>
    clear H' HO HK HB
    obtain ⟨x0, x1, x5, rfl, rfl, HA, HK1_, HO0, HK0, HB0⟩ := hrel
    cases gk with
    | zero => exact absurd HA.out (by simp [laws_markCallS.l0])
    | succ k1 =>
      have H := HA.out
      clear HA
      simp only [laws_markCallS.l0] at H
      by_cases c3 : x5 < (x0.length : Int)
      · rw [if_pos c3] at H
        have c3b0 : decide (x5 < (x0.length : Int)) = true := decide_eq_true c3
        by_cases c5 : 0 ≤ x5
        · rw [if_pos c5] at H
          have c5b0 : decide (0 ≤ x5) = true := decide_eq_true c5
          simp only [Option.bind_some] at H
          obtain ⟨y1, hy1⟩ : ∃ y, y = x0.set x5.toNat ⟨x1, (rd_T27 x0 x5).f1, (rd_T27 x0 x5).f2, (rd_T27 x0 x5).f3, (rd_T27 x0 x5).f4, (rd_T27 x0 x5).f5⟩ := ⟨_, rfl⟩
          rw [← hy1] at H
          obtain ⟨y2, hy2⟩ : ∃ y, y = y1.set x5.toNat ⟨(rd_T27 y1 x5).f0, (wrap64 (x1 + 1)), (rd_T27 y1 x5).f2, (rd_T27 y1 x5).f3, (rd_T27 y1 x5).f4, (rd_T27 y1 x5).f5⟩ := ⟨_, rfl⟩
          rw [← hy2] at H
          obtain ⟨y3, hy3⟩ : ∃ y, y = y2.set x5.toNat ⟨(rd_T27 y2 x5).f0, (rd_T27 y2 x5).f1, (wrap64 ((wrap64 (x1 + 1)) + 1)), (rd_T27 y2 x5).f3, (rd_T27 y2 x5).f4, (rd_T27 y2 x5).f5⟩ := ⟨_, rfl⟩
          rw [← hy3] at H
          obtain ⟨⟨m4, ys⟩, hm0, H⟩ := Option.bind_eq_some_iff.mp H
          simp only [Option.bind_some] at H
          obtain ⟨y4, hy4⟩ : ∃ y, y = y3.set x5.toNat ⟨(rd_T27 y3 x5).f0, (rd_T27 y3 x5).f1, (rd_T27 y3 x5).f2, ys, (rd_T27 y3 x5).f4, (rd_T27 y3 x5).f5⟩ := ⟨_, rfl⟩
          rw [← hy4] at H
          obtain ⟨t5, ht5, H⟩ := Option.bind_eq_some_iff.mp H
          obtain ⟨y5, hy5⟩ : ∃ y, y = y4.set x5.toNat ⟨(rd_T27 y4 x5).f0, (rd_T27 y4 x5).f1, (rd_T27 y4 x5).f2, (rd_T27 y4 x5).f3, t5, (rd_T27 y4 x5).f5⟩ := ⟨_, rfl⟩
          rw [← hy5] at H
          obtain ⟨t6, ht6, H⟩ := Option.bind_eq_some_iff.mp H
          obtain ⟨y6, hy6⟩ : ∃ y, y = y5.set x5.toNat ⟨(rd_T27 y5 x5).f0, (rd_T27 y5 x5).f1, (rd_T27 y5 x5).f2, (rd_T27 y5 x5).f3, (rd_T27 y5 x5).f4, t6⟩ := ⟨_, rfl⟩
          replace H : laws_markCallS.l0 k1 y6 (wrap64 (wrap64 (m4 + 1) + 1)) (wrap64 (x5 + 1)) = some (r1, r2) := by rw [hy6]; exact H
          have len1 : y1.length = x0.length := by rw [hy1, List.length_set]
          have len2 : y2.length = x0.length := by rw [hy2, List.length_set, len1]
          have len3 : y3.length = x0.length := by rw [hy3, List.length_set, len2]
          have len4 : y4.length = x0.length := by rw [hy4, List.length_set, len3]
          have len5 : y5.length = x0.length := by rw [hy5, List.length_set, len4]
          have len6 : y6.length = x0.length := by rw [hy6, List.length_set, len5]
          have H' := Aside0.mk H
          have HT5 := Aside0.mk ht5
          have HT6 := Aside0.mk ht6
          have HM := Aside0.mk hm0
          clear H ht5 ht6 hm0
          obtain ⟨g, cap, rfl, hg0, hgl, _⟩ := Kd.S_form HO0.out (by omega)
          have HP : Aside0 (P0 g) := ⟨by obtain ⟨_, hR⟩ := HO0.out; exact hR.1 g (by simp [Value.ownBlock])⟩
          have HY1 := Aside0.mk hy1
          have HY2 := Aside0.mk hy2
          have HY3 := Aside0.mk hy3
          have HY4 := Aside0.mk hy4
          have HY5 := Aside0.mk hy5
          have HY6 := Aside0.mk hy6
          have HG := Aside0.mk hg0
          have HC5 := Aside0.mk c5
          have HC3 := Aside0.mk c3
          have p3 := eq_true c3
          have p5 := eq_true c5
          clear c3 c5 hg0 hgl hy1 hy2 hy3 hy4 hy5 hy6
          (obtain ⟨_, _, _, ⟨hs, _, _, _, _⟩, _⟩ := markCells HO0.out x5 HC5.out HC3.out); (obtain ⟨hs1, hg1⟩ := hs x1); (rw [← HY1.out] at hs1); (have HO1 := Aside0.mk hs1); (have HK1 := Aside0.mk (Kept.of_grown hg1 HK0.out (fun k hk => .inl (by injection hk with hk; exact hk ▸ HP.out)))); (have HB1 := Aside0.mk (below_set (j := x5.toNat * 6) (v := .int .i64 x1) HB0.out HG.out)); clear hs hs1 hg1
          (obtain ⟨_, _, _, ⟨_, hs, _, _, _⟩, _⟩ := markCells HO1.out x5 HC5.out HC3.out); (obtain ⟨hs1, hg1⟩ := hs (wrap64 (x1 + 1))); (rw [← HY2.out] at hs1); (have HO2 := Aside0.mk hs1); (have HK2 := Aside0.mk (Kept.of_grown hg1 HK1.out (fun k hk => .inl (by injection hk with hk; exact hk ▸ HP.out)))); (have HB2 := Aside0.mk (below_set (j := x5.toNat * 6 + 1) (v := .int .i64 (wrap64 (x1 + 1))) HB1.out HG.out)); clear hs hs1 hg1
          (obtain ⟨_, _, _, ⟨_, _, hs, _, _⟩, _⟩ := markCells HO2.out x5 HC5.out HC3.out); (obtain ⟨hs1, hg1⟩ := hs (wrap64 ((wrap64 (x1 + 1)) + 1))); (rw [← HY3.out] at hs1); (have HO3 := Aside0.mk hs1); (have HK3 := Aside0.mk (Kept.of_grown hg1 HK2.out (fun k hk => .inl (by injection hk with hk; exact hk ▸ HP.out)))); (have HB3 := Aside0.mk (below_set (j := x5.toNat * 6 + 2) (v := .int .i64 (wrap64 ((wrap64 (x1 + 1)) + 1))) HB2.out HG.out)); clear hs hs1 hg1
          obtain ⟨qav, ⟨qaa0, qaa1, qaa2, qaa3, qaa4, qaa5⟩, ⟨qab0, qab1, qab2, qab3, qab4, qab5⟩, _, _⟩ := markCells HO0.out x5 HC5.out HC3.out
          obtain ⟨qbv, ⟨qba0, qba1, qba2, qba3, qba4, qba5⟩, ⟨qbb0, qbb1, qbb2, qbb3, qbb4, qbb5⟩, _, _⟩ := markCells HO1.out x5 HC5.out HC3.out
          obtain ⟨qcv, ⟨qca0, qca1, qca2, qca3, qca4, qca5⟩, ⟨qcb0, qcb1, qcb2, qcb3, qcb4, qcb5⟩, _, _⟩ := markCells HO2.out x5 HC5.out HC3.out
          obtain ⟨qdv, ⟨qda0, qda1, qda2, qda3, qda4, qda5⟩, ⟨qdb0, qdb1, qdb2, qdb3, qdb4, qdb5⟩, _, oki, hri, hoki, hend⟩ := markCells HO3.out x5 HC5.out HC3.out
          have HX := Aside0.mk (And.intro hri (And.intro hoki hend))
          clear hri hoki hend
          go_wp2_with (first | (go_at_call 117; (obtain ⟨hri, hoki, hend⟩ := HX.out); (with_reducible refine (laws_markIntS.calls k1 oki _ _ _ m4 ys w0 _ HB3.out hri HM.out).mono ?_); rintro e w4 ⟨rfl, hr4, hb4, hk4⟩; (have HO4 := Aside0.mk (hend _ _ _ hk4 hr4)); (rw [← HY4.out] at HO4); (have HK4 := Aside0.mk (HK3.out.then_ hk4 (fun k hk => .inl (hoki k hk).1))); (have HB4 := Aside0.mk hb4); clear hr4 hb4 hk4 hend hri HX; (obtain ⟨qev, ⟨qea0, qea1, qea2, qea3, qea4, qea5⟩, ⟨qeb0, qeb1, qeb2, qeb3, qeb4, qeb5⟩, _, _⟩ := markCells HO4.out x5 HC5.out HC3.out)) | (go_at_call 118; (with_reducible refine (laws_markText.calls k1 _ t5 _ HT5.out).mono ?_); rintro e w5 ⟨rfl, hb⟩; clear HT5; (have HO9 := Aside0.mk (Kd.S_below HO4.out hb)); (have HK9 := Aside0.mk (HK4.out.below hb)); (have HB9 := Aside0.mk (below_step HB4.out hb)); clear hb; (obtain ⟨qfv, ⟨qfa0, qfa1, qfa2, qfa3, qfa4, qfa5⟩, ⟨qfb0, qfb1, qfb2, qfb3, qfb4, qfb5⟩, _, _⟩ := markCells HO9.out x5 HC5.out HC3.out); (obtain ⟨_, _, _, ⟨_, _, _, hs, _⟩, _⟩ := markCells HO9.out x5 HC5.out HC3.out); (obtain ⟨hs1, hg1⟩ := hs t5); (rw [← HY5.out] at hs1); (have HO5 := Aside0.mk hs1); (have HK5 := Aside0.mk (Kept.of_grown hg1 HK9.out (fun k hk => .inl (by injection hk with hk; exact hk ▸ HP.out)))); (have HB5 := Aside0.mk (below_set (j := x5.toNat * 6 + 4) (v := .string t5) HB9.out HG.out)); clear hs hs1 hg1) | (go_at_call 118; (with_reducible refine (laws_markText.calls k1 _ t6 _ HT6.out).mono ?_); rintro e w6 ⟨rfl, hb⟩; (have HO10 := Aside0.mk (Kd.S_below HO5.out hb)); (have HK10 := Aside0.mk (HK5.out.below hb)); (have HB10 := Aside0.mk (below_step HB5.out hb)); clear hb; (obtain ⟨qgv, ⟨qga0, qga1, qga2, qga3, qga4, qga5⟩, ⟨qgb0, qgb1, qgb2, qgb3, qgb4, qgb5⟩, _, _⟩ := markCells HO10.out x5 HC5.out HC3.out); (obtain ⟨_, _, _, ⟨_, _, _, _, hs⟩, _⟩ := markCells HO10.out x5 HC5.out HC3.out); (obtain ⟨hs1, hg1⟩ := hs t6); (rw [← HY6.out] at hs1); (have HO6 := Aside0.mk hs1); (have HK6 := Aside0.mk (Kept.of_grown hg1 HK10.out (fun k hk => .inl (by injection hk with hk; exact hk ▸ HP.out)))); (have HB6 := Aside0.mk (below_set (j := x5.toNat * 6 + 5) (v := .string t6) HB10.out HG.out)); clear hs hs1 hg1))
          go_roundg k1
          case measure => have := HK1_.out; omega
          case rel => exact ⟨y6, _, wrap64 (x5 + 1), rfl, rfl, H', ⟨by have := HK1_.out; omega⟩, HO6, HK6, HB6⟩
        · rw [if_neg c5] at H
          exact absurd H (by simp)
      · rw [if_neg c3] at H
        have c3b0 : decide (x5 < (x0.length : Int)) = false := decide_eq_false c3
        clear c3
        simp only [Option.some.injEq, Prod.mk.injEq] at H
        obtain ⟨rfl, rfl⟩ := H
        obtain ⟨Ao, co, eo⟩ := Kd.S_slice HO0.out
        subst eo
        go_wp2
        go_ret
        exact ⟨rfl, HO0.out, HB0.out, HK0.out⟩


/-! ### laws_markBoolS: function 56 -/
def laws_markBoolS.l0 : Nat → List Bool → Int → Int → Option (Int × List Bool)
  | 0, _, _, _ => none
  | k + 1, x0, x1, x5 => if x5 < (x0.length : Int) then (if 0 ≤ x5 then (laws_markBoolS.l0 k (x0.set (x5 : Int).toNat ((Int.tmod x1 3) == 0)) (wrap64 (x1 + 1)) (wrap64 (x5 + 1))) else (none)) else (some (x1, x0))
def laws_markBoolS.f (k : Nat) (l0 : List Bool) (a1 : Int) : Option (Int × List Bool) := laws_markBoolS.l0 k l0 a1 0
theorem laws_markBoolS.mono_l : ∀ k, (∀ y0 y1 y2, LeO (laws_markBoolS.l0 k y0 y1 y2) (laws_markBoolS.l0 (k + 1) y0 y1 y2))
  | 0 => fun _ _ _ r h => by simp [laws_markBoolS.l0] at h
  | k + 1 => by
    have ih0 := laws_markBoolS.mono_l k
    · intro y0 y1 y2
      unfold laws_markBoolS.l0
      repeat' first
      | (with_reducible exact ih0 _ _ _)
      | (with_reducible exact LeO.refl _)
      | (with_reducible exact LeO.none _)
      | (with_reducible refine LeO.ite ?_ ?_)
      | (with_reducible refine LeO.bind ?_ (fun _ => ?_))
      | exact ih0 _ _ _
      | exact LeO.none _
      | refine LeO.ite ?_ ?_
      | refine LeO.bind ?_ (fun _ => ?_)
theorem laws_markBoolS.mono : ∀ a0 a1 k, LeO (laws_markBoolS.f k a0 a1) (laws_markBoolS.f (k + 1) a0 a1) := by
  intro a0 a1 k
  have ih0 := laws_markBoolS.mono_l k
  unfold laws_markBoolS.f
  repeat' first
      | (with_reducible exact ih0 _ _ _)
      | (with_reducible exact LeO.refl _)
      | (with_reducible exact LeO.none _)
      | (with_reducible refine LeO.ite ?_ ?_)
      | (with_reducible refine LeO.bind ?_ (fun _ => ?_))
      | exact ih0 _ _ _
      | exact LeO.none _
      | refine LeO.ite ?_ ?_
      | refine LeO.bind ?_ (fun _ => ?_)
set_option maxHeartbeats 8000000 in
set_option maxRecDepth 100000 in
theorem laws_markBoolS.calls (k : Nat) (P0_ : Nat → Prop) (u9000_ : Value) (l0 : List Bool) (a1 : Int) (r1 : Int) (r2 : List Bool) (w0 w : World) (hB : Below w0.heap.size w0 w) (ho0 : Kd.R Kd.bool 4 w w0.heap.size P0_ u9000_ l0) (h : laws_markBoolS.f k l0 a1 = some (r1, r2)) :
    Calls Try.prog 56 #[u9000_, .int .i64 a1] w fun e w' => e = .returned (.int .i64 r1) ∧ Kd.R Kd.bool 4 w' w0.heap.size (fun k_ => (P0_ k_ ∨ w.heap.size ≤ k_)) u9000_ r2 ∧ Below w0.heap.size w0 w' ∧ Kept w w' (fun k_ => P0_ k_) := by
  have HO0 := Aside0.mk (show Kd.R Kd.bool 4 w w0.heap.size (fun k_ => (P0_ k_ ∨ w.heap.size ≤ k_)) u9000_ l0 from Kd.R_mono ho0 (fun k_ hk => (.inl hk)))
  have HK := Aside0.mk (Kept.refl w (fun k_ => P0_ k_))
  have HW0 := Aside0.mk hB.size
  have HB := Aside0.mk hB
  clear hB
  have H : (laws_markBoolS.l0 k l0 a1 0) = some (r1, r2) := h
  clear h
  have H' := Aside0.mk H
  clear H
  go_enter Try.func56, Try.ntmps56
  go_wp2
  go_loopg [1, 5] k (fun kq v1 v5 w' => ∃ (x0_1 : List Bool) (x1_1 : Int) (x5_1 : Int), v1 = .int .i64 x1_1 ∧ v5 = .int .i64 x5_1 ∧ Aside0 (laws_markBoolS.l0 kq x0_1 x1_1 x5_1 = some (r1, r2)) ∧ Aside0 (kq ≤ k) ∧ Aside0 (Kd.R Kd.bool 4 w' w0.heap.size (fun k_ => (P0_ k_ ∨ w.heap.size ≤ k_)) u9000_ x0_1) ∧ Aside0 (Kept w w' (fun k_ => P0_ k_)) ∧ Aside0 (Below w0.heap.size w0 w'))
  case atStart => exact ⟨(l0), (a1), (0), (by first | rfl | (simp; done) | (simp [*]; done)), (by first | rfl | (simp; done) | (simp [*]; done)), H', ⟨Nat.le_refl _⟩, ⟨by (with_reducible repeat (first | apply Kd.R_alloc | apply Kd.R_drewN | apply Kd.R_drew)); exact HO0.out⟩, ⟨by repeat (first | (with_reducible first | exact HK.out | apply Kept.alloc | apply Kept.drewN | apply Kept.drew) | exact HK.out)⟩, ⟨by repeat (first | (with_reducible first | exact HB.out | apply below_alloc | apply pw_below_drewN | apply below_drew1) | exact HB.out)⟩⟩
  case round =>
    clear H'
    try clear p2
    obtain ⟨x0_1, x1_1, x5_1, rfl, rfl, HA, HK1, HO_0, HK, HB⟩ := hrel
    cases gk with
    | zero => exact absurd HA.out (by simp [laws_markBoolS.l0])
    | succ k1 =>
      have H := HA.out
      clear HA
      simp only [laws_markBoolS.l0] at H
      by_cases c3 : x5_1 < (x0_1.length : Int)
      · rw [if_pos c3] at H
        have c3b0 : decide (x5_1 < (x0_1.length : Int)) = true := decide_eq_true c3
        clear c3
        by_cases c4 : 0 ≤ x5_1
        · rw [if_pos c4] at H
          have c4b0 : decide (0 ≤ x5_1) = true := decide_eq_true c4
          clear c4
          obtain ⟨y186, hy186⟩ : ∃ y_ : List Bool, y_ = (x0_1.set (x5_1 : Int).toNat ((Int.tmod x1_1 3) == 0)) := ⟨_, rfl⟩
          replace H : (laws_markBoolS.l0 k1 y186 (wrap64 (x1_1 + 1)) (wrap64 (x5_1 + 1))) = some (r1, r2) := by first | (rw [hy186]; with_reducible exact H) | (have H2_ := (Option.bind_some _ _).symm.trans H; rw [hy186]; with_reducible exact H2_) | (have H2_ := (Option.bind_some _ _).symm.trans H; with_reducible exact H2_) | with_reducible exact H | (rw [hy186]; exact H) | exact H
          have Ny186 := Aside0.mk hy186
          clear hy186
          have H' := Aside0.mk H
          clear H
          obtain ⟨Ao6, co6, eo6⟩ := Kd.R_slice HO_0.out
          subst eo6
          have p5 : 0 ≤ (x5_1 : Int) := of_decide_eq_true (by first | (with_reducible assumption) | assumption)
          have q5 : (x5_1 : Int) < ((x0_1.length : Int) : Int) := of_decide_eq_true (by first | (with_reducible assumption) | assumption)
          obtain ⟨go5, co5, eo5, gb5, gl5, cl5, HG5⟩ := Kd.R_form HO_0.out (by omega)
          (first | cases eo5 | (injection eo5 with ea_ en_ ec_; (first | subst ea_ | (injection ea_ with ea_; subst ea_)); subst ec_; clear en_))
          have GB5 := Aside0.mk gb5
          have GG5 := Aside0.mk HG5
          clear gb5 gl5 HG5
          have HMgo5 := Aside0.mk (show (P0_ go5 ∨ w.heap.size ≤ go5) from (HO_0.out.1 _ rfl))
          obtain ⟨hx5_0, hf5_0⟩ := Kd.R_celln false HO_0.out (x5_1 : Int) p5 q5
          replace p5 := eq_true p5
          replace q5 := eq_true q5
          have HP7 := Kd.R_putg HO_0.out (x5_1 : Int) ((Int.tmod x1_1 3) == 0)
          go_wp2_with (first | ((with_reducible refine gate_store (t := 4) (p := 17) rfl ?_); refine store_event (t := 4) (p := 17) (v := ?vo_w8) (w1 := (wr.setCell ⟨go5, (x5_1 : Int).toNat, none⟩ (.bool ((Int.tmod x1_1 3) == 0)))) ?hg ?ho ?hn ?hr ?_; (case ho => rfl); (case hg => rfl); (case hn => rfl); (case hr => first | (go_simp; done) | (go_simp; rfl)); intro w8 hw; have hg : wr.grownBy w8 (some go5) := (by rw [hw]; exact HP7.2); have hp_ : Kd.R Kd.bool 4 w8 w0.heap.size (fun k_ => (P0_ k_ ∨ w.heap.size ≤ k_)) (.slice (some ⟨go5, 0, none⟩) x0_1.length co6) y186 := (by rw [hw, Ny186.out]; exact HP7.1); clear HP7; have n0_ := Aside0.mk (hp_); have n1_ := Aside0.mk ((by rw [hw]; exact below_set (HB.out) GB5.out : Below w0.heap.size w0 w8)); have n2_ := Aside0.mk (Kept.of_grown (S := (fun k_ => P0_ k_)) hg (by repeat (first | (with_reducible first | exact HK.out | apply Kept.alloc | apply Kept.drewN | apply Kept.drew) | exact HK.out)) (fun k_ e_ => (HO_0.out.1 k_ e_))); clear HO_0; clear HB; clear HK; have HO_0 := n0_; have HB := n1_; have HK := n2_; clear n0_ n1_ n2_; clear hg hw hp_))
          go_roundg k1
          case measure => have := HK1.out; omega
          case rel => exact ⟨(y186), (wrap64 (x1_1 + 1)), (wrap64 (x5_1 + 1)), (by first | rfl | (simp; done) | (simp [*]; done)), (by first | rfl | (simp; done) | (simp [*]; done)), H', ⟨by have := HK1.out; omega⟩, ⟨by (with_reducible repeat (first | apply Kd.R_alloc | apply Kd.R_drewN | apply Kd.R_drew)); exact HO_0.out⟩, ⟨by repeat (first | (with_reducible first | exact HK.out | apply Kept.alloc | apply Kept.drewN | apply Kept.drew) | exact HK.out)⟩, ⟨by repeat (first | (with_reducible first | exact HB.out | apply below_alloc | apply pw_below_drewN | apply below_drew1) | exact HB.out)⟩⟩
        · rw [if_neg c4] at H
          exact absurd H (by simp)
      · rw [if_neg c3] at H
        have c3b0 : decide (x5_1 < (x0_1.length : Int)) = false := decide_eq_false c3
        clear c3
        simp only [Option.some.injEq, Prod.mk.injEq] at H
        obtain ⟨rfl, rfl⟩ := H
        obtain ⟨Ao9, co9, eo9⟩ := Kd.R_slice HO_0.out
        subst eo9
        go_wp2
        go_ret
        exact ⟨by first | rfl | (simp [errW_none, errW_some] <;> rfl) | (simp [*, errW_none, errW_some] <;> rfl), by (with_reducible repeat (first | apply Kd.R_alloc | apply Kd.R_drewN | apply Kd.R_drew)); exact HO_0.out, by repeat (first | (with_reducible first | exact HB.out | apply below_alloc | apply pw_below_drewN | apply below_drew1) | exact HB.out), by repeat (first | (with_reducible first | exact HK.out | apply Kept.alloc | apply Kept.drewN | apply Kept.drew) | exact HK.out)⟩

end Go.Proofs.Ytophaihdibplkaa.PFnExactSafeDocs
