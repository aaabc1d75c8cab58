/- By a program of this session, out of the kit's print and contracts made by hand: the machine side of a law; Lean checks it. No conditions. -/
import Derived.Test.YtmeafbneklphnaaPFnExactDefaultConfigx0
import Derived.Test.YtmeafbneklphnaaPFnExactDefaultConfigx5
namespace Go.Proofs.Ytmeafbneklphnaa.PFnExactDefaultConfig
open Go.RowKit Go.Proofs.YtmeafbneklphnaaW.PrintWords Go.Proofs.YtmeafbneklphnaaW.PrintLast Go.Proofs.YtmeafbneklphnaaW.PrintMore
attribute [local go_sem] max2_int min2_int max_two min_two max_three min_three max_four min_four   -- for this text's walks alone
set_option linter.unusedVariables false
set_option linter.unusedSimpArgs false

/-! ### laws_markStringS: function 29 -/
def laws_markStringS.l0 : Nat → List ByteArray → Int → Int → Option (Int × List ByteArray)
  | 0, _, _, _ => none
  | k + 1, x0, x1, x5 => if x5 < (x0.length : Int) then ((laws_markText.f k x1).bind fun t164 => (if 0 ≤ x5 then (laws_markStringS.l0 k (x0.set (x5 : Int).toNat t164) (wrap64 (x1 + 1)) (wrap64 (x5 + 1))) else (none))) else (some (x1, x0))
def laws_markStringS.f (k : Nat) (l0 : List ByteArray) (a1 : Int) : Option (Int × List ByteArray) := laws_markStringS.l0 k l0 a1 0
theorem laws_markStringS.mono_l : ∀ k, (∀ y0 y1 y2, LeO (laws_markStringS.l0 k y0 y1 y2) (laws_markStringS.l0 (k + 1) y0 y1 y2))
  | 0 => fun _ _ _ r h => by simp [laws_markStringS.l0] at h
  | k + 1 => by
    have ih0 := laws_markStringS.mono_l k
    · intro y0 y1 y2
      unfold laws_markStringS.l0
      repeat' first
      | (with_reducible exact ih0 _ _ _)
      | (with_reducible exact laws_markText.mono _ _)
      | (with_reducible exact LeO.refl _)
      | (with_reducible exact LeO.none _)
      | (with_reducible refine LeO.ite ?_ ?_)
      | (with_reducible refine LeO.bind ?_ (fun _ => ?_))
      | exact ih0 _ _ _
      | exact laws_markText.mono _ _
      | exact LeO.none _
      | refine LeO.ite ?_ ?_
      | refine LeO.bind ?_ (fun _ => ?_)
theorem laws_markStringS.mono : ∀ a0 a1 k, LeO (laws_markStringS.f k a0 a1) (laws_markStringS.f (k + 1) a0 a1) := by
  intro a0 a1 k
  have ih0 := laws_markStringS.mono_l k
  unfold laws_markStringS.f
  repeat' first
      | (with_reducible exact ih0 _ _ _)
      | (with_reducible exact laws_markText.mono _ _)
      | (with_reducible exact LeO.refl _)
      | (with_reducible exact LeO.none _)
      | (with_reducible refine LeO.ite ?_ ?_)
      | (with_reducible refine LeO.bind ?_ (fun _ => ?_))
      | exact ih0 _ _ _
      | exact laws_markText.mono _ _
      | exact LeO.none _
      | refine LeO.ite ?_ ?_
      | refine LeO.bind ?_ (fun _ => ?_)
set_option maxHeartbeats 8000000 in
set_option maxRecDepth 100000 in
theorem laws_markStringS.calls (k : Nat) (P0_ : Nat → Prop) (u9000_ : Value) (l0 : List ByteArray) (a1 : Int) (r1 : Int) (r2 : List ByteArray) (w0 w : World) (hB : Below w0.heap.size w0 w) (ho0 : Kd.R Kd.string 9 w w0.heap.size P0_ u9000_ l0) (h : laws_markStringS.f k l0 a1 = some (r1, r2)) :
    Calls Try.prog 29 #[u9000_, .int .i64 a1] w fun e w' => e = .returned (.int .i64 r1) ∧ Kd.R Kd.string 9 w' w0.heap.size (fun k_ => (P0_ k_ ∨ w.heap.size ≤ k_)) u9000_ r2 ∧ Below w0.heap.size w0 w' ∧ Kept w w' (fun k_ => P0_ k_) := by
  have HO0 := Aside0.mk (show Kd.R Kd.string 9 w w0.heap.size (fun k_ => (P0_ k_ ∨ w.heap.size ≤ k_)) u9000_ l0 from Kd.R_mono ho0 (fun k_ hk => (.inl hk)))
  have HK := Aside0.mk (Kept.refl w (fun k_ => P0_ k_))
  have HW0 := Aside0.mk hB.size
  have HB := Aside0.mk hB
  clear hB
  have H : (laws_markStringS.l0 k l0 a1 0) = some (r1, r2) := h
  clear h
  have H' := Aside0.mk H
  clear H
  go_enter Try.func29, Try.ntmps29
  go_wp2
  go_loopg [1, 5] k (fun kq v1 v5 w' => ∃ (x0_1 : List ByteArray) (x1_1 : Int) (x5_1 : Int), v1 = .int .i64 x1_1 ∧ v5 = .int .i64 x5_1 ∧ Aside0 (laws_markStringS.l0 kq x0_1 x1_1 x5_1 = some (r1, r2)) ∧ Aside0 (kq ≤ k) ∧ Aside0 (Kd.R Kd.string 9 w' w0.heap.size (fun k_ => (P0_ k_ ∨ w.heap.size ≤ k_)) u9000_ x0_1) ∧ Aside0 (Kept w w' (fun k_ => P0_ k_)) ∧ Aside0 (Below w0.heap.size w0 w'))
  case atStart => exact ⟨(l0), (a1), (0), (by first | rfl | (simp; done) | (simp [*]; done)), (by first | rfl | (simp; done) | (simp [*]; done)), H', ⟨Nat.le_refl _⟩, ⟨by (with_reducible repeat (first | apply Kd.R_alloc | apply Kd.R_drewN | apply Kd.R_drew)); exact HO0.out⟩, ⟨by repeat (first | (with_reducible first | exact HK.out | apply Kept.alloc | apply Kept.drewN | apply Kept.drew) | exact HK.out)⟩, ⟨by repeat (first | (with_reducible first | exact HB.out | apply below_alloc | apply pw_below_drewN | apply below_drew1) | exact HB.out)⟩⟩
  case round =>
    clear H'
    try clear c2
    try clear p2
    obtain ⟨x0_1, x1_1, x5_1, rfl, rfl, HA, HK1, HO_0, HK, HB⟩ := hrel
    cases gk with
    | zero => exact absurd HA.out (by simp [laws_markStringS.l0])
    | succ k1 =>
      have H := HA.out
      clear HA
      simp only [laws_markStringS.l0] at H
      by_cases c3 : x5_1 < (x0_1.length : Int)
      · rw [if_pos c3] at H
        have c3b0 : decide (x5_1 < (x0_1.length : Int)) = true := decide_eq_true c3
        clear c3
        replace H := Option.bind_eq_some_iff.mp H
        obtain ⟨t164, A40, H⟩ := H
        replace H : (if 0 ≤ x5_1 then (laws_markStringS.l0 k1 (x0_1.set (x5_1 : Int).toNat t164) (wrap64 (x1_1 + 1)) (wrap64 (x5_1 + 1))) else (none)) = some (r1, r2) := H
        have A4 := Aside0.mk A40
        clear A40
        by_cases c5 : 0 ≤ x5_1
        · rw [if_pos c5] at H
          have c5b0 : decide (0 ≤ x5_1) = true := decide_eq_true c5
          clear c5
          obtain ⟨y165, hy165⟩ : ∃ y_ : List ByteArray, y_ = (x0_1.set (x5_1 : Int).toNat t164) := ⟨_, rfl⟩
          replace H : (laws_markStringS.l0 k1 y165 (wrap64 (x1_1 + 1)) (wrap64 (x5_1 + 1))) = some (r1, r2) := by first | (rw [hy165]; with_reducible exact H) | (have H2_ := (Option.bind_some _ _).symm.trans H; rw [hy165]; with_reducible exact H2_) | (have H2_ := (Option.bind_some _ _).symm.trans H; with_reducible exact H2_) | with_reducible exact H | (rw [hy165]; exact H) | exact H
          have Ny165 := Aside0.mk hy165
          clear hy165
          have H' := Aside0.mk H
          clear H
          obtain ⟨Ao7, co7, eo7⟩ := Kd.R_slice HO_0.out
          subst eo7
          go_wp2_with (first | ((with_reducible refine gate_callee (f := 54) rfl ?_); refine goesL_ (some 15) rfl rfl Try.func54 (by kernel_rfl) rfl #[.int .i64 x1_1] rfl (by (try simp only [List.map_toArray, List.map_cons, List.map_nil]); first | done | rfl | (simp only [List.length_drop, List.length_take]; rfl)) ?_; (with_reducible refine (laws_markText.calls k1 x1_1 t164 _ A4.out).mono ?_); rintro e w8 ⟨rfl, hb⟩; refine ⟨_, rfl, ?_⟩; have n0_ := Aside0.mk (Kd.R_below (by (with_reducible repeat (first | apply Kd.R_alloc | apply Kd.R_drewN | apply Kd.R_drew)); exact HO_0.out) hb); have n1_ := Aside0.mk (Kept.below (S := (fun k_ => P0_ k_)) (by repeat (first | (with_reducible first | exact HK.out | apply Kept.alloc | apply Kept.drewN | apply Kept.drew) | exact HK.out)) hb); have n2_ := Aside0.mk (below_step (by repeat (first | (with_reducible first | exact HB.out | apply below_alloc | apply pw_below_drewN | apply below_drew1) | exact HB.out)) hb); clear HO_0; clear HK; clear HB; have HO_0 := n0_; have HK := n1_; have HB := n2_; clear n0_ n1_ n2_; (try clear hb); (try clear hb2); (try clear hk); (try clear hi); have p6 : 0 ≤ (x5_1 : Int) := of_decide_eq_true (by first | (with_reducible assumption) | assumption); have q6 : (x5_1 : Int) < ((x0_1.length : Int) : Int) := of_decide_eq_true (by first | (with_reducible assumption) | assumption); obtain ⟨go6, co6, eo6, gb6, gl6, cl6, HG6⟩ := Kd.R_form HO_0.out (by omega); (first | cases eo6 | (injection eo6 with ea_ en_ ec_; (first | subst ea_ | (injection ea_ with ea_; subst ea_)); subst ec_; clear en_)); have GB6 := Aside0.mk gb6; have GG6 := Aside0.mk HG6; clear gb6 gl6 HG6; have HMgo6 := Aside0.mk (show (P0_ go6 ∨ w.heap.size ≤ go6) from (HO_0.out.1 _ rfl)); obtain ⟨hx6_0, hf6_0⟩ := Kd.R_celln (⟨#[]⟩ : ByteArray) HO_0.out (x5_1 : Int) p6 q6; replace p6 := eq_true p6; replace q6 := eq_true q6; obtain ⟨hy9_, hz9_⟩ := Kd.R_celln (⟨#[]⟩ : ByteArray) HO_0.out (x5_1 : Int) (of_decide_eq_true (by first | (with_reducible assumption) | assumption)) (of_decide_eq_true (by first | (with_reducible assumption) | assumption)); have HP9 := Kd.R_putg HO_0.out (x5_1 : Int) t164) | ((with_reducible refine gate_store (t := 9) (p := 16) rfl ?_); refine store_event (t := 9) (p := 16) (v := ?vo_w10) (w1 := (w8.setCell ⟨go6, (x5_1 : Int).toNat, none⟩ (.string t164))) ?hg ?ho ?hn ?hr ?_; (case ho => rfl); (case hg => rfl); (case hn => rfl); (case hr => first | (go_simp; done) | (go_simp; rfl)); intro w10 hw; have hg : w8.grownBy w10 (some go6) := (by rw [hw]; exact HP9.2); have hp_ : Kd.R Kd.string 9 w10 w0.heap.size (fun k_ => (P0_ k_ ∨ w.heap.size ≤ k_)) (.slice (some ⟨go6, 0, none⟩) x0_1.length co7) y165 := (by rw [hw, Ny165.out]; exact HP9.1); clear HP9; have n0_ := Aside0.mk (hp_); have n1_ := Aside0.mk ((by rw [hw]; exact below_set (HB.out) GB6.out : Below w0.heap.size w0 w10)); have n2_ := Aside0.mk (Kept.of_grown (S := (fun k_ => P0_ k_)) hg (by repeat (first | (with_reducible first | exact HK.out | apply Kept.alloc | apply Kept.drewN | apply Kept.drew) | exact HK.out)) (fun k_ e_ => (HO_0.out.1 k_ e_))); clear HO_0; clear HB; clear HK; have HO_0 := n0_; have HB := n1_; have HK := n2_; clear n0_ n1_ n2_; clear hg hw hp_))
          go_roundg k1
          case measure => have := HK1.out; omega
          case rel => exact ⟨(y165), (wrap64 (x1_1 + 1)), (wrap64 (x5_1 + 1)), (by first | rfl | (simp; done) | (simp [*]; done)), (by first | rfl | (simp; done) | (simp [*]; done)), H', ⟨by have := HK1.out; omega⟩, ⟨by (with_reducible repeat (first | apply Kd.R_alloc | apply Kd.R_drewN | apply Kd.R_drew)); exact HO_0.out⟩, ⟨by repeat (first | (with_reducible first | exact HK.out | apply Kept.alloc | apply Kept.drewN | apply Kept.drew) | exact HK.out)⟩, ⟨by repeat (first | (with_reducible first | exact HB.out | apply below_alloc | apply pw_below_drewN | apply below_drew1) | exact HB.out)⟩⟩
        · rw [if_neg c5] at H
          exact absurd H (by simp)
      · rw [if_neg c3] at H
        have c3b0 : decide (x5_1 < (x0_1.length : Int)) = false := decide_eq_false c3
        clear c3
        simp only [Option.some.injEq, Prod.mk.injEq] at H
        obtain ⟨rfl, rfl⟩ := H
        obtain ⟨Ao11, co11, eo11⟩ := Kd.R_slice HO_0.out
        subst eo11
        go_wp2
        go_ret
        exact ⟨by first | rfl | (simp [errW_none, errW_some] <;> rfl) | (simp [*, errW_none, errW_some] <;> rfl), by (with_reducible repeat (first | apply Kd.R_alloc | apply Kd.R_drewN | apply Kd.R_drew)); exact HO_0.out, by repeat (first | (with_reducible first | exact HB.out | apply below_alloc | apply pw_below_drewN | apply below_drew1) | exact HB.out), by repeat (first | (with_reducible first | exact HK.out | apply Kept.alloc | apply Kept.drewN | apply Kept.drew) | exact HK.out)⟩

/-! ### laws_markRuleS: function 28, by hand -/
/-- One cell of element i written, or what its row leads to. -/
theorem markCells {base g n cap : Nat} {ok : Nat → Prop} {W : World} {xs : List S56} (h : Kd.S k56 56 W base ok (.slice (some ⟨g, 0, none⟩) n cap) xs) (i : Int) (h0 : 0 ≤ i) (h1 : i < n) :
    ∃ v2 : Value, W.cell? ⟨g, i.toNat * 3, none⟩ = some (.int .i64 (rd_T56 xs i).f0) ∧ W.cell? ⟨g, i.toNat * 3 + 1, none⟩ = some (.string (rd_T56 xs i).f1) ∧ W.cell? ⟨g, i.toNat * 3 + 2, none⟩ = some v2 ∧
      W.frozen? ⟨g, i.toNat * 3, none⟩ = false ∧ W.frozen? ⟨g, i.toNat * 3 + 1, none⟩ = false ∧
      (∀ m : Int, Kd.S k56 56 (W.setCell ⟨g, i.toNat * 3, none⟩ (.int .i64 m)) base ok (.slice (some ⟨g, 0, none⟩) n cap) (xs.set i.toNat ⟨m, (rd_T56 xs i).f1, (rd_T56 xs i).f2⟩) ∧ W.grownBy (W.setCell ⟨g, i.toNat * 3, none⟩ (.int .i64 m)) (some g)) ∧
      (∀ t : ByteArray, Kd.S k56 56 (W.setCell ⟨g, i.toNat * 3 + 1, none⟩ (.string t)) base ok (.slice (some ⟨g, 0, none⟩) n cap) (xs.set i.toNat ⟨(rd_T56 xs i).f0, t, (rd_T56 xs i).f2⟩) ∧ W.grownBy (W.setCell ⟨g, i.toNat * 3 + 1, none⟩ (.string t)) (some g)) ∧
      ∃ oki : Nat → Prop, Kd.R Kd.string 9 W base oki v2 (rd_T56 xs i).f2 ∧ (∀ k, oki k → ok k ∧ k ≠ g) ∧
        ∀ (W1 : World) (ok1 : Nat → Prop) (ys : List ByteArray), Kept W W1 oki → Kd.R Kd.string 9 W1 base (fun k => oki k ∨ ok1 k) v2 ys → Kd.S k56 56 W1 base ok (.slice (some ⟨g, 0, none⟩) n cap) (xs.set i.toNat ⟨(rd_T56 xs i).f0, (rd_T56 xs i).f1, ys⟩) := by
  obtain ⟨oki, c, hcl, hM, hcc, hfr, hoki, hH⟩ := Kd.S_elem h z56 i h0 h1
  obtain ⟨v2, rfl, g2⟩ := k56_openM hM
  refine ⟨v2, hcc 0 _ rfl, hcc 1 _ rfl, hcc 2 _ rfl, hfr 0, hfr 1, fun m => ?_, fun t => ?_, oki, g2, hoki, fun W1 ok1 ys hk hr => ?_⟩
  · exact Kd.S_seg (okg := fun _ => False) (okp := oki) (Kd.H_mono hH (fun k hk => ⟨hk, fun h => h⟩)) h0 h1 (seg := [.int .i64 m]) (j := 0) (show 1 ≤ 3 by decide) (x' := (⟨m, (rd_T56 xs i).f1, (rd_T56 xs i).f2⟩ : S56)) (k56_mkM _ _ _ _ g2) (fun k hk => .inl hk) (fun k hk => hk.elim)
  · exact Kd.S_seg (okg := fun _ => False) (okp := oki) (Kd.H_mono hH (fun k hk => ⟨hk, fun h => h⟩)) h0 h1 (seg := [.string t]) (j := 1) (show 1 + 1 ≤ 3 by decide) (x' := (⟨(rd_T56 xs i).f0, t, (rd_T56 xs i).f2⟩ : S56)) (k56_mkM _ _ _ _ g2) (fun k hk => .inl hk) (fun k hk => hk.elim)
  · refine Kd.H_back (Kd.H_step hH (fun k _ hn hlt => hk.2 k hlt hn)) (x' := (⟨(rd_T56 xs i).f0, (rd_T56 xs i).f1, ys⟩ : S56)) (okp := oki) (k56_mkM _ _ _ _ ?_) (fun k hk => hk)
    exact Kd.R_flat (fun h => h) hr (fun k hv _ => g2.1 k hv)
def laws_markRuleS.l0 : Nat → List S56 → Int → Int → Option (Int × List S56)
  | 0, _, _, _ => none
  | k + 1, x0, x1, x5 => if x5 < (x0.length : Int) then (if 0 ≤ x5 then (some (x0.set x5.toNat ⟨x1, (rd_T56 x0 x5).f1, (rd_T56 x0 x5).f2⟩)).bind fun y1 => (laws_markText.f k (wrap64 (x1 + 1))).bind fun t => (some (y1.set x5.toNat ⟨(rd_T56 y1 x5).f0, t, (rd_T56 y1 x5).f2⟩)).bind fun y2 =>
      (laws_markStringS.f k (rd_T56 y2 x5).f2 (wrap64 (wrap64 (x1 + 1) + 1))).bind fun p => laws_markRuleS.l0 k (y2.set x5.toNat ⟨(rd_T56 y2 x5).f0, (rd_T56 y2 x5).f1, p.2⟩) p.1 (wrap64 (x5 + 1)) else none) else some (x1, x0)
def laws_markRuleS.f (k : Nat) (l0 : List S56) (a1 : Int) : Option (Int × List S56) := laws_markRuleS.l0 k l0 a1 0
set_option maxHeartbeats 8000000 in
set_option maxRecDepth 100000 in
theorem laws_markRuleS.calls (k : Nat) (P0 : Nat → Prop) (u : Value) (l0 : List S56) (a1 r1 : Int) (r2 : List S56) (w0 w : World) (hB : Below w0.heap.size w0 w) (ho0 : Kd.S k56 56 w w0.heap.size P0 u l0) (h : laws_markRuleS.f k l0 a1 = some (r1, r2)) :
    Calls Try.prog 28 #[u, .int .i64 a1] w fun e w' => e = .returned (.int .i64 r1) ∧ Kd.S k56 56 w' w0.heap.size P0 u r2 ∧ Below w0.heap.size w0 w' ∧ Kept w w' P0 := by
  have HO := Aside0.mk ho0
  have HK := Aside0.mk (Kept.refl w P0)
  have HB := Aside0.mk hB
  clear hB ho0
  have H' : Aside0 (laws_markRuleS.l0 k l0 a1 0 = some (r1, r2)) := ⟨h⟩
  clear h
  go_enter Try.func28, Try.ntmps28
  go_wp2
  go_loopg [1, 5] k (fun kq v1 v5 w' => ∃ (x0 : List S56) (x1 x5 : Int), v1 = .int .i64 x1 ∧ v5 = .int .i64 x5 ∧ Aside0 (laws_markRuleS.l0 kq x0 x1 x5 = some (r1, r2)) ∧ Aside0 (kq ≤ k) ∧ Aside0 (Kd.S k56 56 w' w0.heap.size P0 u x0) ∧ Aside0 (Kept w w' P0) ∧ Aside0 (Below w0.heap.size w0 w'))
  case atStart => exact ⟨l0, a1, 0, rfl, rfl, H', ⟨Nat.le_refl _⟩, HO, HK, HB⟩
  case round =>
    clear H' HO HK HB
    obtain ⟨x0, x1, x5, rfl, rfl, HA, HK1, HO, HK, HB⟩ := hrel
    cases gk with
    | zero => exact absurd HA.out (by simp [laws_markRuleS.l0])
    | succ k1 =>
      have H := HA.out
      clear HA
      simp only [laws_markRuleS.l0] at H
      by_cases c3 : x5 < (x0.length : Int)
      · rw [if_pos c3] at H
        have c3b0 : decide (x5 < (x0.length : Int)) = true := decide_eq_true c3
        by_cases c5 : 0 ≤ x5
        · rw [if_pos c5] at H
          have c5b0 : decide (0 ≤ x5) = true := decide_eq_true c5
          simp only [Option.bind_some] at H
          obtain ⟨y1, hy1⟩ : ∃ y, y = x0.set x5.toNat ⟨x1, (rd_T56 x0 x5).f1, (rd_T56 x0 x5).f2⟩ := ⟨_, rfl⟩
          rw [← hy1] at H
          obtain ⟨t, ht0, H⟩ := Option.bind_eq_some_iff.mp H
          obtain ⟨y2, hy2⟩ : ∃ y, y = y1.set x5.toNat ⟨(rd_T56 y1 x5).f0, t, (rd_T56 y1 x5).f2⟩ := ⟨_, rfl⟩
          rw [← hy2] at H
          obtain ⟨⟨m3, ys⟩, hm0, H⟩ := Option.bind_eq_some_iff.mp H
          obtain ⟨y3, hy3⟩ : ∃ y, y = y2.set x5.toNat ⟨(rd_T56 y2 x5).f0, (rd_T56 y2 x5).f1, ys⟩ := ⟨_, rfl⟩
          replace H : laws_markRuleS.l0 k1 y3 m3 (wrap64 (x5 + 1)) = some (r1, r2) := by rw [hy3]; exact H
          have len1 : y1.length = x0.length := by rw [hy1, List.length_set]
          have len2 : y2.length = x0.length := by rw [hy2, List.length_set, len1]
          have len3 : y3.length = x0.length := by rw [hy3, List.length_set, len2]
          have H' := Aside0.mk H
          have HT := Aside0.mk ht0
          have HM := Aside0.mk hm0
          clear H ht0 hm0
          obtain ⟨g, cap, rfl, hg0, hgl, _⟩ := Kd.S_form HO.out (by omega)
          have HP : Aside0 (P0 g) := ⟨by obtain ⟨_, hR⟩ := HO.out; exact hR.1 g (by simp [Value.ownBlock])⟩
          obtain ⟨va, ha0, ha1, ha2, hfa0, hfa1, hsa0, _, _⟩ := markCells HO.out x5 c5 c3
          obtain ⟨hs1, hg1⟩ := hsa0 x1
          rw [← hy1] at hs1
          have HO1 := Aside0.mk hs1
          have HK1' := Aside0.mk (Kept.of_grown hg1 HK.out (fun k hk => .inl (by injection hk with hk; exact hk ▸ HP.out)))
          have HB1 := Aside0.mk (below_set (j := x5.toNat * 3) (v := .int .i64 x1) HB.out hg0)
          have HG := Aside0.mk hg0
          have HY2 := Aside0.mk hy2
          have HY3 := Aside0.mk hy3
          have HC5 := Aside0.mk c5
          have HC3 := Aside0.mk c3
          have p3 := eq_true c3
          have p5 := eq_true c5
          clear c3 c5 hs1 hg1 hsa0 hg0 hy1 hy2 hy3 hgl
          go_wp2_with (first | (go_at_call 54; (with_reducible refine (laws_markText.calls k1 _ t _ HT.out).mono ?_); rintro e w2 ⟨rfl, hb⟩; (have HO2 := Aside0.mk (Kd.S_below HO1.out hb)); (have HK2 := Aside0.mk (HK1'.out.below hb)); (have HB2 := Aside0.mk (below_step HB1.out hb)); clear hb HO HK HB HO1 HK1' HB1; (obtain ⟨vb, hb0, hb1, hb2, hfb0, hfb1, _, hsb1, _⟩ := markCells HO2.out x5 HC5.out HC3.out); (obtain ⟨hs2, hg2⟩ := hsb1 t); (rw [← HY2.out] at hs2); (have HK3 := Aside0.mk (Kept.of_grown hg2 HK2.out (fun k hk => .inl (by injection hk with hk; exact hk ▸ HP.out)))); (have HB3 := Aside0.mk (below_set (j := x5.toNat * 3 + 1) (v := .string t) HB2.out HG.out)); (obtain ⟨vc, _, _, hc2, _, _, _, _, hc3⟩ := markCells hs2 x5 HC5.out HC3.out); (have HX := Aside0.mk hc3); clear hc3 hs2 hg2 hsb1) | (go_at_call 29; (obtain ⟨oki, hri, hoki, hend⟩ := HX.out); (with_reducible refine (laws_markStringS.calls k1 oki _ _ _ m3 ys w0 _ HB3.out hri HM.out).mono ?_); rintro e w4 ⟨rfl, hr4, hb4, hk4⟩; (have HO4 := Aside0.mk (hend _ _ _ hk4 hr4)); (rw [← HY3.out] at HO4); (have HK4 := Aside0.mk (HK3.out.then_ hk4 (fun k hk => .inl (hoki k hk).1))); (have HB4 := Aside0.mk hb4); clear hr4 hb4 hk4 hend hri))
          go_roundg k1
          case measure => have := HK1.out; omega
          case rel => exact ⟨y3, m3, wrap64 (x5 + 1), rfl, rfl, H', ⟨by have := HK1.out; omega⟩, HO4, HK4, HB4⟩
        · rw [if_neg c5] at H
          exact absurd H (by simp)
      · rw [if_neg c3] at H
        have c3b0 : decide (x5 < (x0.length : Int)) = false := decide_eq_false c3
        clear c3
        simp only [Option.some.injEq, Prod.mk.injEq] at H
        obtain ⟨rfl, rfl⟩ := H
        obtain ⟨Ao, co, eo⟩ := Kd.S_slice HO.out
        subst eo
        go_wp2
        go_ret
        exact ⟨rfl, HO.out, HB.out, HK.out⟩


/-! ### laws_markConfig: function 9, by hand -/
theorem S_none {α : Type} {d : Kd α} {e base : Nat} {ok : Nat → Prop} {w : World} {v : Value} (h : Kd.S d e w base ok v []) : Kd.S d e w base (fun k => some k = v.ownBlock) v [] := by
  obtain ⟨f, h0, inner, ho, hr⟩ := h
  exact ⟨f, fun k hk => hk.symm, inner, ho, hr.1, fun j p hj => by simp at hj⟩
/-- A configuration's five rows of the call's own, two of them empty, all elder than N. -/
structure Cfg (w : World) (base N : Nat) (v2 v3 v4 v5 v6 : Value) (l2 : List S56) (l5 l6 : List ByteArray) : Prop where
  s2 : Kd.S k56 56 w base (fun k => k < N ∧ some k ≠ v3.ownBlock ∧ some k ≠ v4.ownBlock ∧ some k ≠ v5.ownBlock ∧ some k ≠ v6.ownBlock) v2 l2
  s3 : Kd.S k56 56 w base (fun k => some k = v3.ownBlock) v3 []
  s4 : Kd.S k56 56 w base (fun k => some k = v4.ownBlock) v4 []
  r5 : Kd.R Kd.string 9 w base (fun k => some k = v5.ownBlock) v5 l5
  r6 : Kd.R Kd.string 9 w base (fun k => some k = v6.ownBlock) v6 l6
  n3 : ∀ k, some k = v3.ownBlock → k < N
  n4 : ∀ k, some k = v4.ownBlock → k < N
  n5 : ∀ k, some k = v5.ownBlock → k < N
  n6 : ∀ k, some k = v6.ownBlock → k < N
  d34 : ∀ k, some k = v3.ownBlock → some k ≠ v4.ownBlock
  d35 : ∀ k, some k = v3.ownBlock → some k ≠ v5.ownBlock
  d36 : ∀ k, some k = v3.ownBlock → some k ≠ v6.ownBlock
  d45 : ∀ k, some k = v4.ownBlock → some k ≠ v5.ownBlock
  d46 : ∀ k, some k = v4.ownBlock → some k ≠ v6.ownBlock
  d56 : ∀ k, some k = v5.ownBlock → some k ≠ v6.ownBlock
section
variable {w W : World} {base N : Nat} {v2 v3 v4 v5 v6 : Value} {l2 l2' : List S56} {l5 l5' l6 l6' : List ByteArray} {S : Nat → Prop}
theorem Cfg.of (h2 : Kd.S k56 56 w base (fun k_ => some k_ ≠ v3.ownBlock ∧ some k_ ≠ v4.ownBlock ∧ some k_ ≠ v5.ownBlock ∧ some k_ ≠ v6.ownBlock) v2 l2)
    (h3 : Kd.S k56 56 w base (fun k_ => some k_ ≠ v2.ownBlock ∧ some k_ ≠ v4.ownBlock ∧ some k_ ≠ v5.ownBlock ∧ some k_ ≠ v6.ownBlock) v3 [])
    (h4 : Kd.S k56 56 w base (fun k_ => some k_ ≠ v2.ownBlock ∧ some k_ ≠ v3.ownBlock ∧ some k_ ≠ v5.ownBlock ∧ some k_ ≠ v6.ownBlock) v4 [])
    (h5 : Kd.R Kd.string 9 w base (fun k_ => some k_ ≠ v6.ownBlock) v5 l5) (h6 : Kd.R Kd.string 9 w base (fun k_ => some k_ ≠ v5.ownBlock) v6 l6) : Cfg w base w.heap.size v2 v3 v4 v5 v6 l2 l5 l6 where
  s2 := Kd.S_mono (Kd.S_bound h2) (fun k hk => ⟨hk.2.2.1, hk.1⟩)
  s3 := S_none h3
  s4 := S_none h4
  r5 := Kd.R_tight rfl h5
  r6 := Kd.R_tight rfl h6
  n3 := fun k hk => Kd.S_lt h3 k hk.symm
  n4 := fun k hk => Kd.S_lt h4 k hk.symm
  n5 := fun k hk => Kd.R_lt h5 k hk.symm
  n6 := fun k hk => Kd.R_lt h6 k hk.symm
  d34 := fun k hk => (by obtain ⟨_, hR⟩ := h3; exact (hR.1 k hk.symm).2.1)
  d35 := fun k hk => (by obtain ⟨_, hR⟩ := h3; exact (hR.1 k hk.symm).2.2.1)
  d36 := fun k hk => (by obtain ⟨_, hR⟩ := h3; exact (hR.1 k hk.symm).2.2.2)
  d45 := fun k hk => (by obtain ⟨_, hR⟩ := h4; exact (hR.1 k hk.symm).2.2.1)
  d46 := fun k hk => (by obtain ⟨_, hR⟩ := h4; exact (hR.1 k hk.symm).2.2.2)
  d56 := fun k hk => h5.1 k hk.symm
theorem Cfg.below (h : Cfg w base N v2 v3 v4 v5 v6 l2 l5 l6) (hb : Below w.heap.size w W) : Cfg W base N v2 v3 v4 v5 v6 l2 l5 l6 :=
  { h with s2 := Kd.S_below h.s2 hb, s3 := Kd.S_below h.s3 hb, s4 := Kd.S_below h.s4 hb, r5 := Kd.R_below h.r5 hb, r6 := Kd.R_below h.r6 hb }
theorem Cfg.mark2 (h : Cfg w base N v2 v3 v4 v5 v6 l2 l5 l6) (hk : Kept w W (fun k => k < N ∧ some k ≠ v3.ownBlock ∧ some k ≠ v4.ownBlock ∧ some k ≠ v5.ownBlock ∧ some k ≠ v6.ownBlock)) (hs : Kd.S k56 56 W base (fun k => k < N ∧ some k ≠ v3.ownBlock ∧ some k ≠ v4.ownBlock ∧ some k ≠ v5.ownBlock ∧ some k ≠ v6.ownBlock) v2 l2') : Cfg W base N v2 v3 v4 v5 v6 l2' l5 l6 :=
  { h with s2 := hs, s3 := Kd.S_kept h.s3 hk (fun k e h2 => h2.2.1 e), s4 := Kd.S_kept h.s4 hk (fun k e h2 => h2.2.2.1 e), r5 := Kd.R_kept h.r5 hk (fun k e h2 => h2.2.2.2.1 e), r6 := Kd.R_kept h.r6 hk (fun k e h2 => h2.2.2.2.2 e) }
theorem Cfg.mark3 (h : Cfg w base N v2 v3 v4 v5 v6 l2 l5 l6) (hk : Kept w W (fun k => some k = v3.ownBlock)) (hs : Kd.S k56 56 W base (fun k => some k = v3.ownBlock) v3 []) : Cfg W base N v2 v3 v4 v5 v6 l2 l5 l6 :=
  { h with s2 := Kd.S_kept h.s2 hk (fun k e h2 => e.2.1 h2), s3 := hs, s4 := Kd.S_kept h.s4 hk (fun k e h2 => h.d34 k h2 e), r5 := Kd.R_kept h.r5 hk (fun k e h2 => h.d35 k h2 e), r6 := Kd.R_kept h.r6 hk (fun k e h2 => h.d36 k h2 e) }
theorem Cfg.mark4 (h : Cfg w base N v2 v3 v4 v5 v6 l2 l5 l6) (hk : Kept w W (fun k => some k = v4.ownBlock)) (hs : Kd.S k56 56 W base (fun k => some k = v4.ownBlock) v4 []) : Cfg W base N v2 v3 v4 v5 v6 l2 l5 l6 :=
  { h with s2 := Kd.S_kept h.s2 hk (fun k e h2 => e.2.2.1 h2), s3 := Kd.S_kept h.s3 hk (fun k e h2 => h.d34 k e h2), s4 := hs, r5 := Kd.R_kept h.r5 hk (fun k e h2 => h.d45 k h2 e), r6 := Kd.R_kept h.r6 hk (fun k e h2 => h.d46 k h2 e) }
theorem Cfg.mark5 (h : Cfg w base N v2 v3 v4 v5 v6 l2 l5 l6) (hk : Kept w W (fun k => some k = v5.ownBlock)) (hs : Kd.R Kd.string 9 W base (fun k => some k = v5.ownBlock) v5 l5') : Cfg W base N v2 v3 v4 v5 v6 l2 l5' l6 :=
  { h with s2 := Kd.S_kept h.s2 hk (fun k e h2 => e.2.2.2.1 h2), s3 := Kd.S_kept h.s3 hk (fun k e h2 => h.d35 k e h2), s4 := Kd.S_kept h.s4 hk (fun k e h2 => h.d45 k e h2), r5 := hs, r6 := Kd.R_kept h.r6 hk (fun k e h2 => h.d56 k h2 e) }
theorem Cfg.mark6 (h : Cfg w base N v2 v3 v4 v5 v6 l2 l5 l6) (hk : Kept w W (fun k => some k = v6.ownBlock)) (hs : Kd.R Kd.string 9 W base (fun k => some k = v6.ownBlock) v6 l6') : Cfg W base N v2 v3 v4 v5 v6 l2 l5 l6' :=
  { h with s2 := Kd.S_kept h.s2 hk (fun k e h2 => e.2.2.2.2 h2), s3 := Kd.S_kept h.s3 hk (fun k e h2 => h.d36 k e h2), s4 := Kd.S_kept h.s4 hk (fun k e h2 => h.d46 k e h2), r5 := Kd.R_kept h.r5 hk (fun k e h2 => h.d56 k e h2), r6 := hs }
/-- What was told of a block younger than N, behind a mark. -/
theorem blkBox {g : Nat} {o : Obj} (hN : N ≤ g) (hb : w.heap[g]? = some o) (hk : Kept w W S) (hs : ∀ k, S k → k < N) : W.heap[g]? = some o := blk_kept hb hk (fun h => by have := hs g h; omega)
theorem blkCell {g t : Nat} {cs : Array Value} (hb : w.heap[g]? = some (.cells cs t (0, 0))) : ∀ (i : Nat) (v : Value), cs[i]? = some v → w.cell? ⟨g, i, none⟩ = some v := fun i v h => by
  simp only [World.cell?, hb]; exact h
end
set_option maxHeartbeats 8000000 in
set_option maxRecDepth 100000 in
theorem laws_markConfig.calls (k : Nat) (b0 b1 b7 b8 : Bool) (A2 A3 A4 A5 A6 : Option Addr) (n2 n3 n4 n5 n6 c2 c3 c4 c5 c6 : Nat) (l2 l2' : List S56) (l5 l5' l6 l6' : List ByteArray) (a1 m2 m5 r : Int) (w0 w : World) (N : Nat) (hN : N ≤ w.heap.size) (hB : Below w0.heap.size w0 w)
    (hC : Cfg w w0.heap.size N (.slice A2 n2 c2) (.slice A3 n3 c3) (.slice A4 n4 c4) (.slice A5 n5 c5) (.slice A6 n6 c6) l2 l5 l6) (h2 : laws_markRuleS.f (k + 1) l2 a1 = some (m2, l2')) (h5 : laws_markStringS.f k l5 m2 = some (m5, l5')) (h6 : laws_markStringS.f k l6 m5 = some (r, l6')) :
    Calls Try.prog 9 #[.agg #[.bool b0, .bool b1, .slice A2 n2 c2, .slice A3 n3 c3, .slice A4 n4 c4, .slice A5 n5 c5, .slice A6 n6 c6, .bool b7, .bool b8], .int .i64 a1] w fun e w' => e = .returned (.int .i64 r) ∧
      Cfg w' w0.heap.size N (.slice A2 n2 c2) (.slice A3 n3 c3) (.slice A4 n4 c4) (.slice A5 n5 c5) (.slice A6 n6 c6) l2' l5' l6' ∧ Below w0.heap.size w0 w' ∧ Kept w w' (fun k => k < N) := by
  have h3 : laws_markRuleS.f (k + 1) [] m2 = some (m2, []) := rfl
  have H2 := Aside0.mk h2
  have H3 := Aside0.mk h3
  have H5 := Aside0.mk h5
  have H6 := Aside0.mk h6
  clear h2 h3 h5 h6
  have hal := below_alloc (Below.refl w.heap.size w) (.cells #[.bool b0, .bool b1, .slice A2 n2 c2, .slice A3 n3 c3, .slice A4 n4 c4, .slice A5 n5 c5, .slice A6 n6 c6, .bool b7, .bool b8] 25 (0, 0))
  have X := blk_new w (.cells #[.bool b0, .bool b1, .slice A2 n2 c2, .slice A3 n3 c3, .slice A4 n4 c4, .slice A5 n5 c5, .slice A6 n6 c6, .bool b7, .bool b8] 25 (0, 0))
  have HC1 := Aside0.mk (hC.below hal)
  have HB1 := Aside0.mk (below_step hB hal)
  have HK1 := Aside0.mk (Kept.of_below hal (fun k => k < N))
  have HX1 := Aside0.mk X
  have HN := Aside0.mk hN
  clear hC hB hal X hN
  have y1 := blkCell HX1.out 2 (.slice A2 n2 c2) rfl
  go_enter Try.func9, Try.ntmps9
  go_wp2_with (first | (go_at_call 28; (with_reducible refine (laws_markRuleS.calls _ _ _ l2 _ m2 l2' w0 _ HB1.out HC1.out.s2 H2.out).mono ?_); rintro e w2 ⟨rfl, hs, hb, hk⟩; (have HC2 := Aside0.mk (HC1.out.mark2 hk hs)); (have HB2 := Aside0.mk hb); (have HK2 := Aside0.mk (HK1.out.then_ hk (fun k h => .inl h.1))); (have HX2 := Aside0.mk (blkBox HN.out HX1.out hk (fun k h => h.1))); clear y1 hs hb hk HC1 HB1 HK1 HX1; (have y2 := blkCell HX2.out 3 (.slice A3 n3 c3) rfl)) | (go_at_call 28; (with_reducible refine (laws_markRuleS.calls _ _ _ [] _ m2 [] w0 _ HB2.out HC2.out.s3 H3.out).mono ?_); rintro e w3 ⟨rfl, hs, hb, hk⟩; (have HC3 := Aside0.mk (HC2.out.mark3 hk hs)); (have HB3 := Aside0.mk hb); (have HK3 := Aside0.mk (HK2.out.then_ hk (fun k h => .inl (HC2.out.n3 k h)))); (have HX3 := Aside0.mk (blkBox HN.out HX2.out hk HC2.out.n3)); clear y2 hs hb hk HC2 HB2 HK2 HX2; (have y3 := blkCell HX3.out 4 (.slice A4 n4 c4) rfl)) | (go_at_call 28; (with_reducible refine (laws_markRuleS.calls _ _ _ [] _ m2 [] w0 _ HB3.out HC3.out.s4 H3.out).mono ?_); rintro e w4 ⟨rfl, hs, hb, hk⟩; (have HC4 := Aside0.mk (HC3.out.mark4 hk hs)); (have HB4 := Aside0.mk hb); (have HK4 := Aside0.mk (HK3.out.then_ hk (fun k h => .inl (HC3.out.n4 k h)))); (have HX4 := Aside0.mk (blkBox HN.out HX3.out hk HC3.out.n4)); clear y3 hs hb hk HC3 HB3 HK3 HX3; (have y4 := blkCell HX4.out 5 (.slice A5 n5 c5) rfl)) | (go_at_call 29; (with_reducible refine (laws_markStringS.calls _ _ _ l5 _ m5 l5' w0 _ HB4.out HC4.out.r5 H5.out).mono ?_); rintro e w5 ⟨rfl, hs, hb, hk⟩; (have HC5 := Aside0.mk (HC4.out.mark5 hk (Kd.R_tight rfl hs))); (have HB5 := Aside0.mk hb); (have HK5 := Aside0.mk (HK4.out.then_ hk (fun k h => .inl (HC4.out.n5 k h)))); (have HX5 := Aside0.mk (blkBox HN.out HX4.out hk HC4.out.n5)); clear y4 hs hb hk HC4 HB4 HK4 HX4; (have y5 := blkCell HX5.out 6 (.slice A6 n6 c6) rfl)) | (go_at_call 29; (with_reducible refine (laws_markStringS.calls _ _ _ l6 _ r l6' w0 _ HB5.out HC5.out.r6 H6.out).mono ?_); rintro e w6 ⟨rfl, hs, hb, hk⟩; (have HC6 := Aside0.mk (HC5.out.mark6 hk (Kd.R_tight rfl hs))); (have HB6 := Aside0.mk hb); (have HK6 := Aside0.mk (HK5.out.then_ hk (fun k h => .inl (HC5.out.n6 k h)))); clear y5 hs hb hk HC5 HB5 HK5 HX5))
  go_ret
  exact ⟨rfl, HC6.out, HB6.out, HK6.out⟩


end Go.Proofs.Ytmeafbneklphnaa.PFnExactDefaultConfig
