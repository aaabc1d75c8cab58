/- By a program of this session, out of the kit's print and contracts made by hand: the machine side of a law; Lean checks it. No conditions. -/
import Derived.Test.YtlhhcbhmnmndiaaPFnExactNamesInx0
import Derived.Test.YtlhhcbhmnmndiaaPFnExactNamesInx12
namespace Go.Proofs.Ytlhhcbhmnmndiaa.PFnExactNamesIn
open Go.RowKit Go.Proofs.YtlhhcbhmnmndiaaW.PrintWords Go.Proofs.YtlhhcbhmnmndiaaW.PrintLast Go.Proofs.YtlhhcbhmnmndiaaW.PrintMore
attribute [local go_sem] max2_int min2_int max_two min_two max_three min_three max_four min_four   -- for this text's walks alone
set_option linter.unusedVariables false
set_option linter.unusedSimpArgs false

/-! ### laws_toNodeS: function 8, by hand -/
mutual
def laws_toNodeS.l0 : Nat → List S44 → List S49 → Int → Option (List S49)
  | 0, _, _, _ => none
  | k + 1, x0, x3, x4 => if x4 < (x0.length : Int) then (if 0 ≤ x4 then ((laws_toNode.f k (rd_T44 x0 x4).f0 (rd_T44 x0 x4).f1 (rd_T44 x0 x4).f2 (rd_T44 x0 x4).f3 (rd_T44 x0 x4).f4 (rd_T44 x0 x4).f5).bind fun b => (if x4 < (x3.length : Int) then (laws_toNodeS.l0 k x0 (x3.set (x4 : Int).toNat (⟨b.1, b.2.1, b.2.2.1, b.2.2.2.1, b.2.2.2.2.1, b.2.2.2.2.2⟩ : S49)) (wrap64 (x4 + 1))) else none)) else none) else (some x3)
def laws_toNodeS.f : Nat → List S44 → Option (List S49)
  | 0, _ => none
  | k + 1, l0 => if 0 ≤ (l0.length : Int) then (if ((l0.length : Int) : Int).toNat ≤ 2932031007402 then (laws_toNodeS.l0 k l0 (List.replicate ((l0.length : Int) : Int).toNat z49) 0) else none) else none
def laws_toNode.f : Nat → Int → Int → ByteArray → ByteArray → List S73 → List S44 → Option (Int × Int × ByteArray × ByteArray × (List S68) × (List S49))
  | 0, _, _, _, _, _, _ => none
  | k + 1, a0, a1, a2, a3, l4, l5 => (laws_toAttrS.f k l4).bind fun t => ((laws_toNodeS.f k l5).bind fun u => (some (a0, a1, a2, a3, t, u)))
end
/-- What toNode promises: a node all of whose rows are new and lie apart. -/
def toNodeC (j : Nat) : Prop := ∀ (x : S44) (A4 : Option Addr) (c4 : Nat) (A5 : Option Addr) (c5 : Nat) (r1 r2 : Int) (r3 r4 : ByteArray) (r5 : List S68) (r6 : List S49) (w : World), Kd.C k73 w A4 x.f4.length x.f4 → x.f4.length ≤ c4 → Kd.C k44 w A5 x.f5.length x.f5 → x.f5.length ≤ c5 → laws_toNode.f j x.f0 x.f1 x.f2 x.f3 x.f4 x.f5 = some (r1, r2, r3, r4, r5, r6) →
  Calls Try.prog 26 #[.agg #[.int .i64 x.f0, .int .i64 x.f1, .string x.f2, .string x.f3, .slice A4 x.f4.length c4, .slice A5 x.f5.length c5]] w fun e w' => ∃ A4' c4' A5' c5', e = .returned (.agg #[.int .i64 r1, .int .i64 r2, .string r3, .string r4, .slice A4' r5.length c4', .slice A5' r6.length c5']) ∧ kTN.M w' w.heap.size (fun k => w.heap.size ≤ k) ⟨r1, r2, r3, r4, r5, r6⟩ [.int .i64 r1, .int .i64 r2, .string r3, .string r4, .slice A4' r5.length c4', .slice A5' r6.length c5'] ∧ Below w.heap.size w w'
def toNodeSC (j : Nat) : Prop := ∀ (A0 : Option Addr) (c0 : Nat) (l0 : List S44) (r : List S49) (w : World), Kd.C k44 w A0 l0.length l0 → l0.length ≤ c0 → laws_toNodeS.f j l0 = some r →
  Calls Try.prog 8 #[.slice A0 l0.length c0] w fun e w' => ∃ A c, e = .returned (.slice A r.length c) ∧ Kd.S kTN 49 w' w.heap.size (fun k => w.heap.size ≤ k) (.slice A r.length c) r ∧ Below w.heap.size w w'
set_option maxHeartbeats 8000000 in
set_option maxRecDepth 1000000 in
theorem toNode_step (k : Nat) (ih : ∀ j, j < k → toNodeSC j) : toNodeC k := by
  intro x A4 c4 A5 c5 r1 r2 r3 r4 r5 r6 w h4 m4 h5 m5 h
  cases k with
  | zero => exact absurd h (by simp [laws_toNode.f])
  | succ k =>
  simp only [laws_toNode.f] at h
  obtain ⟨ats, ha, h⟩ := Option.bind_eq_some_iff.mp h
  obtain ⟨ks, hk, h⟩ := Option.bind_eq_some_iff.mp h
  simp only [Option.some.injEq, Prod.mk.injEq] at h
  obtain ⟨rfl, rfl, rfl, rfl, rfl, rfl⟩ := h
  have HA : Aside0 (Calls Try.prog 40 #[.slice A4 x.f4.length c4] (((w.alloc (.cells #[.int .i64 x.f0, .int .i64 x.f1, .string x.f2, .string x.f3, .slice A4 x.f4.length c4, .slice A5 x.f5.length c5] 44 (0, 0))).alloc (.cells #[.int .i64 0, .int .i64 0, .string ⟨#[]⟩, .string ⟨#[]⟩, .slice none 0 0, .slice none 0 0] 49 (0, 0))).alloc (.cells #[.int .i64 x.f0, .int .i64 x.f1, .string x.f2, .string x.f3, .slice none 0 0, .slice none 0 0] 49 (0, 0))) fun e w' => ∃ A c, e = .returned (.slice A ats.length c) ∧ Kd.R k68 68 w' w.heap.size (fun k => some k = (Value.slice A ats.length c).ownBlock) (.slice A ats.length c) ats ∧ (∀ k, some k = (Value.slice A ats.length c).ownBlock → w.heap.size + 1 + 1 < k ∧ k < w'.heap.size) ∧
      w'.heap[w.heap.size]? = some (.cells #[.int .i64 x.f0, .int .i64 x.f1, .string x.f2, .string x.f3, .slice A4 x.f4.length c4, .slice A5 x.f5.length c5] 44 (0, 0)) ∧ w'.heap[w.heap.size + 1]? = some (.cells #[.int .i64 0, .int .i64 0, .string ⟨#[]⟩, .string ⟨#[]⟩, .slice none 0 0, .slice none 0 0] 49 (0, 0)) ∧ w'.heap[w.heap.size + 1 + 1]? = some (.cells #[.int .i64 x.f0, .int .i64 x.f1, .string x.f2, .string x.f3, .slice none 0 0, .slice none 0 0] 49 (0, 0)) ∧ Below w.heap.size w w') := by
    have b3 := below_alloc (below_alloc (below_alloc (Below.refl w.heap.size w) (.cells #[.int .i64 x.f0, .int .i64 x.f1, .string x.f2, .string x.f3, .slice A4 x.f4.length c4, .slice A5 x.f5.length c5] 44 (0, 0))) (.cells #[.int .i64 0, .int .i64 0, .string ⟨#[]⟩, .string ⟨#[]⟩, .slice none 0 0, .slice none 0 0] 49 (0, 0))) (.cells #[.int .i64 x.f0, .int .i64 x.f1, .string x.f2, .string x.f3, .slice none 0 0, .slice none 0 0] 49 (0, 0))
    have x1 := blk_alloc (blk_alloc (blk_new w (.cells #[.int .i64 x.f0, .int .i64 x.f1, .string x.f2, .string x.f3, .slice A4 x.f4.length c4, .slice A5 x.f5.length c5] 44 (0, 0))) (.cells #[.int .i64 0, .int .i64 0, .string ⟨#[]⟩, .string ⟨#[]⟩, .slice none 0 0, .slice none 0 0] 49 (0, 0))) (.cells #[.int .i64 x.f0, .int .i64 x.f1, .string x.f2, .string x.f3, .slice none 0 0, .slice none 0 0] 49 (0, 0))
    have x2 := blk_alloc (blk_new (w.alloc (.cells #[.int .i64 x.f0, .int .i64 x.f1, .string x.f2, .string x.f3, .slice A4 x.f4.length c4, .slice A5 x.f5.length c5] 44 (0, 0))) (.cells #[.int .i64 0, .int .i64 0, .string ⟨#[]⟩, .string ⟨#[]⟩, .slice none 0 0, .slice none 0 0] 49 (0, 0))) (.cells #[.int .i64 x.f0, .int .i64 x.f1, .string x.f2, .string x.f3, .slice none 0 0, .slice none 0 0] 49 (0, 0))
    have x3 := blk_new ((w.alloc (.cells #[.int .i64 x.f0, .int .i64 x.f1, .string x.f2, .string x.f3, .slice A4 x.f4.length c4, .slice A5 x.f5.length c5] 44 (0, 0))).alloc (.cells #[.int .i64 0, .int .i64 0, .string ⟨#[]⟩, .string ⟨#[]⟩, .slice none 0 0, .slice none 0 0] 49 (0, 0))) (.cells #[.int .i64 x.f0, .int .i64 x.f1, .string x.f2, .string x.f3, .slice none 0 0, .slice none 0 0] 49 (0, 0))
    rw [World.size_alloc] at x2
    rw [World.size_alloc, World.size_alloc] at x3
    refine ⟨(laws_toAttrS.calls k A4 c4 x.f4 ats _ (Kd.C_below h4 b3) m4 ha).mono ?_⟩
    rintro e w' ⟨v, rfl, hr, hb⟩
    obtain ⟨A, c, rfl⟩ := Kd.R_slice hr
    have hs := Kd.R_base hr
    rw [World.size_alloc, World.size_alloc, World.size_alloc] at hs
    exact ⟨A, c, rfl, Kd.R_lower (Kd.R_tight rfl hr) b3.size, fun k hk => ⟨by have := hs k hk.symm; omega, Kd.R_lt hr k hk.symm⟩, blk_below x1 hb, blk_below x2 hb, blk_below x3 hb, b3.trans (hb.mono b3.size)⟩
  have QS : Aside0 (∀ V, Below w.heap.size w V → Calls Try.prog 8 #[.slice A5 x.f5.length c5] V fun e w' => ∃ A c, e = .returned (.slice A ks.length c) ∧ Kd.S kTN 49 w' V.heap.size (fun k => V.heap.size ≤ k) (.slice A ks.length c) ks ∧ Below V.heap.size V w') := ⟨fun V hV => ih k (Nat.lt_succ_self k) A5 c5 x.f5 ks V (Kd.C_below h5 hV) m5 hk⟩
  clear h4 m4 h5 m5 ha hk ih
  have hn1 : w.heap.size ≠ w.heap.size + 1 + 1 := by omega
  have hn2 : w.heap.size + 1 ≠ w.heap.size + 1 + 1 := by omega
  have hn3 : w.heap.size + 1 + 1 ≠ w.heap.size + 1 := by omega
  go_enter Try.func26, Try.ntmps26
  go_wp2_with (first | (go_at_call 40; (with_reducible refine HA.out.mono ?_); rintro e w2 ⟨Av, cv, rfl, hr, hk, y1, y2, y3, hb⟩; (have HR := Aside0.mk hr); (have HK := Aside0.mk hk); (have HB2 := Aside0.mk hb); (have Y1 := Aside0.mk y1); (have Y2 := Aside0.mk y2); (have Y3 := Aside0.mk y3); (have q5 : w2.cell? ⟨w.heap.size, 5, none⟩ = some (.slice A5 x.f5.length c5) := (blk_cell y1 5).trans rfl); (have q4 : w2.cell? ⟨w.heap.size + 1 + 1, 4, none⟩ = some (.slice none 0 0) := (blk_cell y3 4).trans rfl); (have f4 : w2.frozen? ⟨w.heap.size + 1 + 1, 4, none⟩ = false := blk_frozen y3 4); clear hr hb y1 y2 y3 hk HA) | (go_at_call 8; (with_reducible refine (QS.out _ (below_set HB2.out (by omega))).mono ?_); rintro e w3 ⟨Aw, cw, rfl, hs, hb⟩; (have HT := Aside0.mk hs); (have HB3 := Aside0.mk hb); (have Z2 := Aside0.mk (blk_below (blk_far (p := ⟨w.heap.size + 1 + 1, 4, none⟩) Y2.out hn2 (.slice Av ats.length cv)) hb)); (have z3 := blk_below (blk_put Y3.out 4 (.slice Av ats.length cv) (cs' := #[.int .i64 x.f0, .int .i64 x.f1, .string x.f2, .string x.f3, .slice Av ats.length cv, .slice none 0 0]) rfl) hb); (have Z3 := Aside0.mk z3); (have p0 : w3.cell? ⟨w.heap.size + 1 + 1, 0, none⟩ = some (.int .i64 x.f0) := (blk_cell z3 0).trans rfl); (have p1 : w3.cell? ⟨w.heap.size + 1 + 1, 1, none⟩ = some (.int .i64 x.f1) := (blk_cell z3 1).trans rfl); (have p2 : w3.cell? ⟨w.heap.size + 1 + 1, 2, none⟩ = some (.string x.f2) := (blk_cell z3 2).trans rfl); (have p3 : w3.cell? ⟨w.heap.size + 1 + 1, 3, none⟩ = some (.string x.f3) := (blk_cell z3 3).trans rfl); (have p4 : w3.cell? ⟨w.heap.size + 1 + 1, 4, none⟩ = some (.slice Av ats.length cv) := (blk_cell z3 4).trans rfl); (have p5 : w3.cell? ⟨w.heap.size + 1 + 1, 5, none⟩ = some (.slice none 0 0) := (blk_cell z3 5).trans rfl); (have f5 : w3.frozen? ⟨w.heap.size + 1 + 1, 5, none⟩ = false := blk_frozen z3 5); (have g0 : w3.cell? ⟨w.heap.size + 1, 0, none⟩ = some (.int .i64 0) := (blk_cell Z2.out 0).trans rfl); (have g1 : w3.cell? ⟨w.heap.size + 1, 1, none⟩ = some (.int .i64 0) := (blk_cell Z2.out 1).trans rfl); (have g2 : w3.cell? ⟨w.heap.size + 1, 2, none⟩ = some (.string ⟨#[]⟩) := (blk_cell Z2.out 2).trans rfl); (have g3 : w3.cell? ⟨w.heap.size + 1, 3, none⟩ = some (.string ⟨#[]⟩) := (blk_cell Z2.out 3).trans rfl); (have g4 : w3.cell? ⟨w.heap.size + 1, 4, none⟩ = some (.slice none 0 0) := (blk_cell Z2.out 4).trans rfl); (have g5 : w3.cell? ⟨w.heap.size + 1, 5, none⟩ = some (.slice none 0 0) := (blk_cell Z2.out 5).trans rfl); (have k0 := blk_frozen Z2.out 0); (have k1 := blk_frozen Z2.out 1); (have k2 := blk_frozen Z2.out 2); (have k3 := blk_frozen Z2.out 3); (have k4 := blk_frozen Z2.out 4); (have k5 := blk_frozen Z2.out 5); clear hs hb z3))
  have HKW : Kept w3 (((((((w3.setCell ⟨w.heap.size + 1 + 1, 5, none⟩ (.slice Aw ks.length cw)).setCell ⟨w.heap.size + 1, 0, none⟩ (.int .i64 x.f0)).setCell ⟨w.heap.size + 1, 1, none⟩ (.int .i64 x.f1)).setCell ⟨w.heap.size + 1, 2, none⟩ (.string x.f2)).setCell ⟨w.heap.size + 1, 3, none⟩ (.string x.f3)).setCell ⟨w.heap.size + 1, 4, none⟩ (.slice Av ats.length cv)).setCell ⟨w.heap.size + 1, 5, none⟩ (.slice Aw ks.length cw)) (fun k => k = w.heap.size + 1 ∨ k = w.heap.size + 1 + 1) := Kept.setCell (Kept.setCell (Kept.setCell (Kept.setCell (Kept.setCell (Kept.setCell (Kept.setCell (Kept.refl w3 _) (p := ⟨w.heap.size + 1 + 1, 5, none⟩) (.inl (.inr rfl)) (.slice Aw ks.length cw)) (p := ⟨w.heap.size + 1, 0, none⟩) (.inl (.inl rfl)) (.int .i64 x.f0)) (p := ⟨w.heap.size + 1, 1, none⟩) (.inl (.inl rfl)) (.int .i64 x.f1)) (p := ⟨w.heap.size + 1, 2, none⟩) (.inl (.inl rfl)) (.string x.f2)) (p := ⟨w.heap.size + 1, 3, none⟩) (.inl (.inl rfl)) (.string x.f3)) (p := ⟨w.heap.size + 1, 4, none⟩) (.inl (.inl rfl)) (.slice Av ats.length cv)) (p := ⟨w.heap.size + 1, 5, none⟩) (.inl (.inl rfl)) (.slice Aw ks.length cw)
  have hsz := blk_lt Y3.out
  have hsz2 := (below_set (j := 4) (v := .slice Av ats.length cv) HB2.out (show w.heap.size ≤ w.heap.size + 1 + 1 by omega)).size
  have hsz3 : (w2.setCell ⟨w.heap.size + 1 + 1, 4, none⟩ (.slice Av ats.length cv)).heap.size = w2.heap.size := by simp [World.setCell]
  have hB3 := HB3.out.size
  refine bodyPost_ret (results_cell_row rfl _ _ (w.heap.size + 1) 49 #[.int .i64 x.f0, .int .i64 x.f1, .string x.f2, .string x.f3, .slice Av ats.length cv, .slice Aw ks.length cw] (0, 0) _ rfl (blk_put (cs := #[.int .i64 x.f0, .int .i64 x.f1, .string x.f2, .string x.f3, .slice Av ats.length cv, .slice none 0 0]) (cs' := #[.int .i64 x.f0, .int .i64 x.f1, .string x.f2, .string x.f3, .slice Av ats.length cv, .slice Aw ks.length cw]) (blk_put (cs := #[.int .i64 x.f0, .int .i64 x.f1, .string x.f2, .string x.f3, .slice none 0 0, .slice none 0 0]) (cs' := #[.int .i64 x.f0, .int .i64 x.f1, .string x.f2, .string x.f3, .slice Av ats.length cv, .slice none 0 0]) (blk_put (cs := #[.int .i64 x.f0, .int .i64 x.f1, .string x.f2, .string ⟨#[]⟩, .slice none 0 0, .slice none 0 0]) (cs' := #[.int .i64 x.f0, .int .i64 x.f1, .string x.f2, .string x.f3, .slice none 0 0, .slice none 0 0]) (blk_put (cs := #[.int .i64 x.f0, .int .i64 x.f1, .string ⟨#[]⟩, .string ⟨#[]⟩, .slice none 0 0, .slice none 0 0]) (cs' := #[.int .i64 x.f0, .int .i64 x.f1, .string x.f2, .string ⟨#[]⟩, .slice none 0 0, .slice none 0 0]) (blk_put (cs := #[.int .i64 x.f0, .int .i64 0, .string ⟨#[]⟩, .string ⟨#[]⟩, .slice none 0 0, .slice none 0 0]) (cs' := #[.int .i64 x.f0, .int .i64 x.f1, .string ⟨#[]⟩, .string ⟨#[]⟩, .slice none 0 0, .slice none 0 0]) (blk_put (cs := #[.int .i64 0, .int .i64 0, .string ⟨#[]⟩, .string ⟨#[]⟩, .slice none 0 0, .slice none 0 0]) (cs' := #[.int .i64 x.f0, .int .i64 0, .string ⟨#[]⟩, .string ⟨#[]⟩, .slice none 0 0, .slice none 0 0]) (blk_far (p := ⟨w.heap.size + 1 + 1, 5, none⟩) Z2.out hn2 (.slice Aw ks.length cw)) 0 (.int .i64 x.f0) rfl) 1 (.int .i64 x.f1) rfl) 2 (.string x.f2) rfl) 3 (.string x.f3) rfl) 4 (.slice Av ats.length cv) rfl) 5 (.slice Aw ks.length cw) rfl) Try.underlying49 rfl (by kernel_rfl)) rfl ?_
  refine ⟨Av, cv, Aw, cw, rfl, kTN_mkM _ _ _ (fun k => some k = (Value.slice Av ats.length cv).ownBlock) _ ?_ ?_, ?_⟩
  · refine Kd.R_kept (S := fun k => k = w.heap.size + 1 ∨ k = w.heap.size + 1 + 1) (Kd.R_mono (Kd.R_bound (Kd.R_below (Kd.R_far HR.out (fun k hk => ?_) _) HB3.out)) (fun k hk => ⟨hk.2.1, hk.1⟩)) HKW (fun k hk => ?_)
    · have := (HK.out k hk).1
      show k ≠ w.heap.size + 1 + 1
      omega
    · have := (HK.out k hk.2).1
      omega
  · refine Kd.S_lower (Kd.S_mono (Kd.S_kept (S := fun k => k = w.heap.size + 1 ∨ k = w.heap.size + 1 + 1) HT.out HKW (fun k hk => ?_)) (fun k hk => ⟨?_, fun he => ?_⟩)) hsz2
    · omega
    · omega
    · have := (HK.out k he).2
      omega
  · exact below_set (below_set (below_set (below_set (below_set (below_set (below_set ((below_set HB2.out (by omega)).trans (HB3.out.mono hsz2)) (by omega)) (by omega)) (by omega)) (by omega)) (by omega)) (by omega)) (by omega)
theorem infoN : (Try.prog.info? 49).map (fun i => (i.zero, i.size, i.bytes)) = some (some (.agg #[(.int .i64 0), (.int .i64 0), (.string ⟨#[]⟩), (.string ⟨#[]⟩), (.slice none 0 0), (.slice none 0 0)]), 6, 96) := by kernel_rfl
set_option maxHeartbeats 8000000 in
set_option maxRecDepth 1000000 in
theorem toNodeS_step (k : Nat) (ih : ∀ j, j < k → toNodeC j) : toNodeSC k := by
  intro A0 c0 l0 r w h0 m0 h
  cases k with
  | zero => exact absurd h (by simp [laws_toNodeS.f])
  | succ k =>
  simp only [laws_toNodeS.f] at h
  rw [if_pos (Int.natCast_nonneg _)] at h
  obtain ⟨hlen, h⟩ := Option.ite_none_right_eq_some.mp h
  rw [Int.toNat_natCast] at h hlen
  obtain ⟨y0, hy0⟩ : ∃ y, y = List.replicate l0.length z49 := ⟨_, rfl⟩
  rw [← hy0] at h
  have hl0 : y0.length = l0.length := by rw [hy0, List.length_replicate]
  have HY := Aside0.mk hy0
  have H' := Aside0.mk h
  have HC := Aside0.mk h0
  have HM := Aside0.mk m0
  have HL := Aside0.mk hlen
  have IH := Aside0.mk ih
  have hmax : l0.length ≤ 9223372036854775807 := h0.2.1
  have HX := Aside0.mk hmax
  clear hy0 h h0 m0 ih
  go_enter Try.func8, Try.ntmps8
  go_wp2_with (first | ((with_reducible refine gate_dst (N := 7) rfl ?_); refine Kd.S_make kTN (w0 := w) w.heap.size 49 rfl (N := 7) rfl 27 _ _ rfl (l0.length : Int) rfl rfl Try.underlying27 (.agg #[(.int .i64 0), (.int .i64 0), (.string ⟨#[]⟩), (.string ⟨#[]⟩), (.slice none 0 0), (.slice none 0 0)]) 96 infoN rfl (by decide) (by omega) z49 (ok := fun k_ => w.heap.size ≤ k_) (okp := fun _ => False) (kTN_mkM _ _ _ (fun _ => True) z49 (Kd.R_nil _ _ _ _ _) (Kd.S_nil _ _ _ _ _)) (fun _ hk => hk.elim) (Nat.le_refl _) (Int.natCast_nonneg _) (by rw [Int.toNat_natCast]; have := HL.out; omega) (Below.refl _ _) (Nat.le_refl _) ?_; intro v7 w4 ho hb _ _; rw [Int.toNat_natCast, ← HY.out] at ho; obtain ⟨A7, c7, rfl⟩ := Kd.S_slice ho; have HO := Aside0.mk ho; have HB := Aside0.mk hb; clear ho hb))
  rw [hl0] at HO
  go_loopg [4] k (fun kq v4 w' => ∃ (x3 : List S49) (x4 : Int), v4 = .int .i64 x4 ∧ Aside0 (laws_toNodeS.l0 kq l0 x3 x4 = some r) ∧ Aside0 (kq ≤ k) ∧ Aside0 (Kd.S kTN 49 w' w.heap.size (fun k_ => w.heap.size ≤ k_) (.slice A7 l0.length c7) x3) ∧ Aside0 (x3.length = l0.length) ∧ Aside0 (Below w.heap.size w w'))
  case atStart => exact ⟨y0, 0, rfl, H', ⟨Nat.le_refl _⟩, HO, ⟨hl0⟩, HB⟩
  case round =>
    clear H' HO HB HY
    obtain ⟨x3, x4, rfl, HA, HK1, HO, HL3, HB⟩ := hrel
    cases gk with
    | zero => exact absurd HA.out (by simp [laws_toNodeS.l0])
    | succ k1 =>
      have H := HA.out
      clear HA
      simp only [laws_toNodeS.l0] at H
      by_cases c3 : x4 < (l0.length : Int)
      · rw [if_pos c3] at H
        have z3 : decide (x4 < (l0.length : Int)) = true := decide_eq_true c3
        obtain ⟨c5, H⟩ := Option.ite_none_right_eq_some.mp H
        obtain ⟨⟨b1, b2, b3, b4, b5, b6⟩, hb0, H⟩ := Option.bind_eq_some_iff.mp H
        obtain ⟨c6, H⟩ := Option.ite_none_right_eq_some.mp H
        have z5 : decide (0 ≤ x4) = true := decide_eq_true c5
        obtain ⟨y1, hy1⟩ : ∃ y, y = x3.set x4.toNat ⟨b1, b2, b3, b4, b5, b6⟩ := ⟨_, rfl⟩
        replace H : laws_toNodeS.l0 k1 l0 y1 (wrap64 (x4 + 1)) = some r := by rw [hy1]; exact H
        have H' := Aside0.mk H
        have hl1 : y1.length = l0.length := by rw [hy1, List.length_set, HL3.out]
        have HY := Aside0.mk hy1
        clear H hy1
        obtain ⟨ad, Ar, cr, As, cs, e0, q0, q1, q2, q3, q4, q5, m4, g4, m5, g5⟩ := at_T44 HC.out x4 c5 c3
        subst e0
        replace q0 := pw_cell_below HB.out q0
        replace q1 := pw_cell_below HB.out q1
        replace q2 := pw_cell_below HB.out q2
        replace q3 := pw_cell_below HB.out q3
        replace q4 := pw_cell_below HB.out q4
        replace q5 := pw_cell_below HB.out q5
        have QN := Aside0.mk (IH.out k1 (by have := HK1.out; omega) (rd_T44 l0 x4) Ar cr As cs b1 b2 b3 b4 b5 b6 wr (Kd.C_below g4 HB.out) m4 (Kd.C_below g5 HB.out) m5 hb0)
        clear m4 g4 m5 g5 hb0
        generalize rd_T44 l0 x4 = x at *
        obtain ⟨g, cap, ev, hg0, hgl, _⟩ := Kd.S_form HO.out (by have := HL3.out; omega)
        injection ev with e1 e2 e3
        subst e1 e3
        have p3 := eq_true c3
        have p5 := eq_true c5
        have HC3 := Aside0.mk c3
        have HC5 := Aside0.mk c5
        have HG0 := Aside0.mk hg0
        have HGL := Aside0.mk hgl
        clear c3 c5 hg0 hgl e2 c6
        go_wp2_with (first | (go_at_call 26; (with_reducible refine QN.out.mono ?_); rintro e w5 ⟨Av, cv, Aw, cw, rfl, hm, hb⟩; (have HB5 := Aside0.mk (below_step HB.out hb)); (have hS : Kd.S kTN 49 w5 w.heap.size (fun k_ => w.heap.size ≤ k_ ∧ ¬ (wr.heap.size ≤ k_)) (.slice (some ⟨g, 0, none⟩) l0.length c7) x3 := Kd.S_below (Kd.S_mono (Kd.S_bound HO.out) (fun k_ hk => ⟨hk.1, by have := hk.2.2.1; omega⟩)) hb); (obtain ⟨oki, cc, hcl, hM, hcc, hfr, hoki, hH⟩ := Kd.S_elem hS z49 x4 HC5.out HC3.out); (obtain ⟨t4, t5, pp, rfl, _, _⟩ := kTN_openM hM); (have HSG := Aside0.mk (Kd.S_seg (okg := fun k_ => wr.heap.size ≤ k_) (okp := fun k_ => wr.heap.size ≤ k_) hH HC5.out HC3.out (seg := [.int .i64 b1, .int .i64 b2, .string b3, .string b4, .slice Av b5.length cv, .slice Aw b6.length cw]) (j := 0) (show 6 ≤ 6 from Nat.le_refl 6) (x' := (⟨b1, b2, b3, b4, b5, b6⟩ : S49)) (kTN.M_lower HB.out.size hm) (fun k_ hk => .inr hk) (fun k_ hk => ⟨Nat.le_trans HB.out.size hk, fun e => by have := HGL.out; omega⟩))); (obtain ⟨u0, d0⟩ : ∃ u, w5.cell? ⟨g, x4.toNat * 6, none⟩ = some u := ⟨_, hcc 0 _ rfl⟩); (have f0 : w5.frozen? ⟨g, x4.toNat * 6, none⟩ = false := hfr 0); (obtain ⟨u1, d1⟩ : ∃ u, w5.cell? ⟨g, x4.toNat * 6 + 1, none⟩ = some u := ⟨_, hcc 1 _ rfl⟩); (have f1 : w5.frozen? ⟨g, x4.toNat * 6 + 1, none⟩ = false := hfr 1); (obtain ⟨u2, d2⟩ : ∃ u, w5.cell? ⟨g, x4.toNat * 6 + 2, none⟩ = some u := ⟨_, hcc 2 _ rfl⟩); (have f2 : w5.frozen? ⟨g, x4.toNat * 6 + 2, none⟩ = false := hfr 2); (obtain ⟨u3, d3⟩ : ∃ u, w5.cell? ⟨g, x4.toNat * 6 + 3, none⟩ = some u := ⟨_, hcc 3 _ rfl⟩); (have f3 : w5.frozen? ⟨g, x4.toNat * 6 + 3, none⟩ = false := hfr 3); (obtain ⟨u4, d4⟩ : ∃ u, w5.cell? ⟨g, x4.toNat * 6 + 4, none⟩ = some u := ⟨_, hcc 4 _ rfl⟩); (have f4 : w5.frozen? ⟨g, x4.toNat * 6 + 4, none⟩ = false := hfr 4); (obtain ⟨u5, d5⟩ : ∃ u, w5.cell? ⟨g, x4.toNat * 6 + 5, none⟩ = some u := ⟨_, hcc 5 _ rfl⟩); (have f5 : w5.frozen? ⟨g, x4.toNat * 6 + 5, none⟩ = false := hfr 5); clear hcl hM hcc hfr hoki hH hS hm hb))
        go_roundg k1
        case measure => have := HK1.out; omega
        case rel =>
          obtain ⟨hs, hg⟩ := HSG.out
          rw [← HY.out] at hs
          exact ⟨y1, wrap64 (x4 + 1), rfl, H', ⟨by have := HK1.out; omega⟩, ⟨hs⟩, ⟨hl1⟩, ⟨pw_below_grown HB5.out (some g) HB5.out.size hg (fun k_ e => by injection e with e; have := HG0.out; omega)⟩⟩
      · rw [if_neg c3] at H
        have z3 : decide (x4 < (l0.length : Int)) = false := decide_eq_false c3
        obtain rfl := Option.some.inj H
        go_wp2
        go_ret
        exact ⟨A7, c7, by rw [HL3.out]; rfl, by rw [HL3.out]; exact HO.out, HB.out⟩
theorem laws_toNode.callsT (k : Nat) : toNodeC k := by
  induction k using Nat.strongRecOn with
  | _ k ih => exact toNode_step k (fun j hj => toNodeS_step j (fun i hi => ih i (Nat.lt_trans hi hj)))
theorem laws_toNodeS.callsT (k : Nat) : toNodeSC k := toNodeS_step k (fun j _ => laws_toNode.callsT j)


/-! ### impl_within: function 82 -/
def impl_within.f (a0 : Int) (a1 : Int) (a2 : Int) : Option (Bool) := if a0 ≥ a1 then (some (decide (a0 ≤ a2))) else (some false)
set_option maxHeartbeats 8000000 in
set_option maxRecDepth 100000 in
theorem impl_within.calls (a0 : Int) (a1 : Int) (a2 : Int) (r : Bool) (w : World) (h : impl_within.f a0 a1 a2 = some r) :
    Calls Try.prog 82 #[.int .i64 a0, .int .i64 a1, .int .i64 a2] w fun e w' => e = .returned (.bool r) ∧ Drawn0 w w' := by
  have H : (if a0 ≥ a1 then (some (decide (a0 ≤ a2))) else (some false)) = some r := h
  clear h
  by_cases c4 : a0 ≥ a1
  · rw [if_pos c4] at H
    have c4b0 : decide (a1 ≤ a0) = true := decide_eq_true c4
    clear c4
    obtain rfl := Option.some.inj H
    go_enter Try.func82, Try.ntmps82
    go_wp2
    go_ret
    exact ⟨by first | rfl | (simp; done) | (simp [*]; done), by repeat (first | exact Drawn0.refl _ | apply Drawn0.step)⟩
  · rw [if_neg c4] at H
    have c4b0 : decide (a1 ≤ a0) = false := decide_eq_false c4
    clear c4
    obtain rfl := Option.some.inj H
    go_enter Try.func82, Try.ntmps82
    go_wp2
    go_ret
    exact ⟨by first | rfl | (simp; done) | (simp [*]; done), by repeat (first | exact Drawn0.refl _ | apply Drawn0.step)⟩
theorem impl_within.pure (n a b : Int) (W : World) : Calls Try.prog 82 #[.int .i64 n, .int .i64 a, .int .i64 b] W fun e w' => e = .returned (.bool (decide (a ≤ n ∧ n ≤ b))) ∧ Drawn0 W w' := by
  refine impl_within.calls n a b _ W ?_
  unfold impl_within.f
  by_cases h : n ≥ a
  · rw [if_pos h]; simp [h]
  · rw [if_neg h]; simp; omega


/-! ### impl_isSmall: function 92 -/
def impl_isSmall.f (a0 : Int) : Option (Bool) := if a0 ≥ 97 then (some (decide (a0 ≤ 122))) else (some false)
set_option maxHeartbeats 8000000 in
set_option maxRecDepth 100000 in
theorem impl_isSmall.calls (a0 : Int) (r : Bool) (w : World) (h : impl_isSmall.f a0 = some r) :
    Calls Try.prog 92 #[.int .u8 a0] w fun e w' => e = .returned (.bool r) ∧ Drawn0 w w' := by
  have H : (if a0 ≥ 97 then (some (decide (a0 ≤ 122))) else (some false)) = some r := h
  clear h
  by_cases c2 : a0 ≥ 97
  · rw [if_pos c2] at H
    have c2b0 : decide (97 ≤ a0) = true := decide_eq_true c2
    clear c2
    obtain rfl := Option.some.inj H
    go_enter Try.func92, Try.ntmps92
    go_wp2
    go_ret
    exact ⟨by first | rfl | (simp; done) | (simp [*]; done), by repeat (first | exact Drawn0.refl _ | apply Drawn0.step)⟩
  · rw [if_neg c2] at H
    have c2b0 : decide (97 ≤ a0) = false := decide_eq_false c2
    clear c2
    obtain rfl := Option.some.inj H
    go_enter Try.func92, Try.ntmps92
    go_wp2
    go_ret
    exact ⟨by first | rfl | (simp; done) | (simp [*]; done), by repeat (first | exact Drawn0.refl _ | apply Drawn0.step)⟩

/-! ### impl_isDigit: function 93 -/
def impl_isDigit.f (a0 : Int) : Option (Bool) := if a0 ≥ 48 then (some (decide (a0 ≤ 57))) else (some false)
set_option maxHeartbeats 8000000 in
set_option maxRecDepth 100000 in
theorem impl_isDigit.calls (a0 : Int) (r : Bool) (w : World) (h : impl_isDigit.f a0 = some r) :
    Calls Try.prog 93 #[.int .u8 a0] w fun e w' => e = .returned (.bool r) ∧ Drawn0 w w' := by
  have H : (if a0 ≥ 48 then (some (decide (a0 ≤ 57))) else (some false)) = some r := h
  clear h
  by_cases c2 : a0 ≥ 48
  · rw [if_pos c2] at H
    have c2b0 : decide (48 ≤ a0) = true := decide_eq_true c2
    clear c2
    obtain rfl := Option.some.inj H
    go_enter Try.func93, Try.ntmps93
    go_wp2
    go_ret
    exact ⟨by first | rfl | (simp; done) | (simp [*]; done), by repeat (first | exact Drawn0.refl _ | apply Drawn0.step)⟩
  · rw [if_neg c2] at H
    have c2b0 : decide (48 ≤ a0) = false := decide_eq_false c2
    clear c2
    obtain rfl := Option.some.inj H
    go_enter Try.func93, Try.ntmps93
    go_wp2
    go_ret
    exact ⟨by first | rfl | (simp; done) | (simp [*]; done), by repeat (first | exact Drawn0.refl _ | apply Drawn0.step)⟩

end Go.Proofs.Ytlhhcbhmnmndiaa.PFnExactNamesIn
