/- By a program of this session, out of the kit's print and contracts made by hand: the machine side of a law; Lean checks it. No conditions. -/
import Derived.Test.YtophaihdibplkaaPFnExactSafeDocsx0
import Derived.Test.YtophaihdibplkaaPFnExactSafeDocsx8
import Derived.Test.YtophaihdibplkaaPFnExactSafeDocsx9
import Derived.Test.YtophaihdibplkaaPFnExactSafeDocsx12
namespace Go.Proofs.Ytophaihdibplkaa.PFnExactSafeDocs
open Go.RowKit Go.Proofs.YtophaihdibplkaaW.PrintWords Go.Proofs.YtophaihdibplkaaW.PrintLast Go.Proofs.YtophaihdibplkaaW.PrintMore
attribute [local go_sem] max2_int min2_int max_two min_two max_three min_three max_four min_four   -- for this text's walks alone
set_option linter.unusedVariables false
set_option linter.unusedSimpArgs false

/-! ### impl_SafeDocs: function 52, by hand -/
-- also 17
-- also 75
-- also 114
theorem callCells (A0 : Option Addr) (l0 : List S27) (w : World) (hr0 : Kd.C k27 w A0 l0.length l0) : ∃ F : Nat → Option Addr × Nat, ∀ j, j < l0.length → (∃ ad, A0 = some ad ∧ ∀ i u, ([.int .i64 (l0.getD j z27).f0, .int .i64 (l0.getD j z27).f1, .int .i64 (l0.getD j z27).f2, .slice (F j).1 (l0.getD j z27).f3.length (F j).2, .string (l0.getD j z27).f4, .string (l0.getD j z27).f5] : List Value)[i]? = some u → w.cell? (ad.add (j * 6 + i)) = some u) ∧ (l0.getD j z27).f3.length ≤ (F j).2 ∧ Kd.C (Kd.int .i64) w (F j).1 (l0.getD j z27).f3.length (l0.getD j z27).f3 := by
  have hcells : ∀ j, j < l0.length → ∃ (A3 : Option Addr) (c3 : Nat), (∃ ad, A0 = some ad ∧ ∀ i u, ([.int .i64 (l0.getD j z27).f0, .int .i64 (l0.getD j z27).f1, .int .i64 (l0.getD j z27).f2, .slice A3 (l0.getD j z27).f3.length c3, .string (l0.getD j z27).f4, .string (l0.getD j z27).f5] : List Value)[i]? = some u → w.cell? (ad.add (j * 6 + i)) = some u) ∧ (l0.getD j z27).f3.length ≤ c3 ∧ Kd.C (Kd.int .i64) w A3 (l0.getD j z27).f3.length (l0.getD j z27).f3 := by
    intro j hj
    obtain ⟨ad, c, e, hcl, hK, hc⟩ := Kd.C_get hr0 z27 (j : Int) (by omega) (by omega)
    rw [Int.toNat_natCast] at hK hc
    obtain ⟨A3, c3, rfl, h1, h2⟩ := k27_open hK
    exact ⟨A3, c3, ⟨ad, e, hc⟩, h1, h2⟩
  refine ⟨fun j => if hj : j < l0.length then ⟨(hcells j hj).choose, (hcells j hj).choose_spec.choose⟩ else ⟨none, 0⟩, fun j hj => ?_⟩
  simp only [dif_pos hj]
  exact (hcells j hj).choose_spec.choose_spec
theorem blkCell {w : World} {g t : Nat} {cs : Array Value} (hb : w.heap[g]? = some (.cells cs t (0, 0))) : ∀ (i : Nat) (v : Value), cs[i]? = some v → w.cell? ⟨g, i, none⟩ = some v := fun i v h => by
  simp only [World.cell?, hb]; exact h
def unsafeIn (d : Int) (c : S27) : Bool := c.f1 == d && (decide (2 ≤ c.f0 ∧ c.f0 ≤ 4) || c.f0 == 7)
def sdRes (P : S27 → Bool) (l : List S27) : List Bool × Int :=
  if 4096 < l.length then ([], 2) else if 30 < l.length then ([], 6) else if (l.any fun c => !P c) = true then ([], 1) else ([0, 1, 2, 3, 4, 5].map fun d => !(l.any (unsafeIn d)), 0)
theorem impl_SafeDocs.lit1 (k : Nat) (f0 f1 f2 : Int) (A3 : Option Addr) (c3 : Nat) (l3 : List Int) (f4 f5 : ByteArray) (p : Bool) (w : World) (hr : Kd.C (Kd.int .i64) w A3 l3.length l3) (hc : l3.length ≤ c3) (h : impl_CallOK.f k f0 f1 f2 l3 f4 f5 = some p) :
    Calls Try.prog 115 #[.agg #[.int .i64 f0, .int .i64 f1, .int .i64 f2, .slice A3 l3.length c3, .string f4, .string f5]] w fun e w' => e = .returned (.bool (!p)) ∧ Below w.heap.size w w' := by
  have hb := below_alloc (Below.refl w.heap.size w) (.cells #[.int .i64 f0, .int .i64 f1, .int .i64 f2, .slice A3 l3.length c3, .string f4, .string f5] 27 (0, 0))
  have q := impl_CallOK.calls k f0 f1 f2 A3 c3 l3 f4 f5 p _ (Kd.C_below hr hb) hc h
  have HB := Aside0.mk hb
  clear hb hr hc h
  generalize l3.length = n3 at *
  go_enter Try.func115, Try.ntmps115
  go_wp2_with (go_at_call 17; (with_reducible refine q.mono ?_); rintro e w' ⟨rfl, hb'⟩)
  go_ret
  exact ⟨rfl, HB.out.trans (hb'.mono HB.out.size)⟩
theorem impl_SafeDocs.lit2 (f0 f1 f2 : Int) (v3 : Value) (f4 f5 : ByteArray) (d : Int) (B : Nat) (w : World) (h0 : w.cell? ⟨B, 0, none⟩ = some (.int .i64 d)) (hv : ∃ A n c, v3 = .slice A n c) :
    Calls Try.prog 116 #[.agg #[.int .i64 f0, .int .i64 f1, .int .i64 f2, v3, .string f4, .string f5], .pointer (some ⟨B, 0, none⟩)] w fun e w' => e = .returned (.bool (f1 == d && (decide (2 ≤ f0 ∧ f0 ≤ 4) || f0 == 7))) ∧ Below w.heap.size w w' := by
  obtain ⟨A3, n3, c3, rfl⟩ := hv
  have hb := below_alloc (Below.refl w.heap.size w) (.cells #[.int .i64 f0, .int .i64 f1, .int .i64 f2, .slice A3 n3 c3, .string f4, .string f5] 27 (0, 0))
  have q := fun V => impl_within.pure f0 2 4 V
  have HB := Aside0.mk hb
  have hlt := World.block_lt_of_cell? w _ h0
  clear hb
  obtain ⟨R2, hR2⟩ : ∃ R, decide (2 ≤ f0 ∧ f0 ≤ 4) = R := ⟨_, rfl⟩
  rw [hR2] at q ⊢
  have Q := Aside0.mk q
  clear q hR2
  by_cases h1 : f1 = d
  · have z1 : (f1 == d) = true := beq_iff_eq.mpr h1
    rw [z1]
    clear h1
    cases R2
    · by_cases h7 : f0 = 7
      · have z7 : (f0 == 7) = true := beq_iff_eq.mpr h7
        rw [z7]
        clear h7
        go_enter Try.func116, Try.ntmps116
        go_wp2_with (go_at_call 75; (with_reducible refine (Q.out _).mono ?_); rintro e w' ⟨rfl, nd, rfl⟩)
        go_ret
        exact ⟨rfl, pw_below_drewN HB.out _⟩
      · have z7 : (f0 == 7) = false := by simpa using h7
        rw [z7]
        clear h7
        go_enter Try.func116, Try.ntmps116
        go_wp2_with (go_at_call 75; (with_reducible refine (Q.out _).mono ?_); rintro e w' ⟨rfl, nd, rfl⟩)
        go_ret
        exact ⟨rfl, pw_below_drewN HB.out _⟩
    · go_enter Try.func116, Try.ntmps116
      go_wp2_with (go_at_call 75; (with_reducible refine (Q.out _).mono ?_); rintro e w' ⟨rfl, nd, rfl⟩)
      go_ret
      exact ⟨rfl, pw_below_drewN HB.out _⟩
  · have z1 : (f1 == d) = false := by simpa using h1
    rw [z1]
    clear h1
    go_enter Try.func116, Try.ntmps116
    go_wp2
    go_ret
    exact ⟨rfl, HB.out⟩
theorem infoBool4 : (Try.prog.info? 4).map (fun i => (i.zero, i.size, i.bytes)) = some (some (.bool false), 1, 1) := by kernel_rfl
set_option maxHeartbeats 8000000 in
set_option maxRecDepth 100000 in
theorem impl_SafeDocs.calls (k : Nat) (A0 : Option Addr) (c0 : Nat) (l0 : List S27) (P : S27 → Bool) (w : World) (hr0 : Kd.C k27 w A0 l0.length l0) (hc0 : l0.length ≤ c0) (hP : ∀ x ∈ l0, impl_CallOK.f k x.f0 x.f1 x.f2 x.f3 x.f4 x.f5 = some (P x)) :
    Calls Try.prog 52 #[.slice A0 l0.length c0] w fun e w' => ∃ v0_ : Value, e = .returned (.tuple #[v0_, .int .i64 (sdRes P l0).2]) ∧ Kd.R Kd.bool 4 w' w.heap.size (fun _ => True) v0_ (sdRes P l0).1 ∧ Below w.heap.size w w' := by
  obtain ⟨F, hF⟩ := callCells A0 l0 w hr0
  have q1 : ∀ V, Below w.heap.size w V → Calls Try.prog 114 #[.slice A0 l0.length c0, .func (.func 115) #[] #[]] V fun e w' => e = .returned (.bool (l0.any fun c => !P c)) ∧ Below V.heap.size V w' := fun V hV => by
    have q := ContainsFunc_Call.holds A0 l0.length c0 (fun j => [.int .i64 (l0.getD j z27).f0, .int .i64 (l0.getD j z27).f1, .int .i64 (l0.getD j z27).f2, .slice (F j).1 (l0.getD j z27).f3.length (F j).2, .string (l0.getD j z27).f4, .string (l0.getD j z27).f5]) (fun j => !P (l0.getD j z27)) 115 #[] (Mach.enters_of Try.func115 (by kernel_rfl) rfl) V
      (fun j hj W hW => by
        obtain ⟨_, h1, h2⟩ := hF j hj
        have hm : l0.getD j z27 ∈ l0 := by rw [List.getD_eq_getElem?_getD, List.getElem?_eq_getElem hj]; exact List.getElem_mem hj
        exact (impl_SafeDocs.lit1 k _ _ _ _ _ _ _ _ _ W (Kd.C_below (Kd.C_below h2 hV) hW) h1 (hP _ hm)).mono fun e w' ⟨he, hb'⟩ => ⟨he, hW.trans (hb'.mono hW.size)⟩) hr0.2.1
      (fun j hj => by
        obtain ⟨⟨ad, e, hc⟩, _⟩ := hF j hj
        exact ⟨ad, e, rfl, fun i u hu => pw_cell_below hV (hc i u hu)⟩)
    rwa [Mach.anyP_list (fun x : S27 => !P x)] at q
  have q2 : ∀ (d : Int) V, Below w.heap.size w V → ∀ B, V.cell? ⟨B, 0, none⟩ = some (.int .i64 d) → Calls Try.prog 114 #[.slice A0 l0.length c0, .func (.func 116) #[] #[.pointer (some ⟨B, 0, none⟩)]] V fun e w' => e = .returned (.bool (l0.any (unsafeIn d))) ∧ Below V.heap.size V w' := fun d V hV B h0 => by
    have q := ContainsFunc_Call.holds A0 l0.length c0 (fun j => [.int .i64 (l0.getD j z27).f0, .int .i64 (l0.getD j z27).f1, .int .i64 (l0.getD j z27).f2, .slice (F j).1 (l0.getD j z27).f3.length (F j).2, .string (l0.getD j z27).f4, .string (l0.getD j z27).f5]) (fun j => unsafeIn d (l0.getD j z27)) 116 #[.pointer (some ⟨B, 0, none⟩)] (Mach.enters_of Try.func116 (by kernel_rfl) rfl) V
      (fun j hj W hW => (impl_SafeDocs.lit2 _ _ _ _ _ _ d B W (pw_cell_below hW h0) ⟨_, _, _, rfl⟩).mono fun e w' ⟨he, hb'⟩ => ⟨he, hW.trans (hb'.mono hW.size)⟩) hr0.2.1
      (fun j hj => by
        obtain ⟨⟨ad, e, hc⟩, _⟩ := hF j hj
        exact ⟨ad, e, rfl, fun i u hu => pw_cell_below hV (hc i u hu)⟩)
    rwa [Mach.anyP_list (unsafeIn d)] at q
  have Q1 := Aside0.mk q1
  have Q2 := Aside0.mk q2
  have HB := Aside0.mk (Below.refl w.heap.size w)
  have hn := hr0.2.1
  clear q1 q2 hF hP
  unfold sdRes
  by_cases h1 : 4096 < l0.length
  · rw [if_pos h1]
    have z1 : decide ((l0.length : Int) > 4096) = true := decide_eq_true (by omega)
    clear h1
    generalize l0.length = n at *
    go_enter Try.func52, Try.ntmps52
    go_wp2
    go_ret2
    exact ⟨_, rfl, Kd.R_nil _ _ _ _ _, HB.out⟩
  rw [if_neg h1]
  have z1 : decide ((l0.length : Int) > 4096) = false := decide_eq_false (by omega)
  by_cases h2 : 30 < l0.length
  · rw [if_pos h2]
    have z2 : decide ((l0.length : Int) > 30) = true := decide_eq_true (by omega)
    clear h1 h2
    generalize l0.length = n at *
    go_enter Try.func52, Try.ntmps52
    go_wp2
    go_ret2
    exact ⟨_, rfl, Kd.R_nil _ _ _ _ _, HB.out⟩
  rw [if_neg h2]
  have z2 : decide ((l0.length : Int) > 30) = false := decide_eq_false (by omega)
  clear h1 h2
  cases h3 : (l0.any fun c => !P c)
  case true =>
    rw [if_pos rfl]
    rw [h3] at Q1
    clear h3
    generalize l0.length = n at *
    go_enter Try.func52, Try.ntmps52
    go_wp2_with (go_at_call 114; (with_reducible refine (Q1.out _ HB.out).mono ?_); rintro e w1 ⟨rfl, hb⟩; (have HB1 := Aside0.mk hb); clear hb)
    go_ret2
    exact ⟨_, rfl, Kd.R_nil _ _ _ _ _, HB1.out⟩
  rw [if_neg (by simp)]
  rw [h3] at Q1
  clear h3 hr0
  obtain ⟨D, hD⟩ : ∃ D : Int → Bool, D = fun d => l0.any (unsafeIn d) := ⟨_, rfl⟩
  rw [show ([0, 1, 2, 3, 4, 5].map fun d => !(l0.any (unsafeIn d))) = [0, 1, 2, 3, 4, 5].map fun d => !(D d) by rw [hD]]
  replace Q2 : Aside0 (∀ (d : Int) V, Below w.heap.size w V → ∀ B, V.cell? ⟨B, 0, none⟩ = some (.int .i64 d) → Calls Try.prog 114 #[.slice A0 l0.length c0, .func (.func 116) #[] #[.pointer (some ⟨B, 0, none⟩)]] V fun e w' => e = .returned (.bool (D d)) ∧ Below V.heap.size V w') := by rw [hD]; exact Q2
  clear hD
  generalize l0.length = n at *
  go_enter Try.func52, Try.ntmps52
  go_wp2_with (first | (go_at_call 114; (with_reducible refine (Q1.out _ HB.out).mono ?_); rintro e w1 ⟨rfl, hb⟩; (have HB1 := Aside0.mk hb); clear hb HB) | ((with_reducible refine gate_dst (N := 17) rfl ?_); refine Kd.R_lit Kd.bool _ 4 ?hg (N := 17) ?hd (xs := ([] : List Bool)) (inner := []) (ok := fun _ => True) (okp := fun _ => True) ?hr ?hp (fun _ hk => hk) trivial (Below.refl _ _) (Nat.le_refl _) (by simp) ?_; (case hd => rfl); (case hg => rfl); (case hr => first | (go_simp; done) | (go_simp; rfl)); (case hp => exact (Reps.none _ _)); intro v2 w2 ho hb _ _; (have HR2 := Aside0.mk (Kd.R_lower ho HB1.out.size)); (have HB2 := Aside0.mk (below_step HB1.out hb)); clear ho hb; obtain ⟨A2, c2, rfl⟩ := Kd.R_slice HR2.out))
  go_loopg [4, 5, 18] 6 (fun gg v4 _ v18 wr => ∃ (kk : Nat) (Ao : Option Addr) (co : Nat), v4 = .slice Ao kk co ∧ kk ≤ 6 ∧ 6 - kk ≤ gg ∧ v18 = .int .i64 kk ∧ Aside0 (Kd.R Kd.bool 4 wr w.heap.size (fun _ => True) (.slice Ao kk co) ((List.range kk).map fun d : Nat => !(D (d : Int)))) ∧ Aside0 (Below w.heap.size w wr))
  case atStart => exact ⟨0, A2, c2, rfl, Nat.zero_le _, by omega, rfl, HR2, HB2⟩
  case round =>
    obtain ⟨kk, Ao, co, rfl, hkk, hg, rfl, HR, HW⟩ := hrel
    clear HB1 HR2 HB2
    by_cases hlt : kk < 6
    · obtain ⟨g1, rfl⟩ : ∃ g1, gk = g1 + 1 := ⟨gk - 1, by omega⟩
      have z3 : decide ((kk : Int) < 6) = true := decide_eq_true (by omega)
      have HQ := Aside0.mk (Q2.out (kk : Int) (wr.alloc (.cells #[.int .i64 (kk : Int)] 3 (0, 0))) (below_alloc HW.out _) wr.heap.size (blkCell (blk_new _ _) 0 _ rfl))
      have HR1 := Aside0.mk (Kd.R_alloc HR.out (.cells #[.int .i64 (kk : Int)] 3 (0, 0)))
      have HW1 := Aside0.mk (below_alloc HW.out (.cells #[.int .i64 (kk : Int)] 3 (0, 0)))
      obtain ⟨b, hb0⟩ : ∃ b, D (kk : Int) = b := ⟨_, rfl⟩
      have hl : (List.range (kk + 1)).map (fun d : Nat => !(D (d : Int))) = (List.range kk).map (fun d : Nat => !(D (d : Int))) ++ [!b] := by rw [List.range_succ, List.map_append, ← hb0]; rfl
      have HL := Aside0.mk hl
      rw [hb0] at HQ
      have hll : ((List.range kk).map fun d : Nat => !(D (d : Int))).length = kk := by simp
      have HLL := Aside0.mk hll
      clear hl hll hb0
      go_wp2_with (first | (go_at_call 114; (with_reducible refine HQ.out.mono ?_); rintro e w3 ⟨rfl, hb⟩; (have HR3 := Aside0.mk (Kd.R_below HR1.out hb)); (have HB3 := Aside0.mk (below_step HW1.out hb)); clear hb HQ HR HR1 HW HW1) | ((with_reducible refine gate_builtin (b := .append) (xs := #[.tmp 21, .tmp 26]) rfl ?_); at_builtin; refine Kd.R_append Kd.bool (w0 := w) w.heap.size rfl (.tmp 21) (.tmp 26) 54 4 (.bool false) 1 rfl Try.underlying54 infoBool4 rfl (by decide) (by omega) (.slice Ao kk co) ((List.range kk).map fun d : Nat => !(D (d : Int))) (!b) [.bool (!b)] (fun _ => True) (fun _ => False) rfl rfl ?aP (fun _ hk => hk.elim) ?aF ?aO ?aB ?aS ?aL ?_; (case aP => exact rfl); (case aB => exact HB3.out); (case aF => exact fun _ _ => trivial); (case aO => exact HR3.out); (case aS => exact HB3.out.size); (case aL => rw [HLL.out]; omega); intro v4 w4 ho hb _ _; (have HR4 := Aside0.mk (HL.out ▸ ho)); (have HB4 := Aside0.mk hb); clear ho hb; obtain ⟨A4, c4, rfl⟩ := Kd.R_slice HR4.out))
      go_roundg g1
      case measure => omega
      case rel => exact ⟨kk + 1, A4, c4, by simp, by omega, by omega, by simp, ⟨by have := HR4.out; rwa [List.length_map, List.length_range] at this⟩, HB4⟩
    · have z3 : decide ((kk : Int) < 6) = false := decide_eq_false (by omega)
      obtain rfl : kk = 6 := by omega
      go_wp2
      go_ret2
      exact ⟨_, rfl, HR.out, HW.out⟩


end Go.Proofs.Ytophaihdibplkaa.PFnExactSafeDocs
