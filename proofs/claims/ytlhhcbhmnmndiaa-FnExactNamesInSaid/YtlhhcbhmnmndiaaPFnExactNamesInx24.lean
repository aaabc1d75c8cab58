/- By a program of this session, out of the kit's print and contracts made by hand: the machine side of a law; Lean checks it. No conditions. -/
import Derived.Test.YtlhhcbhmnmndiaaPFnExactNamesInx0
import Derived.Test.YtlhhcbhmnmndiaaPFnExactNamesInx18
import Derived.Test.YtlhhcbhmnmndiaaPFnExactNamesInx22
import Derived.Test.YtlhhcbhmnmndiaaPFnExactNamesInx23
namespace Go.Proofs.Ytlhhcbhmnmndiaa.PFnExactNamesIn
open Go.RowKit Go.Proofs.YtlhhcbhmnmndiaaW.PrintWords Go.Proofs.YtlhhcbhmnmndiaaW.PrintLast Go.Proofs.YtlhhcbhmnmndiaaW.PrintMore
attribute [local go_sem] max2_int min2_int max_two min_two max_three min_three max_four min_four   -- for this text's walks alone
set_option linter.unusedVariables false
set_option linter.unusedSimpArgs false

/-! ### impl_NamesIn: function 9, by hand -/
-- also 42
-- also 44
theorem infoStr : (Try.prog.info? 9).map (fun i => (i.zero, i.size, i.bytes)) = some (some (.string ⟨#[]⟩), 1, 16) := by kernel_rfl
def stepN (x : S49) (_ : List Int) (s : List ByteArray) : List ByteArray := if x.f0 = 1 ∧ Kit.hasT s x.f2 = false then s ++ [x.f2] else s
def FewT (s : List ByteArray) : Prop := s.length ≤ 1000000
/-- The box of 'out' holds a row of one's own that reads s. -/
def namesSt (w0 : World) (g : Nat) (s : List ByteArray) (W : World) : Prop := ∃ A c, W.heap[g]? = some (.cells #[.slice A s.length c] 24 (0, 0)) ∧ Kd.R Kd.string 9 W w0.heap.size (fun k => k ≠ g) (.slice A s.length c) s ∧ w0.heap.size ≤ g
theorem has_calls (s : List ByteArray) (t : ByteArray) (hs : s.length ≤ 1000000) (A : Option Addr) (c : Nat) (W : World) (hr : Kd.C Kd.string W A s.length s) (hc : s.length ≤ c) : Calls Try.prog 44 #[.slice A s.length c, .string t] W fun e w' => e = .returned (.bool (Kit.hasT s t)) ∧ Drawn0 W w' := by
  obtain ⟨K, hK⟩ := ev_slices_Contains s t (by omega)
  exact slices_Contains_string_string.calls K A c s t _ W hr hc (hK K (Nat.le_refl K))
set_option maxHeartbeats 8000000 in
set_option maxRecDepth 1000000 in
theorem names_lit (w0 : World) (g : Nat) (x : S49) (ps : List Int) (s : List ByteArray) (A4 : Option Addr) (c4 : Nat) (A5 : Option Addr) (c5 : Nat) (ap : Addr) (n c : Nat) (W : World) (hB : Below w0.heap.size w0 W) (hs : namesSt w0 g s W) (ho : FewT (stepN x ps s)) :
    Calls Try.prog 43 #[.agg #[.int .i64 x.f0, .int .i64 x.f1, .string x.f2, .string x.f3, .slice A4 x.f4.length c4, .slice A5 x.f5.length c5], .slice (some ap) n c, .pointer (some ⟨g, 0, none⟩)] W fun e w' => e = .returned (.tuple #[]) ∧ namesSt w0 g (stepN x ps s) w' ∧ Lib.OthersKept 9 (some g) W w' ∧ Below w0.heap.size w0 w' := by
  obtain ⟨A, cc, hg, hR, hg0⟩ := hs
  have hB1 := below_alloc hB (.cells #[.int .i64 x.f0, .int .i64 x.f1, .string x.f2, .string x.f3, .slice A4 x.f4.length c4, .slice A5 x.f5.length c5] 49 (0, 0))
  have hk1 : Lib.OthersKept 9 (some g) W (W.alloc (.cells #[.int .i64 x.f0, .int .i64 x.f1, .string x.f2, .string x.f3, .slice A4 x.f4.length c4, .slice A5 x.f5.length c5] 49 (0, 0))) := ok_below (below_alloc (Below.refl _ _) _)
  have hg1 := blk_alloc hg (.cells #[.int .i64 x.f0, .int .i64 x.f1, .string x.f2, .string x.f3, .slice A4 x.f4.length c4, .slice A5 x.f5.length c5] 49 (0, 0))
  have hR1 := Kd.R_alloc hR (.cells #[.int .i64 x.f0, .int .i64 x.f1, .string x.f2, .string x.f3, .slice A4 x.f4.length c4, .slice A5 x.f5.length c5] 49 (0, 0))
  have hgl := blk_lt hg
  have hfew : s.length ≤ 1000000 := by
    unfold FewT stepN at ho
    split at ho
    · rw [List.length_append] at ho; omega
    · exact ho
  have q0 : (W.alloc (.cells #[.int .i64 x.f0, .int .i64 x.f1, .string x.f2, .string x.f3, .slice A4 x.f4.length c4, .slice A5 x.f5.length c5] 49 (0, 0))).cell? ⟨g, 0, none⟩ = some (.slice A s.length cc) := (blk_cell hg1 0).trans rfl
  have q1 : (W.alloc (.cells #[.int .i64 x.f0, .int .i64 x.f1, .string x.f2, .string x.f3, .slice A4 x.f4.length c4, .slice A5 x.f5.length c5] 49 (0, 0))).frozen? ⟨g, 0, none⟩ = false := blk_frozen hg1 0
  have b0 : (W.alloc (.cells #[.int .i64 x.f0, .int .i64 x.f1, .string x.f2, .string x.f3, .slice A4 x.f4.length c4, .slice A5 x.f5.length c5] 49 (0, 0))).cell? ⟨W.heap.size, 0, none⟩ = some (.int .i64 x.f0) := Mach.new_cell W _ _ 0 _ rfl
  have b1 : (W.alloc (.cells #[.int .i64 x.f0, .int .i64 x.f1, .string x.f2, .string x.f3, .slice A4 x.f4.length c4, .slice A5 x.f5.length c5] 49 (0, 0))).cell? ⟨W.heap.size, 1, none⟩ = some (.int .i64 x.f1) := Mach.new_cell W _ _ 1 _ rfl
  have b2 : (W.alloc (.cells #[.int .i64 x.f0, .int .i64 x.f1, .string x.f2, .string x.f3, .slice A4 x.f4.length c4, .slice A5 x.f5.length c5] 49 (0, 0))).cell? ⟨W.heap.size, 2, none⟩ = some (.string x.f2) := Mach.new_cell W _ _ 2 _ rfl
  have b3 : (W.alloc (.cells #[.int .i64 x.f0, .int .i64 x.f1, .string x.f2, .string x.f3, .slice A4 x.f4.length c4, .slice A5 x.f5.length c5] 49 (0, 0))).cell? ⟨W.heap.size, 3, none⟩ = some (.string x.f3) := Mach.new_cell W _ _ 3 _ rfl
  have b4 : (W.alloc (.cells #[.int .i64 x.f0, .int .i64 x.f1, .string x.f2, .string x.f3, .slice A4 x.f4.length c4, .slice A5 x.f5.length c5] 49 (0, 0))).cell? ⟨W.heap.size, 4, none⟩ = some (.slice A4 x.f4.length c4) := Mach.new_cell W _ _ 4 _ rfl
  have b5 : (W.alloc (.cells #[.int .i64 x.f0, .int .i64 x.f1, .string x.f2, .string x.f3, .slice A4 x.f4.length c4, .slice A5 x.f5.length c5] 49 (0, 0))).cell? ⟨W.heap.size, 5, none⟩ = some (.slice A5 x.f5.length c5) := Mach.new_cell W _ _ 5 _ rfl
  have hst : namesSt w0 g s (W.alloc (.cells #[.int .i64 x.f0, .int .i64 x.f1, .string x.f2, .string x.f3, .slice A4 x.f4.length c4, .slice A5 x.f5.length c5] 49 (0, 0))) := ⟨A, cc, hg1, hR1, hg0⟩
  by_cases h1 : x.f0 = 1
  case neg =>
    have z1 : (x.f0 == 1) = false := by simpa using h1
    have e : stepN x ps s = s := if_neg (fun h => h1 h.1)
    rw [e]
    have HS := Aside0.mk hst
    have HB := Aside0.mk hB1
    have HK := Aside0.mk hk1
    clear hst hB hB1 hk1 hg hg1 hR hR1 e ho h1 hfew
    go_enter Try.func43, Try.ntmps43
    go_wp2
    go_end0
    exact ⟨rfl, HS.out, HK.out, HB.out⟩
  have z1 : (x.f0 == 1) = true := by simpa using h1
  have QC := Aside0.mk (has_calls s x.f2 hfew A cc (W.alloc (.cells #[.int .i64 x.f0, .int .i64 x.f1, .string x.f2, .string x.f3, .slice A4 x.f4.length c4, .slice A5 x.f5.length c5] 49 (0, 0))) (by have := (Kd.R_reads' hR1).2.2; exact this) (Kd.R_reads' hR1).2.1)
  by_cases h2 : Kit.hasT s x.f2 = true
  case pos =>
    have e : stepN x ps s = s := if_neg (fun h => by rw [h2] at h; cases h.2)
    rw [e]
    rw [h2] at QC
    have HS := Aside0.mk hst
    have HB := Aside0.mk hB1
    have HK := Aside0.mk hk1
    clear hst hB hB1 hk1 hg hg1 hR hR1 e ho h1 h2 hfew
    go_enter Try.func43, Try.ntmps43
    go_wp2_with (go_at_call 44; (with_reducible refine QC.out.mono ?_); rintro e w1 ⟨rfl, ⟨nd, rfl⟩⟩)
    go_end0
    obtain ⟨A', c', u1, u2, u3⟩ := HS.out
    exact ⟨rfl, ⟨A', c', blk_drewN u1 _, Kd.R_drewN u2 _, u3⟩, HK.out, pw_below_drewN HB.out _⟩
  have h3 : Kit.hasT s x.f2 = false := by simpa using h2
  have e : stepN x ps s = s ++ [x.f2] := if_pos ⟨h1, h3⟩
  rw [e]
  rw [h3] at QC
  have hty := Kd.R_typed hR1
  have HTY := Aside0.mk hty
  have HR1 := Aside0.mk hR1
  have HG1 := Aside0.mk hg1
  have HB := Aside0.mk hB1
  have HK := Aside0.mk hk1
  have HF := Aside0.mk hfew
  clear hst hB hB1 hk1 hg hg1 hR hR1 e ho h1 h2 h3 hfew hty
  go_enter Try.func43, Try.ntmps43
  go_wp2_with (first | (go_at_call 44; (with_reducible refine QC.out.mono ?_); rintro e w1 ⟨rfl, ⟨nd, rfl⟩⟩) | ((with_reducible refine gate_builtin (b := .append) (xs := #[.tmp 15, .tmp 18]) rfl ?_); at_builtin; refine Kd.R_append Kd.string (w0 := w0) (W := (W.alloc (.cells #[.int .i64 x.f0, .int .i64 x.f1, .string x.f2, .string x.f3, .slice A4 x.f4.length c4, .slice A5 x.f5.length c5] 49 (0, 0))).drewN nd) w0.heap.size rfl (.tmp 15) (.tmp 18) 24 9 (.string ⟨#[]⟩) 16 rfl Try.underlying24 infoStr rfl (by decide) (by omega) (.slice A s.length cc) s x.f2 [.string x.f2] (fun k => k ≠ g) (fun _ => False) rfl ?hx ?aP (fun _ hk => hk.elim) ?aF ?aO ?aB ?aS ?aL ?_; (case hx => first | rfl | (go_simp; done) | (simp; done) | (go_simp; rfl)); (case aP => exact rfl); (case aF => exact (fun k hk => by (have : W.heap.size + 1 ≤ k := by (simpa using hk)); omega)); (case aO => exact Kd.R_drewN HR1.out _); (case aB => exact pw_below_drewN HB.out _); (case aS => exact HB.out.size); (case aL => have := HF.out; omega); intro v4 w4 ho hb hgr hat; obtain ⟨A6, c6, rfl⟩ := Kd.R_slice ho; (have HO := Aside0.mk ho); (have HB4 := Aside0.mk hb); (have HGR := Aside0.mk hgr); (have hg4 := blk_grown (blk_drewN HG1.out nd) hgr (fun he => by obtain ⟨cs, hcs⟩ := HTY.out g he.symm; rw [HG1.out] at hcs; injection hcs with hcs; injection hcs with _ hcs; exact absurd hcs (by decide))); (have HG4 := Aside0.mk hg4); (have q4 : w4.cell? ⟨g, 0, none⟩ = some (.slice A s.length cc) := (blk_cell hg4 0).trans rfl); (have f4 : w4.frozen? ⟨g, 0, none⟩ = false := blk_frozen hg4 0); clear ho hb hgr hat hg4))
  go_end0
  refine ⟨rfl, ⟨A6, c6, blk_put HG4.out 0 _ (by rw [List.length_append]; rfl), Kd.R_far (p := ⟨g, 0, none⟩) HO.out (fun k hk => hk) _, hg0⟩, ?_, below_set HB4.out hg0⟩
  refine Lib.OthersKept.setCell ((Lib.OthersKept.grown (a := W) (w := (W.alloc (.cells #[.int .i64 x.f0, .int .i64 x.f1, .string x.f2, .string x.f3, .slice A4 x.f4.length c4, .slice A5 x.f5.length c5] 49 (0, 0))).drewN nd) (row := (Value.slice A s.length cc).ownBlock) HK.out (w' := w4) ?_ (fun k hk => ?_))) ⟨g, 0, none⟩ rfl _
  · exact HGR.out
  · obtain ⟨cs, hcs⟩ := HTY.out k hk
    exact ⟨cs, (0, 0), hcs⟩
set_option maxHeartbeats 8000000 in
set_option maxRecDepth 1000000 in
theorem impl_names.calls (A0 : Option Addr) (c0 : Nat) (l0 : List S49) (w : World) (hr0 : Kd.C k49 w A0 l0.length l0) (hd : ∀ y ∈ l0, depE 10 y = true) (ho : FewT (eachP stepN 10 l0 [] [])) :
    Calls Try.prog 28 #[.slice A0 l0.length c0] w fun e w' => ∃ v, e = .returned v ∧ Kd.R Kd.string 9 w' w.heap.size (fun _ => True) v (eachP stepN 10 l0 [] []) ∧ Below w.heap.size w w' := by
  have hgood : ∀ n (x : S49), depE n x = true → goodE (fun _ => True) n x := by
    intro n
    induction n with
    | zero => intro x h; cases h
    | succ n ih => intro x h; rw [depE, List.all_eq_true] at h; exact ⟨trivial, fun y hy => ih y (h y hy)⟩
  have QE : Aside0 (∀ V A c, Below w.heap.size w V → Kd.R Kd.string 9 V w.heap.size (fun k => k ≠ V.heap.size) (.slice A 0 c) [] → Calls Try.prog 42 #[.slice A0 l0.length c0, .slice none 0 0, .func (.func 43) #[] #[.pointer (some ⟨V.heap.size, 0, none⟩)]] (V.alloc (.cells #[.slice A 0 c] 24 (0, 0))) fun e w' => e = .returned (.tuple #[]) ∧ namesSt w V.heap.size (eachP stepN 10 l0 [] []) w' ∧ Below w.heap.size w w') := ⟨fun V A c hV hR => by
    refine (each_holdsP 9 (by decide) (by decide) (fun s W => namesSt w V.heap.size s W) FewT (fun _ => True) stepN w V.heap.size 43 #[.pointer (some ⟨V.heap.size, 0, none⟩)] (Mach.enters_of Try.func43 (by kernel_rfl) rfl) (fun s W W' hb h => ?_) (fun s W h => ?_) (fun x p s h => ?_)
      (fun x ps s A4 c4 A5 c5 ap n c W _ _ _ _ _ _ _ hB hs ho => names_lit w V.heap.size x ps s A4 c4 A5 c5 ap n c W hB hs ho) 10 A0 c0 l0 [] (.slice none 0 0) [] (V.alloc (.cells #[.slice A 0 c] 24 (0, 0))) (by decide) (fun y hy => hgood 10 y (hd y hy)) hr0 (.inl ⟨rfl, rfl⟩) (below_alloc hV _) ⟨A, c, blk_new V _, Kd.R_alloc hR _, hV.size⟩ ho).mono fun e w' ⟨h1, h2, _, h4⟩ => ⟨h1, h2, h4⟩
    · obtain ⟨A', c', u1, u2, u3⟩ := h
      exact ⟨A', c', blk_below u1 hb, Kd.R_below u2 hb, u3⟩
    · obtain ⟨A', c', u1, _⟩ := h
      exact blk_lt u1
    · unfold FewT stepN at *
      split at h
      · rw [List.length_append] at h; omega
      · exact h⟩
  have HB := Aside0.mk (Below.refl w.heap.size w)
  have hn := hr0.2.1
  clear hr0 hd ho hgood
  generalize eachP stepN 10 l0 [] [] = R at *
  generalize l0.length = n0 at *
  go_enter Try.func28, Try.ntmps28
  go_wp2_with (first | ((with_reducible refine gate_dst (N := 4) rfl ?_); refine Kd.R_lit Kd.string (w0 := w) w.heap.size 9 ?hg (N := 4) ?hd (xs := ([] : List ByteArray)) (inner := []) (ok := fun _ => True) (okp := fun _ => True) ?hr ?hp (fun _ hk => hk) trivial (Below.refl _ _) (Nat.le_refl _) (by simp) ?_; (case hd => rfl); (case hg => rfl); (case hr => first | (go_simp; done) | (go_simp; rfl)); (case hp => exact (Reps.none _ _)); intro v2 w2 ho hb _ _; obtain ⟨A2, c2, rfl⟩ := Kd.R_slice ho; (have HR2 : Aside0 (Kd.R Kd.string 9 w2 w.heap.size (fun k => k ≠ w2.heap.size) (.slice A2 0 c2) []) := ⟨Kd.R_mono (Kd.R_bound ho) (fun k hk => by have := hk.2.2.1; omega)⟩); (have HB2 := Aside0.mk hb); clear ho hb) | (go_at_call 42; (with_reducible refine (QE.out w2 A2 c2 HB2.out HR2.out).mono ?_); rintro e w3 ⟨rfl, ⟨A3, c3, u1, u2, u3⟩, hb⟩; (have HR3 := Aside0.mk u2); (have HB3 := Aside0.mk hb); (have q3 : w3.cell? ⟨w2.heap.size, 0, none⟩ = some (.slice A3 R.length c3) := (blk_cell u1 0).trans rfl); clear u1 u2 u3 hb))
  go_ret
  exact ⟨_, rfl, Kd.R_mono HR3.out (fun _ _ => trivial), HB3.out⟩
def impl_NamesIn.f (l0 : List S49) : Option (List ByteArray × Int) := (impl_fault.f l0).bind fun c => if c = 0 then (if (∀ y ∈ l0, depE 10 y = true) ∧ (eachP stepN 10 l0 [] []).length ≤ 1000000 then some (eachP stepN 10 l0 [] [], 0) else none) else some ([], c)
set_option maxHeartbeats 4000000 in
theorem impl_NamesIn.calls (A0 : Option Addr) (c0 : Nat) (l0 : List S49) (r1 : List ByteArray) (r2 : Int) (w : World) (hr0 : Kd.C k49 w A0 l0.length l0) (hc0 : l0.length ≤ c0) (h : impl_NamesIn.f l0 = some (r1, r2)) :
    Calls Try.prog 9 #[.slice A0 l0.length c0] w fun e w' => ∃ v, e = .returned (.tuple #[v, .int .i64 r2]) ∧ Kd.R Kd.string 9 w' w.heap.size (fun _ => True) v r1 ∧ Below w.heap.size w w' := by
  unfold impl_NamesIn.f at h
  obtain ⟨cd, hcd, h⟩ := Option.bind_eq_some_iff.mp h
  have QF := Aside0.mk (impl_fault.calls A0 c0 l0 cd w hr0 hc0 hcd)
  by_cases hz : cd = 0
  case neg =>
    rw [if_neg hz] at h
    obtain ⟨rfl, rfl⟩ := Prod.mk.inj (Option.some.inj h)
    have hz1 : (cd == 0) = false := by simpa using hz
    have hz2 : (cd != 0) = true := by simpa using hz
    clear h hcd hr0 hc0
    generalize l0.length = n0 at *
    go_enter Try.func9, Try.ntmps9
    go_wp2_with (go_at_call 27; (with_reducible refine QF.out.mono ?_); rintro e w1 ⟨rfl, hb1⟩; have HB1 := Aside0.mk hb1; clear hb1)
    go_ret2
    exact ⟨_, rfl, Kd.R_nil _ _ _ _ _, HB1.out⟩
  case pos =>
    subst hz
    rw [if_pos rfl] at h
    obtain ⟨hd, h⟩ := Option.ite_none_right_eq_some.mp h
    obtain ⟨rfl, rfl⟩ := Prod.mk.inj (Option.some.inj h)
    have QN : Aside0 (∀ V, Below w.heap.size w V → Calls Try.prog 28 #[.slice A0 l0.length c0] V fun e w' => ∃ v, e = .returned v ∧ Kd.R Kd.string 9 w' V.heap.size (fun _ => True) v (eachP stepN 10 l0 [] []) ∧ Below V.heap.size V w') := ⟨fun V hV => impl_names.calls A0 c0 l0 V (Kd.C_below hr0 hV) hd.1 hd.2⟩
    clear h hcd hr0 hc0 hd
    generalize eachP stepN 10 l0 [] [] = R at *
    generalize l0.length = n0 at *
    go_enter Try.func9, Try.ntmps9
    go_wp2_with (first | (go_at_call 27; (with_reducible refine QF.out.mono ?_); rintro e w1 ⟨rfl, hb1⟩; have HB1 := Aside0.mk hb1; clear hb1) | (go_at_call 28; (with_reducible refine (QN.out w1 HB1.out).mono ?_); rintro e w2 ⟨v2, rfl, hr2, hb2⟩; have HR2 := Aside0.mk hr2; have HB2 := Aside0.mk (below_step HB1.out hb2); clear hr2 hb2))
    go_ret2
    exact ⟨_, rfl, Kd.R_lower HR2.out HB1.out.size, HB2.out⟩


end Go.Proofs.Ytlhhcbhmnmndiaa.PFnExactNamesIn
