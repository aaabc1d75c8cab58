/- By a program of this session, out of the kit's print and contracts made by hand: the machine side of a law; Lean checks it. No conditions. -/
import Derived.Test.YtaoalcaabhcjeaaPFnExactDepthOfx0
import Derived.Test.YtaoalcaabhcjeaaPFnExactDepthOfx22
namespace Go.Proofs.Ytaoalcaabhcjeaa.PFnExactDepthOf
open Go.RowKit Go.Proofs.YtaoalcaabhcjeaaW.PrintWords Go.Proofs.YtaoalcaabhcjeaaW.PrintLast Go.Proofs.YtaoalcaabhcjeaaW.PrintMore
attribute [local go_sem] max2_int min2_int max_two min_two max_three min_three max_four min_four   -- for this text's walks alone
set_option linter.unusedVariables false
set_option linter.unusedSimpArgs false

/-! ### impl_each: function 30, by hand -/
theorem infoInt : (Try.prog.info? 3).map (fun i => (i.zero, i.size, i.bytes)) = some (some (.int .i64 0), 1, 8) := by kernel_rfl
def depE : Nat → S46 → Bool
  | 0, _ => false
  | n + 1, x => x.f5.all (depE n)
/-- What each tells, over a state. -/
def eachI (step : S46 → Nat → Int → Int) : Nat → List S46 → Nat → Int → Int
  | 0, _, _, s => s
  | b + 1, l, d, s => l.foldl (fun s x => eachI step b x.f5 (d + 1) (step x (d + 1) s)) s
/-- A path: none, or a row of one's own. -/
def PathOK (g : Nat) (W : World) (n : Nat) (v : Value) : Prop := (v = .slice none 0 0 ∧ n = 0) ∨ ∃ base xs, Kd.R (Kd.int .i64) 3 W base (fun k => k ≠ g) v xs ∧ xs.length = n ∧ 0 < n
theorem PathOK.keep {g n : Nat} {W W' : World} {v : Value} (h : PathOK g W n v) (hk : KeepBut W W' g none) : PathOK g W' n v := by
  rcases h with h | ⟨base, xs, hR, hl, hp⟩
  case inl => exact .inl h
  case inr => exact .inr ⟨base, xs, Kd.R_keep hR hk (fun _ h => h), hl, hp⟩
theorem PathOK.form {g n : Nat} {W : World} {v : Value} (h : PathOK g W n v) : ∃ A c, v = .slice A n c := by
  rcases h with ⟨rfl, rfl⟩ | ⟨base, xs, hR, hl, hp⟩
  case inl => exact ⟨_, _, rfl⟩
  case inr =>
    obtain ⟨a, cap, rfl, _⟩ := Kd.R_form hR (by omega)
    exact ⟨_, _, by rw [hl]⟩
theorem clone_path (g : Nat) (W : World) (n : Nat) (v : Value) (hn : n ≤ 100) (h : PathOK g W n v) (hg : g < W.heap.size) : Calls Try.prog 49 #[v] W fun e w' => ∃ v' xs, e = .returned v' ∧ Kd.R (Kd.int .i64) 3 w' W.heap.size (fun k => k ≠ g) v' xs ∧ xs.length = n ∧ Below W.heap.size W w' := by
  rcases h with ⟨rfl, rfl⟩ | ⟨base, xs, hR, hl, hp⟩
  case inl =>
    refine (Try.slices_Clone_int_nil 0 0 W).mono ?_
    rintro e w' ⟨rfl, rfl⟩
    exact ⟨_, [], rfl, Kd.R_nil _ _ _ _ _, rfl, Below.refl _ _⟩
  case inr =>
    obtain ⟨b, cap, rfl, _, _, _⟩ := Kd.R_form hR (by omega)
    have hc : ∀ j, j < xs.length → W.cell? ⟨b, 0 + j, none⟩ = some (.int .i64 (xs.getD j 0)) := fun j hj => by
      have h := (Kd.R_cell (0 : Int) hR (j : Int) (by omega) (by omega)).1
      rw [Int.toNat_natCast, Kit.rdOf_nat] at h
      rw [Nat.zero_add]
      exact h
    refine (Try.slices_Clone_int b 0 xs.length cap xs W (Nat.le_refl _) (by omega) hc).mono ?_
    rintro e w' ⟨v', rfl, ho, _, hb⟩
    rw [List.take_length] at ho
    have hR1 : Kd.R (Kd.int .i64) 3 w' W.heap.size (fun _ => True) v' xs := Kd.R_of_own (enc := Value.int .i64) ho (fun _ _ => trivial)
    have hR2 : Kd.R (Kd.int .i64) 3 w' W.heap.size (fun k => k ≠ g) v' xs := Kd.R_of_own (enc := Value.int .i64) ho (fun k hk => by have := Kd.R_base hR1 k hk; omega)
    exact ⟨v', xs, rfl, hR2, hl, hb⟩
set_option maxHeartbeats 4000000 in
set_option maxRecDepth 100000 in
theorem impl_each.holds (step : S46 → Nat → Int → Int) (w0 : World) (g gf : Nat) (lb : Array Value) (eg : ∀ args w, (callFunc gf args).run Try.prog w = .ok (.enter gf args) w) (hg0 : w0.heap.size ≤ g)
    (hcall : ∀ (x : S46) (n : Nat) (s : Int) (A4 : Option Addr) (c4 : Nat) (A5 : Option Addr) (c5 : Nat) (A : Option Addr) (c : Nat) (W : World), Below w0.heap.size w0 W → W.heap[g]? = some (.cells #[.int .i64 s] 3 (0, 0)) → Calls Try.prog gf (#[.agg #[.int .i64 x.f0, .int .i64 x.f1, .string x.f2, .string x.f3, .slice A4 x.f4.length c4, .slice A5 x.f5.length c5], .slice A n c] ++ lb) W fun e w' => e = .returned (.tuple #[]) ∧ w'.heap[g]? = some (.cells #[.int .i64 (step x n s)] 3 (0, 0)) ∧ KeepBut W w' g none ∧ Below w0.heap.size w0 w') (b : Nat) :
    ∀ (A0 : Option Addr) (c0 : Nat) (l0 : List S46) (n : Nat) (v : Value) (s : Int) (w : World), n + b ≤ 50 → (∀ y ∈ l0, depE b y = true) → Kd.C k46 w0 A0 l0.length l0 → PathOK g w n v → Below w0.heap.size w0 w → w.heap[g]? = some (.cells #[.int .i64 s] 3 (0, 0)) →
      Calls Try.prog 30 #[.slice A0 l0.length c0, v, .func (.func gf) #[] lb] w fun e w' => e = .returned (.tuple #[]) ∧ w'.heap[g]? = some (.cells #[.int .i64 (eachI step b l0 n s)] 3 (0, 0)) ∧ KeepBut w w' g none ∧ Below w0.heap.size w0 w' := by
  have HCALL := Aside0.mk hcall
  clear hcall
  induction b with
  | zero =>
    intro A0 c0 l0 n v s w hn hd hr hp hB hs
    cases l0 with
    | cons x l => exact absurd (hd x (List.mem_cons_self)) Bool.false_ne_true
    | nil =>
      obtain ⟨Av, cv, rfl⟩ := hp.form
      rw [List.length_nil]
      have HB := Aside0.mk hB
      have HS := Aside0.mk hs
      clear hB hs hp hr hd
      go_enter Try.func30, Try.ntmps30
      go_wp2
      go_loopg [6, 7, 8, 11] 0 (fun gg _ _ _ s11 wr => s11 = .int .i64 0 ∧ wr = w)
      case atStart => exact ⟨rfl, rfl⟩
      case round =>
        obtain ⟨rfl, rfl⟩ := hrel
        go_wp2
        go_end0
        exact ⟨rfl, HS.out, KeepBut.refl _ _ _, HB.out⟩
  | succ b ih =>
    intro A0 c0 l0 n v s w hn hd hr hp hB hs
    rw [eachI]
    obtain ⟨R, hR⟩ : ∃ R, l0.foldl (fun s x => eachI step b x.f5 (n + 1) (step x (n + 1) s)) s = R := ⟨_, rfl⟩
    rw [hR]
    have HR := Aside0.mk hR
    have hL : l0.length ≤ 9223372036854775807 := hr.2.1
    have hgw : g < w.heap.size := blk_lt hs
    obtain ⟨Av, cv, rfl⟩ := hp.form
    have HP := Aside0.mk hp
    have HB := Aside0.mk hB
    have HS := Aside0.mk hs
    have HD := Aside0.mk hd
    have HC := Aside0.mk hr
    have IH := Aside0.mk ih
    clear hR hp hB hs hd hr ih
    go_enter Try.func30, Try.ntmps30
    go_wp2
    go_loopg [6, 7, 8, 11] l0.length (fun gg _ _ _ s11 wr => ∃ (kk : Nat) (cc : Int), kk ≤ l0.length ∧ l0.length - kk ≤ gg ∧ s11 = .int .i64 kk ∧ Aside0 ((l0.drop kk).foldl (fun s x => eachI step b x.f5 (n + 1) (step x (n + 1) s)) cc = R) ∧ Aside0 (wr.heap[g]? = some (.cells #[.int .i64 cc] 3 (0, 0))) ∧ Aside0 (Below w0.heap.size w0 wr) ∧ Aside0 (KeepBut w wr g none))
    case atStart => exact ⟨0, s, Nat.zero_le _, by omega, rfl, HR, HS, HB, ⟨KeepBut.refl _ _ _⟩⟩
    case round =>
      obtain ⟨kk, cc, hkk, hgg, rfl, KI, HG, BW, KB⟩ := hrel
      by_cases hlt : kk < l0.length
      case pos =>
        have hltz : (kk : Int) < (l0.length : Int) := by omega
        obtain ⟨ad, cs, e, hcl, hK, hc⟩ := Kd.C_get HC.out z46 (kk : Int) (by omega) (by omega)
        rw [Int.toNat_natCast] at hK hc
        have hdr : l0.drop kk = l0.getD kk z46 :: l0.drop (kk + 1) := by rw [List.getD_eq_getElem?_getD, List.getElem?_eq_getElem hlt]; exact List.drop_eq_getElem_cons hlt
        have KI2 := KI.out
        rw [hdr, List.foldl_cons] at KI2
        have hky := HD.out _ (Kit.getD_mem z46 hlt)
        rw [depE, List.all_eq_true] at hky
        clear KI hdr
        generalize l0.getD kk z46 = x at *
        obtain ⟨A4, c4, A5, c5, rfl, m4, q4, m5, q5⟩ := k46_open hK
        subst e
        have r0 : wr.cell? (ad.add (kk * 6)) = some (.int .i64 x.f0) := pw_cell_below BW.out (hc 0 _ rfl)
        have r1 : wr.cell? ⟨(ad.add (kk * 6)).block, (ad.add (kk * 6)).off + 1, none⟩ = some (.int .i64 x.f1) := pw_cell_below BW.out (by rw [← add_field _ _ 1 (by omega)]; exact hc 1 _ rfl)
        have r2 : wr.cell? ⟨(ad.add (kk * 6)).block, (ad.add (kk * 6)).off + 2, none⟩ = some (.string x.f2) := pw_cell_below BW.out (by rw [← add_field _ _ 2 (by omega)]; exact hc 2 _ rfl)
        have r3 : wr.cell? ⟨(ad.add (kk * 6)).block, (ad.add (kk * 6)).off + 3, none⟩ = some (.string x.f3) := pw_cell_below BW.out (by rw [← add_field _ _ 3 (by omega)]; exact hc 3 _ rfl)
        have r4 : wr.cell? ⟨(ad.add (kk * 6)).block, (ad.add (kk * 6)).off + 4, none⟩ = some (.slice A4 x.f4.length c4) := pw_cell_below BW.out (by rw [← add_field _ _ 4 (by omega)]; exact hc 4 _ rfl)
        have r5 : wr.cell? ⟨(ad.add (kk * 6)).block, (ad.add (kk * 6)).off + 5, none⟩ = some (.slice A5 x.f5.length c5) := pw_cell_below BW.out (by rw [← add_field _ _ 5 (by omega)]; exact hc 5 _ rfl)
        have KI3 := Aside0.mk KI2
        have HKY := Aside0.mk hky
        have HQ5 := Aside0.mk q5
        clear hc hK hcl KI2 hky m4 q4 m5 q5
        have hgr : g < wr.heap.size := blk_lt HG.out
        have hne : wr.heap.size ≠ g := by omega
        have KW : Aside0 (KeepBut wr (wr.alloc (.cells #[.int .i64 x.f0, .int .i64 x.f1, .string x.f2, .string x.f3, .slice A4 x.f4.length c4, .slice A5 x.f5.length c5] 46)) g none) := ⟨KeepBut.of_below (below_alloc (Below.refl _ _) _) g none⟩
        have HP1 : Aside0 (PathOK g (wr.alloc (.cells #[.int .i64 x.f0, .int .i64 x.f1, .string x.f2, .string x.f3, .slice A4 x.f4.length c4, .slice A5 x.f5.length c5] 46)) n (.slice Av n cv)) := ⟨(HP.out.keep KB.out).keep KW.out⟩
        have QC := Aside0.mk (clone_path g (wr.alloc (.cells #[.int .i64 x.f0, .int .i64 x.f1, .string x.f2, .string x.f3, .slice A4 x.f4.length c4, .slice A5 x.f5.length c5] 46)) n (.slice Av n cv) (by omega) HP1.out (by rw [World.size_alloc]; omega))
        have b0 : Aside0 ((wr.alloc (.cells #[.int .i64 x.f0, .int .i64 x.f1, .string x.f2, .string x.f3, .slice A4 x.f4.length c4, .slice A5 x.f5.length c5] 46)).cell? ⟨wr.heap.size, 0, none⟩ = some (.int .i64 x.f0)) := ⟨Mach.new_cell wr _ _ 0 _ rfl⟩
        have b1 : Aside0 ((wr.alloc (.cells #[.int .i64 x.f0, .int .i64 x.f1, .string x.f2, .string x.f3, .slice A4 x.f4.length c4, .slice A5 x.f5.length c5] 46)).cell? ⟨wr.heap.size, 1, none⟩ = some (.int .i64 x.f1)) := ⟨Mach.new_cell wr _ _ 1 _ rfl⟩
        have b2 : Aside0 ((wr.alloc (.cells #[.int .i64 x.f0, .int .i64 x.f1, .string x.f2, .string x.f3, .slice A4 x.f4.length c4, .slice A5 x.f5.length c5] 46)).cell? ⟨wr.heap.size, 2, none⟩ = some (.string x.f2)) := ⟨Mach.new_cell wr _ _ 2 _ rfl⟩
        have b3 : Aside0 ((wr.alloc (.cells #[.int .i64 x.f0, .int .i64 x.f1, .string x.f2, .string x.f3, .slice A4 x.f4.length c4, .slice A5 x.f5.length c5] 46)).cell? ⟨wr.heap.size, 3, none⟩ = some (.string x.f3)) := ⟨Mach.new_cell wr _ _ 3 _ rfl⟩
        have b4 : Aside0 ((wr.alloc (.cells #[.int .i64 x.f0, .int .i64 x.f1, .string x.f2, .string x.f3, .slice A4 x.f4.length c4, .slice A5 x.f5.length c5] 46)).cell? ⟨wr.heap.size, 4, none⟩ = some (.slice A4 x.f4.length c4)) := ⟨Mach.new_cell wr _ _ 4 _ rfl⟩
        have b5 : Aside0 ((wr.alloc (.cells #[.int .i64 x.f0, .int .i64 x.f1, .string x.f2, .string x.f3, .slice A4 x.f4.length c4, .slice A5 x.f5.length c5] 46)).cell? ⟨wr.heap.size, 5, none⟩ = some (.slice A5 x.f5.length c5)) := ⟨Mach.new_cell wr _ _ 5 _ rfl⟩
        have HG1 : Aside0 ((wr.alloc (.cells #[.int .i64 x.f0, .int .i64 x.f1, .string x.f2, .string x.f3, .slice A4 x.f4.length c4, .slice A5 x.f5.length c5] 46)).heap[g]? = some (.cells #[.int .i64 cc] 3 (0, 0))) := ⟨blk_alloc HG.out _⟩
        have BW1 : Aside0 (Below w0.heap.size w0 (wr.alloc (.cells #[.int .i64 x.f0, .int .i64 x.f1, .string x.f2, .string x.f3, .slice A4 x.f4.length c4, .slice A5 x.f5.length c5] 46))) := ⟨below_alloc BW.out _⟩
        go_wp2_with (first | (go_at_call 49; (with_reducible refine QC.out.mono ?_); rintro e w2 ⟨v2, zs, rfl, hR2, hz2, hb2⟩; have HR2 := Aside0.mk hR2; have HB2 := Aside0.mk hb2; have HZ2 := Aside0.mk hz2; clear hR2 hb2 hz2) | ((with_reducible refine gate_builtin (b := .append) (xs := #[.tmp 17, .tmp 19]) rfl ?_); at_builtin; refine Kd.R_append (Kd.int .i64) (w0 := (wr.alloc (.cells #[.int .i64 x.f0, .int .i64 x.f1, .string x.f2, .string x.f3, .slice A4 x.f4.length c4, .slice A5 x.f5.length c5] 46))) (wr.alloc (.cells #[.int .i64 x.f0, .int .i64 x.f1, .string x.f2, .string x.f3, .slice A4 x.f4.length c4, .slice A5 x.f5.length c5] 46)).heap.size rfl (.tmp 17) (.tmp 19) 49 3 (.int .i64 0) 8 rfl Try.underlying49 infoInt rfl (by decide) (by omega) v2 zs (kk : Int) [.int .i64 kk] (fun k => k ≠ g) (fun _ => False) rfl rfl ?aP (fun _ hk => hk.elim) ?aF ?aO ?aB ?aS ?aL ?_; (case aP => exact rfl); (case aB => exact HB2.out); (case aF => exact (fun k hk => by have := HB2.out.size; rw [World.size_alloc] at this; omega)); (case aO => exact HR2.out); (case aS => exact HB2.out.size); (case aL => have := HZ2.out; omega); intro v3 w3 ho3 hb3 hg3 hat3; have HR3 := Aside0.mk ho3; have HB3 := Aside0.mk hb3; have HP3 : Aside0 (PathOK g w3 (n + 1) v3) := ⟨.inr ⟨_, _, ho3, by rw [List.length_append, HZ2.out]; rfl, by omega⟩⟩; clear ho3 hb3 hg3 hat3; obtain ⟨A3, c3, rfl⟩ := HP3.out.form; have d0 := pw_cell_below HB3.out b0.out; have d1 := pw_cell_below HB3.out b1.out; have d2 := pw_cell_below HB3.out b2.out; have d3 := pw_cell_below HB3.out b3.out; have d4 := pw_cell_below HB3.out b4.out; have d5 := pw_cell_below HB3.out b5.out; have HG3 := Aside0.mk (blk_below HG1.out HB3.out); have BW3 := Aside0.mk (BW1.out.trans (HB3.out.mono BW1.out.size))) | (go_at_call 30; (with_reducible refine (IH.out A5 c5 x.f5 (n + 1) _ _ _ (by omega) HKY.out HQ5.out HP4.out BW4.out HG4.out).mono ?_); rintro e w5 ⟨rfl, hg5, hk5, hb5⟩; have HG5 := Aside0.mk hg5; have HK5 := Aside0.mk hk5; have BW5 := Aside0.mk hb5; clear hg5 hk5 hb5) | ((with_reducible refine (HCALL.out x (n + 1) cc A4 c4 A5 c5 A3 c3 _ BW3.out HG3.out).mono ?_); rintro e w4 ⟨rfl, hg4, hk4, hb4⟩; have HG4 := Aside0.mk hg4; have HK4 := Aside0.mk hk4; have BW4 := Aside0.mk hb4; have f5 := keep_cell hk4 d5 hne; have HP4 := Aside0.mk (HP3.out.keep hk4); clear hg4 hk4 hb4))
        go_roundg (l0.length - (kk + 1))
        case measure => omega
        case rel => exact ⟨kk + 1, _, by omega, by omega, by go_num, KI3, HG5, BW5, ⟨(((KB.out.trans KW.out (.inl rfl)).trans (KeepBut.of_below HB3.out g none) (.inl rfl)).trans HK4.out (.inl rfl)).trans HK5.out (.inl rfl)⟩⟩
      case neg =>
        have hltz : ¬ (kk : Int) < (l0.length : Int) := by omega
        have KI2 := KI.out
        rw [List.drop_eq_nil_of_le (by omega), List.foldl_nil] at KI2
        have KI3 := Aside0.mk KI2
        clear KI2 KI
        go_wp2
        go_end0
        obtain rfl := KI3.out
        exact ⟨rfl, HG.out, KB.out, BW.out⟩


/-! ### impl_DepthOf: function 11, by hand -/
def stepD (_ : S46) (n : Nat) (s : Int) : Int := if s < (n : Int) then (n : Int) else s
def impl_DepthOf.f (l0 : List S46) : Option (Int × Int) := (impl_fault.f l0).bind fun c => if c = 0 then (if ∀ y ∈ l0, depE 10 y = true then some (eachI stepD 10 l0 0 0, 0) else none) else some (0, c)
theorem impl_DepthOf.lit (w0 : World) (g : Nat) (hg0 : w0.heap.size ≤ g) (x : S46) (n : Nat) (s : Int) (A4 : Option Addr) (c4 : Nat) (A5 : Option Addr) (c5 : Nat) (A : Option Addr) (c : Nat) (W : World) (hB : Below w0.heap.size w0 W) (hs : W.heap[g]? = some (.cells #[.int .i64 s] 3 (0, 0))) : Calls Try.prog 31 #[.agg #[.int .i64 x.f0, .int .i64 x.f1, .string x.f2, .string x.f3, .slice A4 x.f4.length c4, .slice A5 x.f5.length c5], .slice A n c, .pointer (some ⟨g, 0, none⟩)] W fun e w' => e = .returned (.tuple #[]) ∧ w'.heap[g]? = some (.cells #[.int .i64 (stepD x n s)] 3 (0, 0)) ∧ KeepBut W w' g none ∧ Below w0.heap.size w0 w' := by
  have hgl := blk_lt hs
  have hne : W.heap.size ≠ g := by omega
  have hcell1 := blk_alloc hs (.cells #[.int .i64 x.f0, .int .i64 x.f1, .string x.f2, .string x.f3, .slice A4 x.f4.length c4, .slice A5 x.f5.length c5] 46)
  have hx0 : (W.alloc (.cells #[.int .i64 x.f0, .int .i64 x.f1, .string x.f2, .string x.f3, .slice A4 x.f4.length c4, .slice A5 x.f5.length c5] 46)).cell? ⟨g, 0, none⟩ = some (.int .i64 s) := (blk_cell hcell1 0).trans rfl
  have hf0 : (W.alloc (.cells #[.int .i64 x.f0, .int .i64 x.f1, .string x.f2, .string x.f3, .slice A4 x.f4.length c4, .slice A5 x.f5.length c5] 46)).frozen? ⟨g, 0, none⟩ = false := blk_frozen hcell1 0
  by_cases hlt : s < (n : Int)
  case pos =>
    have hst : stepD x n s = (n : Int) := if_pos hlt
    rw [hst]
    have HG := Aside0.mk (blk_alloc (blk_set hs 0 (.int .i64 n)) (.cells #[.int .i64 x.f0, .int .i64 x.f1, .string x.f2, .string x.f3, .slice A4 x.f4.length c4, .slice A5 x.f5.length c5] 46))
    have HK := Aside0.mk (keep_alloc (KeepBut.set_ (KeepBut.refl W g none) 0 (.int .i64 n)) (.cells #[.int .i64 x.f0, .int .i64 x.f1, .string x.f2, .string x.f3, .slice A4 x.f4.length c4, .slice A5 x.f5.length c5] 46))
    have HB := Aside0.mk (below_alloc (below_set (j := 0) (v := .int .i64 n) hB hg0) (.cells #[.int .i64 x.f0, .int .i64 x.f1, .string x.f2, .string x.f3, .slice A4 x.f4.length c4, .slice A5 x.f5.length c5] 46))
    clear hB hs hcell1 hst
    go_enter Try.func31, Try.ntmps31
    go_wp2
    go_end0
    exact ⟨rfl, HG.out, HK.out, HB.out⟩
  case neg =>
    have hst : stepD x n s = s := if_neg hlt
    rw [hst]
    have HG := Aside0.mk (blk_alloc (blk_set hs 0 (.int .i64 s)) (.cells #[.int .i64 x.f0, .int .i64 x.f1, .string x.f2, .string x.f3, .slice A4 x.f4.length c4, .slice A5 x.f5.length c5] 46))
    have HK := Aside0.mk (keep_alloc (KeepBut.set_ (KeepBut.refl W g none) 0 (.int .i64 s)) (.cells #[.int .i64 x.f0, .int .i64 x.f1, .string x.f2, .string x.f3, .slice A4 x.f4.length c4, .slice A5 x.f5.length c5] 46))
    have HB := Aside0.mk (below_alloc (below_set (j := 0) (v := .int .i64 s) hB hg0) (.cells #[.int .i64 x.f0, .int .i64 x.f1, .string x.f2, .string x.f3, .slice A4 x.f4.length c4, .slice A5 x.f5.length c5] 46))
    clear hB hs hcell1 hst
    go_enter Try.func31, Try.ntmps31
    go_wp2
    go_end0
    exact ⟨rfl, HG.out, HK.out, HB.out⟩
theorem impl_DepthOf.calls (A0 : Option Addr) (c0 : Nat) (l0 : List S46) (r1 r2 : Int) (w : World) (hr0 : Kd.C k46 w A0 l0.length l0) (hc0 : l0.length ≤ c0) (h : impl_DepthOf.f l0 = some (r1, r2)) :
    Calls Try.prog 11 #[.slice A0 l0.length c0] w fun e w' => e = .returned (.tuple #[.int .i64 r1, .int .i64 r2]) ∧ Below w.heap.size w w' := by
  unfold impl_DepthOf.f at h
  obtain ⟨c, hc, h⟩ := Option.bind_eq_some_iff.mp h
  have Q1 := Aside0.mk (impl_fault.calls A0 c0 l0 c w hr0 hc0 hc)
  by_cases hz : c = 0
  case neg =>
    rw [if_neg hz] at h
    injection h with h
    injection h with h1 h2
    subst h1
    subst h2
    have hz2 : (c == 0) = false := beq_eq_false_iff_ne.2 hz
    have hz3 : (c != 0) = true := bne_iff_ne.2 hz
    have hz4 : decide (c = 0) = false := decide_eq_false hz
    clear hr0 hc0 hc
    go_enter Try.func11, Try.ntmps11
    go_wp2_with (go_at_call 29; (with_reducible refine Q1.out.mono ?_); rintro e w1 ⟨rfl, hb1⟩; have HB1 := Aside0.mk hb1; clear hb1)
    first | go_ret2 | go_ret
    exact ⟨rfl, HB1.out⟩
  case pos =>
    subst hz
    rw [if_pos rfl] at h
    obtain ⟨hd, h⟩ := Option.ite_none_right_eq_some.mp h
    injection h with h
    injection h with h1 h2
    subst h2
    have QE : Aside0 (∀ w1, Below w.heap.size w w1 → Calls Try.prog 30 #[.slice A0 l0.length c0, .slice none 0 0, .func (.func 31) #[] #[.pointer (some ⟨w1.heap.size, 0, none⟩)]] (w1.alloc (.cells #[.int .i64 0] 3)) fun e w' => e = .returned (.tuple #[]) ∧ w'.heap[w1.heap.size]? = some (.cells #[.int .i64 (eachI stepD 10 l0 0 0)] 3 (0, 0)) ∧ KeepBut (w1.alloc (.cells #[.int .i64 0] 3)) w' w1.heap.size none ∧ Below w1.heap.size w1 w') := ⟨fun w1 hb1 => impl_each.holds stepD w1 w1.heap.size 31 #[.pointer (some ⟨w1.heap.size, 0, none⟩)] (Mach.enters_of Try.func31 (by kernel_rfl) rfl) (Nat.le_refl _) (fun x n s A4 c4 A5 c5 A c W hB hs => impl_DepthOf.lit w1 w1.heap.size (Nat.le_refl _) x n s A4 c4 A5 c5 A c W hB hs) 10 A0 c0 l0 0 (.slice none 0 0) 0 (w1.alloc (.cells #[.int .i64 0] 3)) (by omega) hd (Kd.C_below hr0 hb1) (.inl ⟨rfl, rfl⟩) (below_alloc (Below.refl _ _) _) (blk_new w1 _)⟩
    rw [h1] at QE
    clear hr0 hc0 hc hd h1
    generalize l0.length = n0 at *
    go_enter Try.func11, Try.ntmps11
    go_wp2_with (first | (go_at_call 29; (with_reducible refine Q1.out.mono ?_); rintro e w1 ⟨rfl, hb1⟩; have HB1 := Aside0.mk hb1; have Q2 := Aside0.mk (QE.out w1 hb1); clear hb1) | (go_at_call 30; (with_reducible refine Q2.out.mono ?_); rintro e w' ⟨rfl, hg, hk, hb⟩; have hx : w'.cell? ⟨w1.heap.size, 0, none⟩ = some (.int .i64 r1) := (blk_cell hg 0).trans rfl; have HB := Aside0.mk (HB1.out.trans (hb.mono HB1.out.size)); clear hg hk hb))
    first | go_ret2 | go_ret
    exact ⟨rfl, HB.out⟩


end Go.Proofs.Ytaoalcaabhcjeaa.PFnExactDepthOf
