/- By a program of this session, out of the kit's print and contracts made by hand: the machine side of a law; Lean checks it. No conditions. -/
import Derived.Test.YtgediinpdicekaaPFnExactTextOfx0
import Derived.Test.YtgediinpdicekaaPFnExactTextOfx17
namespace Go.Proofs.Ytgediinpdicekaa.PFnExactTextOf
open Go.RowKit Go.Proofs.YtgediinpdicekaaW.PrintWords Go.Proofs.YtgediinpdicekaaW.PrintLast Go.Proofs.YtgediinpdicekaaW.PrintMore
attribute [local go_sem] max2_int min2_int max_two min_two max_three min_three max_four min_four   -- for this text's walks alone
set_option linter.unusedVariables false
set_option linter.unusedSimpArgs false

/-! ### impl_TreeOK: function 24, by hand -/
def treeB (l : List S39) : Bool := (kidsI (nodeI 10) l 0).1
def impl_TreeOK.f (l0 : List S39) : Option Bool := if ∀ y ∈ l0, fitB 10 y = true then some (treeB l0) else none
theorem impl_TreeOK.fit {l0 : List S39} (h : ∀ y ∈ l0, fitB 10 y = true) : impl_TreeOK.f l0 = some (treeB l0) := by
  unfold impl_TreeOK.f
  rw [if_pos h]
set_option maxHeartbeats 1000000 in
theorem impl_TreeOK.calls (A0 : Option Addr) (c0 : Nat) (l0 : List S39) (r : Bool) (w : World) (hr0 : Kd.C k39 w A0 l0.length l0) (hc0 : l0.length ≤ c0) (h : impl_TreeOK.f l0 = some r) :
    Calls Try.prog 24 #[.slice A0 l0.length c0] w fun e w' => e = .returned (.bool r) ∧ Below w.heap.size w w' := by
  by_cases hfit : ∀ y ∈ l0, fitB 10 y = true
  case neg =>
    unfold impl_TreeOK.f at h
    rw [if_neg hfit] at h
    cases h
  case pos =>
    rw [impl_TreeOK.fit hfit] at h
    obtain rfl := Option.some.inj h
    unfold treeB
    obtain ⟨R, hR⟩ : ∃ R, kidsI (nodeI 10) l0 0 = R := ⟨_, rfl⟩
    rw [hR]
    have HR := Aside0.mk hR
    have hL : l0.length ≤ 9223372036854775807 := hr0.2.1
    have HFIT := Aside0.mk hfit
    have HR0 := Aside0.mk hr0
    clear hR h hfit hr0 hc0
    have HG0 : Aside0 ((w.alloc (.cells #[.int .i64 0] 3)).heap[w.heap.size]? = some (.cells #[.int .i64 0] 3 (0, 0))) := ⟨blk_new w _⟩
    have HB0 : Aside0 (Below w.heap.size w (w.alloc (.cells #[.int .i64 0] 3))) := ⟨below_alloc (Below.refl _ _) _⟩
    go_enter Try.func24, Try.ntmps24
    go_wp2
    go_loopg [5, 8] l0.length (fun gg _ s8 wr => ∃ (kk : Nat) (cc : Int), kk ≤ l0.length ∧ l0.length - kk ≤ gg ∧ s8 = .int .i64 kk ∧ 0 ≤ cc ∧ cc ≤ 60 ∧ Aside0 (kidsI (nodeI 10) (l0.drop kk) cc = R) ∧ Aside0 (wr.heap[w.heap.size]? = some (.cells #[.int .i64 cc] 3 (0, 0))) ∧ Aside0 (Below w.heap.size w wr))
    case atStart => exact ⟨0, 0, Nat.zero_le _, by omega, rfl, by omega, by omega, HR, HG0, HB0⟩
    case round =>
      obtain ⟨kk, cc, hkk, hgg, rfl, z0, z1, KI, HG, BW⟩ := hrel
      by_cases hlt : kk < l0.length
      case pos =>
        have hltz : (kk : Int) < (l0.length : Int) := by omega
        obtain ⟨ad, cs, e, hcl, hK, hc⟩ := Kd.C_get HR0.out z39 (kk : Int) (by omega) (by omega)
        rw [Int.toNat_natCast] at hK hc
        have hdr : l0.drop kk = l0.getD kk z39 :: l0.drop (kk + 1) := by rw [List.getD_eq_getElem?_getD, List.getElem?_eq_getElem hlt]; exact List.drop_eq_getElem_cons hlt
        have hmem : l0.getD kk z39 ∈ l0 := by rw [List.getD_eq_getElem?_getD, List.getElem?_eq_getElem hlt]; exact List.getElem_mem hlt
        have KI2 := KI.out
        rw [hdr, kidsI] at KI2
        have hky := HFIT.out _ hmem
        clear KI hdr hmem
        generalize l0.getD kk z39 = y at *
        obtain ⟨yA4, yc4, yA5, yc5, rfl, m4, q4, m5, q5⟩ := k39_open hK
        subst e
        have r0 : wr.cell? (ad.add (kk * 6)) = some (.int .i64 y.f0) := pw_cell_below BW.out (hc 0 _ rfl)
        have r1 : wr.cell? ⟨(ad.add (kk * 6)).block, (ad.add (kk * 6)).off + 1, none⟩ = some (.int .i64 y.f1) := pw_cell_below BW.out (by rw [← add_field _ _ 1 (by omega)]; exact hc 1 _ rfl)
        have r2 : wr.cell? ⟨(ad.add (kk * 6)).block, (ad.add (kk * 6)).off + 2, none⟩ = some (.string y.f2) := pw_cell_below BW.out (by rw [← add_field _ _ 2 (by omega)]; exact hc 2 _ rfl)
        have r3 : wr.cell? ⟨(ad.add (kk * 6)).block, (ad.add (kk * 6)).off + 3, none⟩ = some (.string y.f3) := pw_cell_below BW.out (by rw [← add_field _ _ 3 (by omega)]; exact hc 3 _ rfl)
        have r4 : wr.cell? ⟨(ad.add (kk * 6)).block, (ad.add (kk * 6)).off + 4, none⟩ = some (.slice yA4 y.f4.length yc4) := pw_cell_below BW.out (by rw [← add_field _ _ 4 (by omega)]; exact hc 4 _ rfl)
        have r5 : wr.cell? ⟨(ad.add (kk * 6)).block, (ad.add (kk * 6)).off + 5, none⟩ = some (.slice yA5 y.f5.length yc5) := pw_cell_below BW.out (by rw [← add_field _ _ 5 (by omega)]; exact hc 5 _ rfl)
        have QN := Aside0.mk (impl_Node_isNode.holds 10 y yA4 yc4 yA5 yc5 1 cc w (wr.alloc (.cells #[.int .i64 y.f0, .int .i64 y.f1, .string y.f2, .string y.f3, .slice yA4 y.f4.length yc4, .slice yA5 y.f5.length yc5] 39)) w.heap.size (by omega) (by omega) hky z0 z1 (below_alloc BW.out _) (Nat.le_refl _) (blk_alloc HG.out _) q4 m4 q5 m5)
        have hbd := nodeI_bd 10 y cc z0 z1
        clear hc hK hcl hky q4 q5 m4 m5
        obtain ⟨b, hb⟩ : ∃ b, (nodeI 10 y cc).1 = b := ⟨_, rfl⟩
        rw [hb] at QN hbd KI2
        generalize (nodeI 10 y cc).2 = c2 at *
        have KI3 := Aside0.mk KI2
        clear KI2 hb
        have HBD := Aside0.mk hbd
        clear hbd
        cases b with
        | false =>
          have KI4 : Aside0 ((false, c2) = R) := ⟨by have h := KI3.out; rwa [if_neg Bool.false_ne_true] at h⟩
          clear KI3 HBD
          go_wp2_with (go_at_call 33; (with_reducible refine QN.out.mono ?_); rintro e v9 ⟨rfl, hg9, hv9⟩; have HG9 := Aside0.mk hg9; have HV9 := Aside0.mk hv9; clear hg9 hv9)
          go_ret
          obtain rfl := KI4.out
          exact ⟨rfl, HV9.out⟩
        | true =>
          have KI4 : Aside0 (kidsI (nodeI 10) (l0.drop (kk + 1)) c2 = R) := ⟨by have h := KI3.out; rwa [if_pos rfl] at h⟩
          have B0 := (HBD.out rfl).1
          have B1 := (HBD.out rfl).2
          clear KI3 HBD
          go_wp2_with (go_at_call 33; (with_reducible refine QN.out.mono ?_); rintro e v9 ⟨rfl, hg9, hv9⟩; have HG9 := Aside0.mk hg9; have HV9 := Aside0.mk hv9; clear hg9 hv9)
          go_roundg (l0.length - (kk + 1))
          case measure => omega
          case rel => exact ⟨kk + 1, c2, by omega, by omega, by go_num, B0, B1, KI4, HG9, HV9⟩
      case neg =>
        have hltz : ¬ (kk : Int) < (l0.length : Int) := by omega
        have KI2 := KI.out
        rw [List.drop_eq_nil_of_le (by omega), kidsI] at KI2
        have KI3 := Aside0.mk KI2
        clear KI2
        go_wp2
        go_ret
        obtain rfl := KI3.out
        exact ⟨rfl, BW.out⟩


/-! ### impl_fault: function 16 -/
def impl_fault.f (l0 : List (S39)) : Option (Int) := if (l0.length : Int) > 4096 then (some 2) else ((impl_TreeOK.f l0).bind fun t221 => (if t221 = true then (some 0) else (some 1)))
set_option maxHeartbeats 8000000 in
set_option maxRecDepth 100000 in
theorem impl_fault.calls (A0 : Option Addr) (c0 : Nat) (l0 : List (S39)) (r : Int) (w : World) (hr0 : Kd.C k39 w A0 l0.length l0) (hc0 : l0.length ≤ c0) (h : impl_fault.f l0 = some r) :
    Calls Try.prog 16 #[.slice A0 l0.length c0] w fun e w' => e = .returned (.int .i64 r) ∧ Below w.heap.size w w' := by
  have HR0 := Aside0.mk hr0
  have HC0 := Aside0.mk hc0
  clear hr0 hc0
  have HB := Aside0.mk (Below.refl w.heap.size w)
  have H : (if (l0.length : Int) > 4096 then (some 2) else ((impl_TreeOK.f l0).bind fun t221 => (if t221 = true then (some 0) else (some 1)))) = some r := h
  clear h
  by_cases c2 : (l0.length : Int) > 4096
  · rw [if_pos c2] at H
    have c2b0 : decide (4096 < (l0.length : Int)) = true := decide_eq_true c2
    have c2b1 : decide (4096 < l0.length) = true := decide_eq_true (by omega)
    clear c2
    obtain rfl := Option.some.inj H
    go_enter Try.func16, Try.ntmps16
    go_wp2
    go_ret
    exact ⟨by first | rfl | (simp [errW_none, errW_some] <;> rfl) | (simp [*, errW_none, errW_some] <;> rfl), by repeat (first | (with_reducible first | exact HB.out | apply below_alloc | apply pw_below_drewN | apply below_drew1) | exact HB.out)⟩
  · rw [if_neg c2] at H
    have c2b0 : decide (4096 < (l0.length : Int)) = false := decide_eq_false c2
    have c2b1 : decide (4096 < l0.length) = false := decide_eq_false (by omega)
    clear c2
    replace H := Option.bind_eq_some_iff.mp H
    obtain ⟨t221, A30, H⟩ := H
    replace H : (if t221 = true then (some 0) else (some 1)) = some r := H
    have A3 := Aside0.mk A30
    clear A30
    by_cases c4 : t221 = true
    · subst c4
      have H1 : (some 0) = some r := by rw [if_pos rfl] at H; exact H
      clear H
      have H := H1
      clear H1
      obtain rfl := Option.some.inj H
      go_enter Try.func16, Try.ntmps16
      go_wp2_with (first | ((with_reducible refine gate_callee (f := 24) rfl ?_); refine goesL_ (some 9) rfl rfl Try.func24 (by kernel_rfl) rfl #[.slice A0 l0.length c0] rfl (by (try simp only [List.map_toArray, List.map_cons, List.map_nil]); first | done | rfl | (simp only [List.length_drop, List.length_take]; rfl)) ?_; (with_reducible refine (impl_TreeOK.calls _ _ l0 true _ ?side1 ?side2 A3.out).mono ?_); (case side1 => repeat (first | exact HR0.out | (with_reducible refine Kd.C_alloc ?_ _) | (with_reducible refine Kd.C_drewN ?_ _) | (with_reducible refine Kd.C_drew ?_))); (case side2 => exact HC0.out); rintro e w5 ⟨rfl, hb⟩; refine ⟨_, rfl, ?_⟩; have n0_ := Aside0.mk (below_step (by repeat (first | (with_reducible first | exact HB.out | apply below_alloc | apply pw_below_drewN | apply below_drew1) | exact HB.out)) hb); clear HB; have HB := n0_; clear n0_; (try clear hb); (try clear hb2); (try clear hk); (try clear hi)))
      go_ret
      exact ⟨by first | rfl | (simp [errW_none, errW_some] <;> rfl) | (simp [*, errW_none, errW_some] <;> rfl), by repeat (first | (with_reducible first | exact HB.out | apply below_alloc | apply pw_below_drewN | apply below_drew1) | exact HB.out)⟩
    · replace c4 := Bool.eq_false_iff.mpr c4
      subst c4
      have H1 : (some 1) = some r := by rw [if_neg (show ¬ (false = true) by decide)] at H; exact H
      clear H
      have H := H1
      clear H1
      obtain rfl := Option.some.inj H
      go_enter Try.func16, Try.ntmps16
      go_wp2_with (first | ((with_reducible refine gate_callee (f := 24) rfl ?_); refine goesL_ (some 9) rfl rfl Try.func24 (by kernel_rfl) rfl #[.slice A0 l0.length c0] rfl (by (try simp only [List.map_toArray, List.map_cons, List.map_nil]); first | done | rfl | (simp only [List.length_drop, List.length_take]; rfl)) ?_; (with_reducible refine (impl_TreeOK.calls _ _ l0 false _ ?side1 ?side2 A3.out).mono ?_); (case side1 => repeat (first | exact HR0.out | (with_reducible refine Kd.C_alloc ?_ _) | (with_reducible refine Kd.C_drewN ?_ _) | (with_reducible refine Kd.C_drew ?_))); (case side2 => exact HC0.out); rintro e w6 ⟨rfl, hb⟩; refine ⟨_, rfl, ?_⟩; have n0_ := Aside0.mk (below_step (by repeat (first | (with_reducible first | exact HB.out | apply below_alloc | apply pw_below_drewN | apply below_drew1) | exact HB.out)) hb); clear HB; have HB := n0_; clear n0_; (try clear hb); (try clear hb2); (try clear hk); (try clear hi)))
      go_ret
      exact ⟨by first | rfl | (simp [errW_none, errW_some] <;> rfl) | (simp [*, errW_none, errW_some] <;> rfl), by repeat (first | (with_reducible first | exact HB.out | apply below_alloc | apply pw_below_drewN | apply below_drew1) | exact HB.out)⟩

/-! ### impl_each: function 17, by hand -/
theorem infoInt : (Try.prog.info? 3).map (fun i => (i.zero, i.size, i.bytes)) = some (some (.int .i64 0), 1, 8) := by kernel_rfl
def depE : Nat → S39 → Bool
  | 0, _ => false
  | n + 1, x => x.f5.all (depE n)
/-- What each tells, over a state. -/
def eachI {σ : Type} (step : S39 → Nat → σ → σ) : Nat → List S39 → Nat → σ → σ
  | 0, _, _, s => s
  | b + 1, l, d, s => l.foldl (fun s x => eachI step b x.f5 (d + 1) (step x (d + 1) s)) s
/-- P holds of each node, at any depth below b. -/
def goodE (P : S39 → Prop) : Nat → S39 → Prop
  | 0, _ => False
  | n + 1, x => P x ∧ ∀ y ∈ x.f5, goodE P n y
/-- A path: none, or a row of one's own. -/
def PathOK (g : Nat) (W : World) (n : Nat) (v : Value) : Prop := (v = .slice none 0 0 ∧ n = 0) ∨ ∃ base xs, Kd.R (Kd.int .i64) 3 W base (fun k => k ≠ g) v xs ∧ xs.length = n ∧ 0 < n
theorem PathOK.keep {g n : Nat} {W W' : World} {v : Value} (h : PathOK g W n v) (hk : KeepBut W W' g none) : PathOK g W' n v := by
  rcases h with h | ⟨base, xs, hR, hl, hp⟩
  case inl => exact .inl h
  case inr => exact .inr ⟨base, xs, Kd.R_keep hR hk (fun _ h => h), hl, hp⟩
theorem PathOK.form {g n : Nat} {W : World} {v : Value} (h : PathOK g W n v) : ∃ A c, v = .slice A n c := by
  rcases h with ⟨rfl, rfl⟩ | ⟨base, xs, hR, hl, hp⟩
  case inl => exact ⟨_, _, rfl⟩
  case inr =>
    obtain ⟨a, cap, rfl, _⟩ := Kd.R_form hR (by omega)
    exact ⟨_, _, by rw [hl]⟩
theorem PathOK.formS {g n : Nat} {W : World} {v : Value} (h : PathOK g W n v) (hn : 0 < n) : ∃ a c, v = .slice (some a) n c := by
  rcases h with ⟨rfl, rfl⟩ | ⟨base, xs, hR, hl, hp⟩
  case inl => omega
  case inr =>
    obtain ⟨a, cap, rfl, _⟩ := Kd.R_form hR (by omega)
    exact ⟨_, _, by rw [hl]⟩
theorem clone_path (g : Nat) (W : World) (n : Nat) (v : Value) (hn : n ≤ 100) (h : PathOK g W n v) (hg : g < W.heap.size) : Calls Try.prog 28 #[v] W fun e w' => ∃ v' xs, e = .returned v' ∧ Kd.R (Kd.int .i64) 3 w' W.heap.size (fun k => k ≠ g) v' xs ∧ xs.length = n ∧ Below W.heap.size W w' := by
  rcases h with ⟨rfl, rfl⟩ | ⟨base, xs, hR, hl, hp⟩
  case inl =>
    refine (Try.slices_Clone_int_nil 0 0 W).mono ?_
    rintro e w' ⟨rfl, rfl⟩
    exact ⟨_, [], rfl, Kd.R_nil _ _ _ _ _, rfl, Below.refl _ _⟩
  case inr =>
    obtain ⟨b, cap, rfl, _, _, _⟩ := Kd.R_form hR (by omega)
    have hc : ∀ j, j < xs.length → W.cell? ⟨b, 0 + j, none⟩ = some (.int .i64 (xs.getD j 0)) := fun j hj => by
      have h := (Kd.R_cell (0 : Int) hR (j : Int) (by omega) (by omega)).1
      rw [Int.toNat_natCast, Kit.rdOf_nat] at h
      rw [Nat.zero_add]
      exact h
    refine (Try.slices_Clone_int b 0 xs.length cap xs W (Nat.le_refl _) (by omega) hc).mono ?_
    rintro e w' ⟨v', rfl, ho, _, hb⟩
    rw [List.take_length] at ho
    have hR1 : Kd.R (Kd.int .i64) 3 w' W.heap.size (fun _ => True) v' xs := Kd.R_of_own (enc := Value.int .i64) ho (fun _ _ => trivial)
    have hR2 : Kd.R (Kd.int .i64) 3 w' W.heap.size (fun k => k ≠ g) v' xs := Kd.R_of_own (enc := Value.int .i64) ho (fun k hk => by have := Kd.R_base hR1 k hk; omega)
    exact ⟨v', xs, rfl, hR2, hl, hb⟩
set_option maxHeartbeats 4000000 in
set_option maxRecDepth 100000 in
theorem impl_each.holdsG {σ : Type} (Q : σ → Obj → Prop) (P : S39 → Prop) (step : S39 → Nat → σ → σ) (w0 : World) (g gf : Nat) (lb : Array Value) (eg : ∀ args w, (callFunc gf args).run Try.prog w = .ok (.enter gf args) w) (hg0 : w0.heap.size ≤ g)
    (hcall : ∀ (x : S39) (n : Nat) (s : σ) (A4 : Option Addr) (c4 : Nat) (A5 : Option Addr) (c5 : Nat) (ap : Addr) (c : Nat) (W : World) (ob : Obj), P x → x.f4.length ≤ c4 → Kd.C k69 w0 A4 x.f4.length x.f4 → Below w0.heap.size w0 W → W.heap[g]? = some ob → Q s ob → Calls Try.prog gf (#[.agg #[.int .i64 x.f0, .int .i64 x.f1, .string x.f2, .string x.f3, .slice A4 x.f4.length c4, .slice A5 x.f5.length c5], .slice (some ap) n c] ++ lb) W fun e w' => e = .returned (.tuple #[]) ∧ (∃ ob', w'.heap[g]? = some ob' ∧ Q (step x n s) ob') ∧ KeepBut W w' g none ∧ Below w0.heap.size w0 w') (b : Nat) :
    ∀ (A0 : Option Addr) (c0 : Nat) (l0 : List S39) (n : Nat) (v : Value) (s : σ) (w : World) (ob : Obj), n + b ≤ 50 → (∀ y ∈ l0, goodE P b y) → Kd.C k39 w0 A0 l0.length l0 → PathOK g w n v → Below w0.heap.size w0 w → w.heap[g]? = some ob → Q s ob →
      Calls Try.prog 17 #[.slice A0 l0.length c0, v, .func (.func gf) #[] lb] w fun e w' => e = .returned (.tuple #[]) ∧ (∃ ob', w'.heap[g]? = some ob' ∧ Q (eachI step b l0 n s) ob') ∧ KeepBut w w' g none ∧ Below w0.heap.size w0 w' := by
  have HCALL := Aside0.mk hcall
  clear hcall
  induction b with
  | zero =>
    intro A0 c0 l0 n v s w ob hn hd hr hp hB hs hq
    cases l0 with
    | cons x l => exact (hd x (List.mem_cons_self)).elim
    | nil =>
      obtain ⟨Av, cv, rfl⟩ := hp.form
      rw [List.length_nil]
      have HB := Aside0.mk hB
      have HS := Aside0.mk hs
      have HQ := Aside0.mk hq
      clear hB hs hp hr hd hq
      go_enter Try.func17, Try.ntmps17
      go_wp2
      go_loopg [6, 7, 8, 11] 0 (fun gg _ _ _ s11 wr => s11 = .int .i64 0 ∧ wr = w)
      case atStart => exact ⟨rfl, rfl⟩
      case round =>
        obtain ⟨rfl, rfl⟩ := hrel
        go_wp2
        go_end0
        exact ⟨rfl, ⟨_, HS.out, HQ.out⟩, KeepBut.refl _ _ _, HB.out⟩
  | succ b ih =>
    intro A0 c0 l0 n v s w ob hn hd hr hp hB hs hq
    rw [eachI]
    obtain ⟨R, hR⟩ : ∃ R, l0.foldl (fun s x => eachI step b x.f5 (n + 1) (step x (n + 1) s)) s = R := ⟨_, rfl⟩
    rw [hR]
    have HR := Aside0.mk hR
    have hL : l0.length ≤ 9223372036854775807 := hr.2.1
    have hgw : g < w.heap.size := blk_lt hs
    obtain ⟨Av, cv, rfl⟩ := hp.form
    have HP := Aside0.mk hp
    have HB := Aside0.mk hB
    have HS := Aside0.mk hs
    have HQ := Aside0.mk hq
    have HD := Aside0.mk hd
    have HC := Aside0.mk hr
    have IH := Aside0.mk ih
    clear hR hp hB hs hd hr ih hq
    go_enter Try.func17, Try.ntmps17
    go_wp2
    go_loopg [6, 7, 8, 11] l0.length (fun gg _ _ _ s11 wr => ∃ (kk : Nat) (cc : σ) (oo : Obj), kk ≤ l0.length ∧ l0.length - kk ≤ gg ∧ s11 = .int .i64 kk ∧ Aside0 ((l0.drop kk).foldl (fun s x => eachI step b x.f5 (n + 1) (step x (n + 1) s)) cc = R) ∧ Aside0 (wr.heap[g]? = some oo) ∧ Aside0 (Q cc oo) ∧ Aside0 (Below w0.heap.size w0 wr) ∧ Aside0 (KeepBut w wr g none))
    case atStart => exact ⟨0, s, ob, Nat.zero_le _, by omega, rfl, HR, HS, HQ, HB, ⟨KeepBut.refl _ _ _⟩⟩
    case round =>
      obtain ⟨kk, cc, oo, hkk, hgg, rfl, KI, HG, HQ0, BW, KB⟩ := hrel
      by_cases hlt : kk < l0.length
      case pos =>
        have hltz : (kk : Int) < (l0.length : Int) := by omega
        obtain ⟨ad, cs, e, hcl, hK, hc⟩ := Kd.C_get HC.out z39 (kk : Int) (by omega) (by omega)
        rw [Int.toNat_natCast] at hK hc
        have hdr : l0.drop kk = l0.getD kk z39 :: l0.drop (kk + 1) := by rw [List.getD_eq_getElem?_getD, List.getElem?_eq_getElem hlt]; exact List.drop_eq_getElem_cons hlt
        have KI2 := KI.out
        rw [hdr, List.foldl_cons] at KI2
        have hky := HD.out _ (Kit.getD_mem z39 hlt)
        obtain ⟨hpx, hky⟩ := hky
        clear KI hdr
        generalize l0.getD kk z39 = x at *
        obtain ⟨A4, c4, A5, c5, rfl, m4, q4, m5, q5⟩ := k39_open hK
        subst e
        have r0 : wr.cell? (ad.add (kk * 6)) = some (.int .i64 x.f0) := pw_cell_below BW.out (hc 0 _ rfl)
        have r1 : wr.cell? ⟨(ad.add (kk * 6)).block, (ad.add (kk * 6)).off + 1, none⟩ = some (.int .i64 x.f1) := pw_cell_below BW.out (by rw [← add_field _ _ 1 (by omega)]; exact hc 1 _ rfl)
        have r2 : wr.cell? ⟨(ad.add (kk * 6)).block, (ad.add (kk * 6)).off + 2, none⟩ = some (.string x.f2) := pw_cell_below BW.out (by rw [← add_field _ _ 2 (by omega)]; exact hc 2 _ rfl)
        have r3 : wr.cell? ⟨(ad.add (kk * 6)).block, (ad.add (kk * 6)).off + 3, none⟩ = some (.string x.f3) := pw_cell_below BW.out (by rw [← add_field _ _ 3 (by omega)]; exact hc 3 _ rfl)
        have r4 : wr.cell? ⟨(ad.add (kk * 6)).block, (ad.add (kk * 6)).off + 4, none⟩ = some (.slice A4 x.f4.length c4) := pw_cell_below BW.out (by rw [← add_field _ _ 4 (by omega)]; exact hc 4 _ rfl)
        have r5 : wr.cell? ⟨(ad.add (kk * 6)).block, (ad.add (kk * 6)).off + 5, none⟩ = some (.slice A5 x.f5.length c5) := pw_cell_below BW.out (by rw [← add_field _ _ 5 (by omega)]; exact hc 5 _ rfl)
        have KI3 := Aside0.mk KI2
        have HKY := Aside0.mk hky
        have HQ5 := Aside0.mk q5
        have HPX := Aside0.mk hpx
        have HM4 := Aside0.mk m4
        have HQ4 := Aside0.mk q4
        clear hc hK hcl KI2 hky m4 q4 m5 q5 hpx
        have hgr : g < wr.heap.size := blk_lt HG.out
        have hne : wr.heap.size ≠ g := by omega
        have KW : Aside0 (KeepBut wr (wr.alloc (.cells #[.int .i64 x.f0, .int .i64 x.f1, .string x.f2, .string x.f3, .slice A4 x.f4.length c4, .slice A5 x.f5.length c5] 39)) g none) := ⟨KeepBut.of_below (below_alloc (Below.refl _ _) _) g none⟩
        have HP1 : Aside0 (PathOK g (wr.alloc (.cells #[.int .i64 x.f0, .int .i64 x.f1, .string x.f2, .string x.f3, .slice A4 x.f4.length c4, .slice A5 x.f5.length c5] 39)) n (.slice Av n cv)) := ⟨(HP.out.keep KB.out).keep KW.out⟩
        have QC := Aside0.mk (clone_path g (wr.alloc (.cells #[.int .i64 x.f0, .int .i64 x.f1, .string x.f2, .string x.f3, .slice A4 x.f4.length c4, .slice A5 x.f5.length c5] 39)) n (.slice Av n cv) (by omega) HP1.out (by rw [World.size_alloc]; omega))
        have b0 : Aside0 ((wr.alloc (.cells #[.int .i64 x.f0, .int .i64 x.f1, .string x.f2, .string x.f3, .slice A4 x.f4.length c4, .slice A5 x.f5.length c5] 39)).cell? ⟨wr.heap.size, 0, none⟩ = some (.int .i64 x.f0)) := ⟨Mach.new_cell wr _ _ 0 _ rfl⟩
        have b1 : Aside0 ((wr.alloc (.cells #[.int .i64 x.f0, .int .i64 x.f1, .string x.f2, .string x.f3, .slice A4 x.f4.length c4, .slice A5 x.f5.length c5] 39)).cell? ⟨wr.heap.size, 1, none⟩ = some (.int .i64 x.f1)) := ⟨Mach.new_cell wr _ _ 1 _ rfl⟩
        have b2 : Aside0 ((wr.alloc (.cells #[.int .i64 x.f0, .int .i64 x.f1, .string x.f2, .string x.f3, .slice A4 x.f4.length c4, .slice A5 x.f5.length c5] 39)).cell? ⟨wr.heap.size, 2, none⟩ = some (.string x.f2)) := ⟨Mach.new_cell wr _ _ 2 _ rfl⟩
        have b3 : Aside0 ((wr.alloc (.cells #[.int .i64 x.f0, .int .i64 x.f1, .string x.f2, .string x.f3, .slice A4 x.f4.length c4, .slice A5 x.f5.length c5] 39)).cell? ⟨wr.heap.size, 3, none⟩ = some (.string x.f3)) := ⟨Mach.new_cell wr _ _ 3 _ rfl⟩
        have b4 : Aside0 ((wr.alloc (.cells #[.int .i64 x.f0, .int .i64 x.f1, .string x.f2, .string x.f3, .slice A4 x.f4.length c4, .slice A5 x.f5.length c5] 39)).cell? ⟨wr.heap.size, 4, none⟩ = some (.slice A4 x.f4.length c4)) := ⟨Mach.new_cell wr _ _ 4 _ rfl⟩
        have b5 : Aside0 ((wr.alloc (.cells #[.int .i64 x.f0, .int .i64 x.f1, .string x.f2, .string x.f3, .slice A4 x.f4.length c4, .slice A5 x.f5.length c5] 39)).cell? ⟨wr.heap.size, 5, none⟩ = some (.slice A5 x.f5.length c5)) := ⟨Mach.new_cell wr _ _ 5 _ rfl⟩
        have HG1 : Aside0 ((wr.alloc (.cells #[.int .i64 x.f0, .int .i64 x.f1, .string x.f2, .string x.f3, .slice A4 x.f4.length c4, .slice A5 x.f5.length c5] 39)).heap[g]? = some oo) := ⟨blk_alloc HG.out _⟩
        have BW1 : Aside0 (Below w0.heap.size w0 (wr.alloc (.cells #[.int .i64 x.f0, .int .i64 x.f1, .string x.f2, .string x.f3, .slice A4 x.f4.length c4, .slice A5 x.f5.length c5] 39))) := ⟨below_alloc BW.out _⟩
        go_wp2_with (first | (go_at_call 28; (with_reducible refine QC.out.mono ?_); rintro e w2 ⟨v2, zs, rfl, hR2, hz2, hb2⟩; have HR2 := Aside0.mk hR2; have HB2 := Aside0.mk hb2; have HZ2 := Aside0.mk hz2; clear hR2 hb2 hz2) | ((with_reducible refine gate_builtin (b := .append) (xs := #[.tmp 17, .tmp 19]) rfl ?_); at_builtin; refine Kd.R_append (Kd.int .i64) (w0 := (wr.alloc (.cells #[.int .i64 x.f0, .int .i64 x.f1, .string x.f2, .string x.f3, .slice A4 x.f4.length c4, .slice A5 x.f5.length c5] 39))) (wr.alloc (.cells #[.int .i64 x.f0, .int .i64 x.f1, .string x.f2, .string x.f3, .slice A4 x.f4.length c4, .slice A5 x.f5.length c5] 39)).heap.size rfl (.tmp 17) (.tmp 19) 46 3 (.int .i64 0) 8 rfl Try.underlying46 infoInt rfl (by decide) (by omega) v2 zs (kk : Int) [.int .i64 kk] (fun k => k ≠ g) (fun _ => False) rfl rfl ?aP (fun _ hk => hk.elim) ?aF ?aO ?aB ?aS ?aL ?_; (case aP => exact rfl); (case aB => exact HB2.out); (case aF => exact (fun k hk => by have := HB2.out.size; rw [World.size_alloc] at this; omega)); (case aO => exact HR2.out); (case aS => exact HB2.out.size); (case aL => have := HZ2.out; omega); intro v3 w3 ho3 hb3 hg3 hat3; have HR3 := Aside0.mk ho3; have HB3 := Aside0.mk hb3; have HP3 : Aside0 (PathOK g w3 (n + 1) v3) := ⟨.inr ⟨_, _, ho3, by rw [List.length_append, HZ2.out]; rfl, by omega⟩⟩; clear ho3 hb3 hg3 hat3; obtain ⟨ap3, c3, rfl⟩ := HP3.out.formS (by omega); have d0 := pw_cell_below HB3.out b0.out; have d1 := pw_cell_below HB3.out b1.out; have d2 := pw_cell_below HB3.out b2.out; have d3 := pw_cell_below HB3.out b3.out; have d4 := pw_cell_below HB3.out b4.out; have d5 := pw_cell_below HB3.out b5.out; have HG3 := Aside0.mk (blk_below HG1.out HB3.out); have BW3 := Aside0.mk (BW1.out.trans (HB3.out.mono BW1.out.size))) | (go_at_call 17; (with_reducible refine (IH.out A5 c5 x.f5 (n + 1) _ _ _ _ (by omega) HKY.out HQ5.out HP4.out BW4.out HG4.out HQ1.out).mono ?_); rintro e w5 ⟨rfl, ⟨o5, hg5, hq5⟩, hk5, hb5⟩; have HQ2 := Aside0.mk hq5; clear hq5; have HG5 := Aside0.mk hg5; have HK5 := Aside0.mk hk5; have BW5 := Aside0.mk hb5; clear hg5 hk5 hb5) | ((with_reducible refine (HCALL.out x (n + 1) cc A4 c4 A5 c5 ap3 c3 _ _ HPX.out HM4.out HQ4.out BW3.out HG3.out HQ0.out).mono ?_); rintro e w4 ⟨rfl, ⟨o4, hg4, hq4⟩, hk4, hb4⟩; have HQ1 := Aside0.mk hq4; clear hq4; have HG4 := Aside0.mk hg4; have HK4 := Aside0.mk hk4; have BW4 := Aside0.mk hb4; have f5 := keep_cell hk4 d5 hne; have HP4 := Aside0.mk (HP3.out.keep hk4); clear hg4 hk4 hb4))
        go_roundg (l0.length - (kk + 1))
        case measure => omega
        case rel => exact ⟨kk + 1, _, o5, by omega, by omega, by go_num, KI3, HG5, HQ2, BW5, ⟨(((KB.out.trans KW.out (.inl rfl)).trans (KeepBut.of_below HB3.out g none) (.inl rfl)).trans HK4.out (.inl rfl)).trans HK5.out (.inl rfl)⟩⟩
      case neg =>
        have hltz : ¬ (kk : Int) < (l0.length : Int) := by omega
        have KI2 := KI.out
        rw [List.drop_eq_nil_of_le (by omega), List.foldl_nil] at KI2
        have KI3 := Aside0.mk KI2
        clear KI2 KI
        go_wp2
        go_end0
        obtain rfl := KI3.out
        exact ⟨rfl, ⟨_, HG.out, HQ0.out⟩, KB.out, BW.out⟩


-- NOT PRINTED: function 20 (strings_Builder_String)

end Go.Proofs.Ytgediinpdicekaa.PFnExactTextOf
