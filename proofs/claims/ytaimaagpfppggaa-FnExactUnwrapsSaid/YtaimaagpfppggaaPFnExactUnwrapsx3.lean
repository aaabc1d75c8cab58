/- By a program of this session, out of the kit's print and contracts made by hand: the machine side of a law; Lean checks it. No conditions. -/
import Derived.Test.YtaimaagpfppggaaPFnExactUnwrapsx0
namespace Go.Proofs.Ytaimaagpfppggaa.PFnExactUnwraps
open Go.RowKit Go.Proofs.YtaimaagpfppggaaW.PrintWords Go.Proofs.YtaimaagpfppggaaW.PrintLast Go.Proofs.YtaimaagpfppggaaW.PrintMore
attribute [local go_sem] max2_int min2_int max_two min_two max_three min_three max_four min_four   -- for this text's walks alone
set_option linter.unusedVariables false
set_option linter.unusedSimpArgs false

/-! ### IndexFunc_Rule: function 60, by hand -/
set_option maxHeartbeats 1000000 in
/-- slices.IndexFunc at this type, whatever the predicate: the first place at which it holds. -/
theorem IndexFunc_Rule.holds (A : Option Addr) (n c : Nat) (v : Nat → List Value) (p : Nat → Bool) (g : Nat) (lb : Array Value) (eg : ∀ args w, (callFunc g args).run Try.prog w = .ok (.enter g args) w) (w : World)
    (hp : ∀ j, j < n → ∀ W, Below w.heap.size w W → Calls Try.prog g (#[.agg (v j).toArray] ++ lb) W fun e w' => e = .returned (.bool (p j)) ∧ Below w.heap.size w w')
    (hbig : n ≤ 9223372036854775807) (hc : ∀ j, j < n → ∃ ad, A = some ad ∧ (v j).length = 3 ∧ ∀ i u, (v j)[i]? = some u → w.cell? (ad.add (j * 3 + i)) = some u) :
    Calls Try.prog 60 #[.slice A n c, .func (.func g) #[] lb] w fun e w' => e = .returned (.int .i64 (Mach.idxP p n)) ∧ Below w.heap.size w w' := by
  have HC := Aside0.mk hc
  have HP := Aside0.mk hp
  clear hc hp
  go_enter Try.func60, Try.ntmps60
  go_wp2
  go_loopg [5, 8] n (fun gg _ s8 wr => ∃ kk : Nat, kk ≤ n ∧ n - kk ≤ gg ∧ s8 = .int .i64 kk ∧ Aside0 (Below w.heap.size w wr) ∧ Aside0 (∀ j, j < kk → p j = false))
  case atStart => exact ⟨0, Nat.zero_le _, by omega, rfl, ⟨Below.refl _ w⟩, ⟨fun j hj => absurd hj (Nat.not_lt_zero _)⟩⟩
  case round =>
    obtain ⟨kk, hkk, hg, rfl, BW, AA⟩ := hrel
    by_cases hlt : kk < n
    · have hltz : (kk : Int) < (n : Int) := by omega
      obtain ⟨ad, e, hl, l1⟩ := HC.out kk hlt
      cases e
      obtain ⟨x0, x1, x2, hv⟩ : ∃ x0 x1 x2, v kk = [x0, x1, x2] := by
        match v kk, hl with
        | [x0, x1, x2], _ => exact ⟨x0, x1, x2, rfl⟩
      have m0 := pw_cell_below BW.out (l1 0 x0 (by rw [hv]; rfl))
      rw [Nat.add_zero] at m0
      have m1 := pw_cell_below BW.out (l1 1 x1 (by rw [hv]; rfl))
      rw [add_field _ _ 1 (by omega)] at m1
      have m2 := pw_cell_below BW.out (l1 2 x2 (by rw [hv]; rfl))
      rw [add_field _ _ 2 (by omega)] at m2
      clear l1
      have hcall := HP.out kk hlt wr BW.out
      rw [hv] at hcall
      clear hv
      cases hq : p kk with
      | true =>
        rw [hq] at hcall
        go_wp2_with ((with_reducible refine hcall.mono ?_); rintro e w' ⟨rfl, hb'⟩)
        go_ret
        refine ⟨?_, hb'⟩
        rw [Mach.idxP_hit p n kk hlt hq AA.out]
        rfl
      | false =>
        rw [hq] at hcall
        go_wp2_with ((with_reducible refine hcall.mono ?_); rintro e w' ⟨rfl, hb'⟩)
        go_roundg (n - (kk + 1))
        case measure => omega
        case rel =>
          refine ⟨kk + 1, by omega, by omega, by go_num, ⟨hb'⟩, ⟨fun j hj => ?_⟩⟩
          by_cases e : j = kk
          · subst e; exact hq
          · exact AA.out j (by omega)
    · have hltz : ¬ (kk : Int) < (n : Int) := by omega
      have : kk = n := by omega
      subst this
      go_wp2
      go_ret
      refine ⟨?_, BW.out⟩
      rw [Mach.idxP_miss p kk AA.out]
      rfl


/-! ### impl_ruleAt: function 39, by hand -/
def ruleIs (s : Int) (n : ByteArray) (x : S63) : Bool := x.f0 == s && x.f1.toList == n.toList
def ruleAtI (l : List S63) (s : Int) (n : ByteArray) : Int := Mach.idxP (fun j => ruleIs s n (l.getD j z63)) l.length
def impl_ruleAt.f (l0 : List S63) (n1 : Int) (s2 : ByteArray) : Option Int := some (ruleAtI l0 n1 s2)
theorem impl_ruleAt.lit2 (f0 : Int) (f1 : ByteArray) (A3 : Option Addr) (n3 c3 : Nat) (s : Int) (n : ByteArray) (B : Nat) (w : World) (h0 : w.cell? ⟨B, 0, none⟩ = some (.int .i64 s)) (h1 : w.cell? ⟨B + 1, 0, none⟩ = some (.string n)) (hB : B + 1 < w.heap.size) : Calls Try.prog 61 #[.agg #[.int .i64 f0, .string f1, .slice A3 n3 c3], .pointer (some ⟨B, 0, none⟩), .pointer (some ⟨B + 1, 0, none⟩)] w fun e w' => e = .returned (.bool (f0 == s && f1.toList == n.toList)) ∧ Below w.heap.size w w' := by
  have g0 := pw_cell_below (below_alloc (Below.refl w.heap.size w) (.cells #[.int .i64 f0, .string f1, .slice A3 n3 c3] 63)) h0
  have g1 := pw_cell_below (below_alloc (Below.refl w.heap.size w) (.cells #[.int .i64 f0, .string f1, .slice A3 n3 c3] 63)) h1
  clear h0 h1 hB
  cases hq : f0 == s with
  | true =>
    rw [Bool.true_and]
    go_enter Try.func61, Try.ntmps61
    go_wp2
    go_ret
    exact ⟨rfl, below_alloc (Below.refl _ _) _⟩
  | false =>
    rw [Bool.false_and]
    go_enter Try.func61, Try.ntmps61
    go_wp2
    go_ret
    exact ⟨rfl, below_alloc (Below.refl _ _) _⟩
theorem impl_ruleAt.lit (x : S63) (A3 : Option Addr) (c3 : Nat) (s : Int) (n : ByteArray) (B : Nat) (w : World) (h0 : w.cell? ⟨B, 0, none⟩ = some (.int .i64 s)) (h1 : w.cell? ⟨B + 1, 0, none⟩ = some (.string n)) (hB : B + 1 < w.heap.size) : Calls Try.prog 61 #[.agg #[.int .i64 x.f0, .string x.f1, .slice A3 x.f2.length c3], .pointer (some ⟨B, 0, none⟩), .pointer (some ⟨B + 1, 0, none⟩)] w fun e w' => e = .returned (.bool (ruleIs s n x)) ∧ Below w.heap.size w w' :=
  impl_ruleAt.lit2 x.f0 x.f1 A3 x.f2.length c3 s n B w h0 h1 hB
/-- The cells of a list of rules. -/
theorem ruleCells (A0 : Option Addr) (l0 : List S63) (w : World) (hr0 : Kd.C k63 w A0 l0.length l0) : ∃ F : Nat → Option Addr × Nat, ∀ j, j < l0.length → (∃ ad, A0 = some ad ∧ ∀ i u, ([.int .i64 (l0.getD j z63).f0, .string (l0.getD j z63).f1, .slice (F j).1 (l0.getD j z63).f2.length (F j).2] : List Value)[i]? = some u → w.cell? (ad.add (j * 3 + i)) = some u) ∧ (l0.getD j z63).f2.length ≤ (F j).2 ∧ Kd.C Kd.string w (F j).1 (l0.getD j z63).f2.length (l0.getD j z63).f2 := by
  have hcells : ∀ j, j < l0.length → ∃ (A3 : Option Addr) (c3 : Nat), (∃ ad, A0 = some ad ∧ ∀ i u, ([.int .i64 (l0.getD j z63).f0, .string (l0.getD j z63).f1, .slice A3 (l0.getD j z63).f2.length c3] : List Value)[i]? = some u → w.cell? (ad.add (j * 3 + i)) = some u) ∧ (l0.getD j z63).f2.length ≤ c3 ∧ Kd.C Kd.string w A3 (l0.getD j z63).f2.length (l0.getD j z63).f2 := by
    intro j hj
    obtain ⟨ad, c, e, hcl, hK, hc⟩ := Kd.C_get hr0 z63 (j : Int) (by omega) (by omega)
    rw [Int.toNat_natCast] at hK hc
    obtain ⟨A3, c3, rfl, h1, h2⟩ := k63_open hK
    exact ⟨A3, c3, ⟨ad, e, hc⟩, h1, h2⟩
  refine ⟨fun j => if hj : j < l0.length then ⟨(hcells j hj).choose, (hcells j hj).choose_spec.choose⟩ else ⟨none, 0⟩, fun j hj => ?_⟩
  simp only [dif_pos hj]
  exact (hcells j hj).choose_spec.choose_spec
theorem impl_ruleAt.calls (A0 : Option Addr) (c0 : Nat) (l0 : List S63) (n1 : Int) (s2 : ByteArray) (r : Int) (w : World) (hr0 : Kd.C k63 w A0 l0.length l0) (hc0 : l0.length ≤ c0) (h : impl_ruleAt.f l0 n1 s2 = some r) :
    Calls Try.prog 39 #[.slice A0 l0.length c0, .int .i64 n1, .string s2] w fun e w' => e = .returned (.int .i64 r) ∧ Below w.heap.size w w' := by
  obtain rfl := Option.some.inj h
  obtain ⟨F, hF⟩ := ruleCells A0 l0 w hr0
  have hcall : ∀ W : World, Below w.heap.size w W → ∀ B, W.cell? ⟨B, 0, none⟩ = some (.int .i64 n1) → W.cell? ⟨B + 1, 0, none⟩ = some (.string s2) → B + 1 < W.heap.size → Calls Try.prog 60 #[.slice A0 l0.length c0, .func (.func 61) #[] #[.pointer (some ⟨B, 0, none⟩), .pointer (some ⟨B + 1, 0, none⟩)]] W fun e w' => e = .returned (.int .i64 (ruleAtI l0 n1 s2)) ∧ Below W.heap.size W w' := by
    intro W hW B h0 h1 hB
    exact IndexFunc_Rule.holds A0 l0.length c0 (fun j => [.int .i64 (l0.getD j z63).f0, .string (l0.getD j z63).f1, .slice (F j).1 (l0.getD j z63).f2.length (F j).2]) (fun j => ruleIs n1 s2 (l0.getD j z63)) 61 #[.pointer (some ⟨B, 0, none⟩), .pointer (some ⟨B + 1, 0, none⟩)] (Mach.enters_of Try.func61 (by kernel_rfl) rfl) W
      (fun j hj V hb => (impl_ruleAt.lit (l0.getD j z63) (F j).1 (F j).2 n1 s2 B V (pw_cell_below hb h0) (pw_cell_below hb h1) (Nat.lt_of_lt_of_le hB hb.size)).mono fun e w' ⟨he, hb'⟩ => ⟨he, hb.trans (hb'.mono hb.size)⟩) hr0.2.1
      (fun j hj => by
        obtain ⟨⟨ad, e, hc⟩, _⟩ := hF j hj
        exact ⟨ad, e, rfl, fun i u hu => pw_cell_below hW (hc i u hu)⟩)
  have HCALL := Aside0.mk hcall
  generalize ruleAtI l0 n1 s2 = R at *
  generalize l0.length = N at *
  clear hF hcall hr0 hc0
  go_enter Try.func39, Try.ntmps39
  have hb2 := below_alloc (below_alloc (Below.refl w.heap.size w) (.cells #[.int .i64 n1] 3)) (.cells #[.string s2] 9)
  have q := HCALL.out _ hb2 w.heap.size (Mach.old_cell _ (Mach.new_cell _ _ _ 0 _ rfl)) (Mach.newer_cell _ _ _ _ 0 _ rfl) (by rw [World.size_alloc, World.size_alloc]; omega)
  have HB2 := Aside0.mk hb2
  clear hb2
  go_wp2_with (go_at_call 60; (with_reducible refine q.mono ?_); rintro e w' ⟨rfl, hb'⟩)
  go_ret
  exact ⟨rfl, HB2.out.trans (hb'.mono HB2.out.size)⟩


end Go.Proofs.Ytaimaagpfppggaa.PFnExactUnwraps
