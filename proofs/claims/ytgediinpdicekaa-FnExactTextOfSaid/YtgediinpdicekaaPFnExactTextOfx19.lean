/- By a program of this session, out of the kit's print and contracts made by hand: the machine side of a law; Lean checks it. No conditions. -/
import Derived.Test.YtgediinpdicekaaPFnExactTextOfx0
import Derived.Test.YtgediinpdicekaaPFnExactTextOfx18
namespace Go.Proofs.Ytgediinpdicekaa.PFnExactTextOf
open Go.RowKit Go.Proofs.YtgediinpdicekaaW.PrintWords Go.Proofs.YtgediinpdicekaaW.PrintLast Go.Proofs.YtgediinpdicekaaW.PrintMore
attribute [local go_sem] max2_int min2_int max_two min_two max_three min_three max_four min_four   -- for this text's walks alone
set_option linter.unusedVariables false
set_option linter.unusedSimpArgs false

/-! ### impl_TextOf: function 8, by hand -/
-- also 17
theorem ok_below {g : Nat} {W W' : World} (h : Below W.heap.size W W') : Lib.OthersKept 5 (some g) W W' := fun k o hk _ _ => (h.block k (blk_lt hk)).trans hk
theorem PathOK.keepO {g n : Nat} {W W' : World} {v : Value} (h : PathOK g W n v) (hk : Lib.OthersKept 5 (some g) W W') : PathOK g W' n v := by
  rcases h with h | ⟨base, xs, hR, hl, hp⟩
  case inl => exact .inl h
  case inr =>
    refine .inr ⟨base, xs, Kd.R_mono (Kd.R_move (Kd.R_bound hR) (fun k hk2 => ?_)) (fun _ h => h.1), hl, hp⟩
    obtain ⟨h1, _, _, q, hq, cells, hc⟩ := hk2
    have hq' : q = 3 := by simpa [Kd.int, Kd.scalar] using hq
    subst hq'
    rw [hc]
    exact hk k _ hc (fun e => h1 (Option.some.inj e)) (fun _ _ e => by injection e with _ h; exact absurd h (by decide))
theorem isB_below {T e : TypeId} {B b : Nat} {bs : List Value} {W W' : World} (h : Lib.IsBuilderF T e B b bs W) (hb : Below W.heap.size W W') : Lib.IsBuilderF T e B b bs W' := by
  have key : ∀ p, Lib.BuilderAtF T e B b p bs W → Lib.BuilderAtF T e B b p bs W' := by
    rintro p ⟨hB, v, hk, ⟨ho1, ho2⟩, hne⟩
    refine ⟨hB, v, (hb.block _ (blk_lt hk)).trans hk, ⟨ho1, ?_⟩, hne⟩
    rcases ho2 with h | ⟨g, cap, cur, fz, hv, hbg, hg, rest⟩
    · exact .inl h
    · exact .inr ⟨g, cap, cur, fz, hv, hbg, (hb.block _ (blk_lt hg)).trans hg, rest⟩
  exact h.elim (fun x => .inl (key _ x)) (fun x => .inr (key _ x))
theorem isB_lt {T e : TypeId} {B b : Nat} {bs : List Value} {W : World} (h : Lib.IsBuilderF T e B b bs W) : b < W.heap.size := h.elim (fun x => x.lt) (fun x => x.lt)
theorem eachI_back {σ : Type} (Ok : σ → Prop) (step : S39 → Nat → σ → σ) (hback : ∀ x n s, Ok (step x n s) → Ok s) (b : Nat) : ∀ l n s, Ok (eachI step b l n s) → Ok s := by
  induction b with
  | zero => intro l n s h; exact h
  | succ b ih =>
    intro l
    induction l with
    | nil => intro n s h; exact h
    | cons x l ihl => intro n s h; exact hback x (n + 1) s (ih _ _ _ (ihl n _ h))
theorem fold_back {σ : Type} (Ok : σ → Prop) (step : S39 → Nat → σ → σ) (hback : ∀ x n s, Ok (step x n s) → Ok s) (b n : Nat) : ∀ (l : List S39) s, Ok (l.foldl (fun s x => eachI step b x.f5 (n + 1) (step x (n + 1) s)) s) → Ok s
  | [], _, h => h
  | x :: l, s, h => hback x (n + 1) s (eachI_back Ok step hback b _ _ _ (fold_back Ok step hback b n l _ h))
set_option maxHeartbeats 4000000 in
set_option maxRecDepth 100000 in
theorem eachW.holds {σ : Type} (St : σ → World → Prop) (Ok : σ → Prop) (P : S39 → Prop) (step : S39 → Nat → σ → σ) (w0 : World) (g gf : Nat) (lb : Array Value) (eg : ∀ args w, (callFunc gf args).run Try.prog w = .ok (.enter gf args) w) (hstay : ∀ s (W W' : World), Below W.heap.size W W' → St s W → St s W') (hin : ∀ s W, St s W → g < W.heap.size) (hback : ∀ x n s, Ok (step x n s) → Ok s)
    (hcall : ∀ (x : S39) (n : Nat) (s : σ) (A4 : Option Addr) (c4 : Nat) (A5 : Option Addr) (c5 : Nat) (ap : Addr) (c : Nat) (W : World), P x → x.f4.length ≤ c4 → Kd.C k69 w0 A4 x.f4.length x.f4 → Below w0.heap.size w0 W → St s W → Ok (step x n s) → Calls Try.prog gf (#[.agg #[.int .i64 x.f0, .int .i64 x.f1, .string x.f2, .string x.f3, .slice A4 x.f4.length c4, .slice A5 x.f5.length c5], .slice (some ap) n c] ++ lb) W fun e w' => e = .returned (.tuple #[]) ∧ St (step x n s) w' ∧ Lib.OthersKept 5 (some g) W w' ∧ Below w0.heap.size w0 w') (b : Nat) :
    ∀ (A0 : Option Addr) (c0 : Nat) (l0 : List S39) (n : Nat) (v : Value) (s : σ) (w : World), n + b ≤ 50 → (∀ y ∈ l0, goodE P b y) → Kd.C k39 w0 A0 l0.length l0 → PathOK g w n v → Below w0.heap.size w0 w → St s w → Ok (eachI step b l0 n s) →
      Calls Try.prog 17 #[.slice A0 l0.length c0, v, .func (.func gf) #[] lb] w fun e w' => e = .returned (.tuple #[]) ∧ St (eachI step b l0 n s) w' ∧ Lib.OthersKept 5 (some g) w w' ∧ Below w0.heap.size w0 w' := by
  have HCALL := Aside0.mk hcall
  have HST := Aside0.mk hstay
  have HIN := Aside0.mk hin
  have HBK := Aside0.mk hback
  clear hcall hstay hin hback
  induction b with
  | zero =>
    intro A0 c0 l0 n v s w hn hd hr hp hB hs hq
    cases l0 with
    | cons x l => exact (hd x (List.mem_cons_self)).elim
    | nil =>
      obtain ⟨Av, cv, rfl⟩ := hp.form
      rw [List.length_nil]
      have HB := Aside0.mk hB
      have HS := Aside0.mk hs
      have HQ := Aside0.mk hq
      clear hB hs hp hr hd hq
      go_enter Try.func17, Try.ntmps17
      go_wp2
      go_loopg [6, 7, 8, 11] 0 (fun gg _ _ _ s11 wr => s11 = .int .i64 0 ∧ wr = w)
      case atStart => exact ⟨rfl, rfl⟩
      case round =>
        obtain ⟨rfl, rfl⟩ := hrel
        go_wp2
        go_end0
        exact ⟨rfl, HS.out, Lib.OthersKept.refl _ _ _, HB.out⟩
  | succ b ih =>
    intro A0 c0 l0 n v s w hn hd hr hp hB hs hq
    rw [eachI] at hq ⊢
    obtain ⟨R, hR⟩ : ∃ R, l0.foldl (fun s x => eachI step b x.f5 (n + 1) (step x (n + 1) s)) s = R := ⟨_, rfl⟩
    rw [hR] at hq ⊢
    have HR := Aside0.mk hR
    have hL : l0.length ≤ 9223372036854775807 := hr.2.1
    have hgw : g < w.heap.size := HIN.out _ _ hs
    obtain ⟨Av, cv, rfl⟩ := hp.form
    have HP := Aside0.mk hp
    have HB := Aside0.mk hB
    have HS := Aside0.mk hs
    have HQ := Aside0.mk hq
    have HD := Aside0.mk hd
    have HC := Aside0.mk hr
    have IH := Aside0.mk ih
    clear hR hp hB hs hd hr ih hq
    go_enter Try.func17, Try.ntmps17
    go_wp2
    go_loopg [6, 7, 8, 11] l0.length (fun gg _ _ _ s11 wr => ∃ (kk : Nat) (cc : σ), kk ≤ l0.length ∧ l0.length - kk ≤ gg ∧ s11 = .int .i64 kk ∧ Aside0 ((l0.drop kk).foldl (fun s x => eachI step b x.f5 (n + 1) (step x (n + 1) s)) cc = R) ∧ Aside0 (St cc wr) ∧ Aside0 (Below w0.heap.size w0 wr) ∧ Aside0 (Lib.OthersKept 5 (some g) w wr))
    case atStart => exact ⟨0, s, Nat.zero_le _, by omega, rfl, HR, HS, HB, ⟨Lib.OthersKept.refl _ _ _⟩⟩
    case round =>
      obtain ⟨kk, cc, hkk, hgg, rfl, KI, HG, BW, KB⟩ := hrel
      by_cases hlt : kk < l0.length
      case pos =>
        have hltz : (kk : Int) < (l0.length : Int) := by omega
        obtain ⟨ad, cs, e, hcl, hK, hc⟩ := Kd.C_get HC.out z39 (kk : Int) (by omega) (by omega)
        rw [Int.toNat_natCast] at hK hc
        have hdr : l0.drop kk = l0.getD kk z39 :: l0.drop (kk + 1) := by rw [List.getD_eq_getElem?_getD, List.getElem?_eq_getElem hlt]; exact List.drop_eq_getElem_cons hlt
        have KI2 := KI.out
        rw [hdr, List.foldl_cons] at KI2
        have hky := HD.out _ (Kit.getD_mem z39 hlt)
        obtain ⟨hpx, hky⟩ := hky
        clear KI hdr
        generalize l0.getD kk z39 = x at *
        obtain ⟨A4, c4, A5, c5, rfl, m4, q4, m5, q5⟩ := k39_open hK
        subst e
        have r0 : wr.cell? (ad.add (kk * 6)) = some (.int .i64 x.f0) := pw_cell_below BW.out (hc 0 _ rfl)
        have r1 : wr.cell? ⟨(ad.add (kk * 6)).block, (ad.add (kk * 6)).off + 1, none⟩ = some (.int .i64 x.f1) := pw_cell_below BW.out (by rw [← add_field _ _ 1 (by omega)]; exact hc 1 _ rfl)
        have r2 : wr.cell? ⟨(ad.add (kk * 6)).block, (ad.add (kk * 6)).off + 2, none⟩ = some (.string x.f2) := pw_cell_below BW.out (by rw [← add_field _ _ 2 (by omega)]; exact hc 2 _ rfl)
        have r3 : wr.cell? ⟨(ad.add (kk * 6)).block, (ad.add (kk * 6)).off + 3, none⟩ = some (.string x.f3) := pw_cell_below BW.out (by rw [← add_field _ _ 3 (by omega)]; exact hc 3 _ rfl)
        have r4 : wr.cell? ⟨(ad.add (kk * 6)).block, (ad.add (kk * 6)).off + 4, none⟩ = some (.slice A4 x.f4.length c4) := pw_cell_below BW.out (by rw [← add_field _ _ 4 (by omega)]; exact hc 4 _ rfl)
        have r5 : wr.cell? ⟨(ad.add (kk * 6)).block, (ad.add (kk * 6)).off + 5, none⟩ = some (.slice A5 x.f5.length c5) := pw_cell_below BW.out (by rw [← add_field _ _ 5 (by omega)]; exact hc 5 _ rfl)
        have KI3 := Aside0.mk KI2
        have HKY := Aside0.mk hky
        have HQ5 := Aside0.mk q5
        have HPX := Aside0.mk hpx
        have HM4 := Aside0.mk m4
        have HQ4 := Aside0.mk q4
        clear hc hK hcl KI2 hky m4 q4 m5 q5 hpx
        have hgr : g < wr.heap.size := HIN.out _ _ HG.out
        have HOKE := Aside0.mk (show Ok (eachI step b x.f5 (n + 1) (step x (n + 1) cc)) from by have h := HQ.out; rw [← KI3.out] at h; exact fold_back Ok step HBK.out b n _ _ h)
        have HOKX : Aside0 (Ok (step x (n + 1) cc)) := ⟨eachI_back Ok step HBK.out b _ _ _ HOKE.out⟩
        have hne : wr.heap.size ≠ g := by omega
        have KW : Aside0 (Lib.OthersKept 5 (some g) wr (wr.alloc (.cells #[.int .i64 x.f0, .int .i64 x.f1, .string x.f2, .string x.f3, .slice A4 x.f4.length c4, .slice A5 x.f5.length c5] 39))) := ⟨ok_below (below_alloc (Below.refl _ _) _)⟩
        have HP1 : Aside0 (PathOK g (wr.alloc (.cells #[.int .i64 x.f0, .int .i64 x.f1, .string x.f2, .string x.f3, .slice A4 x.f4.length c4, .slice A5 x.f5.length c5] 39)) n (.slice Av n cv)) := ⟨(HP.out.keepO KB.out).keepO KW.out⟩
        have QC := Aside0.mk (clone_path g (wr.alloc (.cells #[.int .i64 x.f0, .int .i64 x.f1, .string x.f2, .string x.f3, .slice A4 x.f4.length c4, .slice A5 x.f5.length c5] 39)) n (.slice Av n cv) (by omega) HP1.out (by rw [World.size_alloc]; omega))
        have b0 : Aside0 ((wr.alloc (.cells #[.int .i64 x.f0, .int .i64 x.f1, .string x.f2, .string x.f3, .slice A4 x.f4.length c4, .slice A5 x.f5.length c5] 39)).cell? ⟨wr.heap.size, 0, none⟩ = some (.int .i64 x.f0)) := ⟨Mach.new_cell wr _ _ 0 _ rfl⟩
        have b1 : Aside0 ((wr.alloc (.cells #[.int .i64 x.f0, .int .i64 x.f1, .string x.f2, .string x.f3, .slice A4 x.f4.length c4, .slice A5 x.f5.length c5] 39)).cell? ⟨wr.heap.size, 1, none⟩ = some (.int .i64 x.f1)) := ⟨Mach.new_cell wr _ _ 1 _ rfl⟩
        have b2 : Aside0 ((wr.alloc (.cells #[.int .i64 x.f0, .int .i64 x.f1, .string x.f2, .string x.f3, .slice A4 x.f4.length c4, .slice A5 x.f5.length c5] 39)).cell? ⟨wr.heap.size, 2, none⟩ = some (.string x.f2)) := ⟨Mach.new_cell wr _ _ 2 _ rfl⟩
        have b3 : Aside0 ((wr.alloc (.cells #[.int .i64 x.f0, .int .i64 x.f1, .string x.f2, .string x.f3, .slice A4 x.f4.length c4, .slice A5 x.f5.length c5] 39)).cell? ⟨wr.heap.size, 3, none⟩ = some (.string x.f3)) := ⟨Mach.new_cell wr _ _ 3 _ rfl⟩
        have b4 : Aside0 ((wr.alloc (.cells #[.int .i64 x.f0, .int .i64 x.f1, .string x.f2, .string x.f3, .slice A4 x.f4.length c4, .slice A5 x.f5.length c5] 39)).cell? ⟨wr.heap.size, 4, none⟩ = some (.slice A4 x.f4.length c4)) := ⟨Mach.new_cell wr _ _ 4 _ rfl⟩
        have b5 : Aside0 ((wr.alloc (.cells #[.int .i64 x.f0, .int .i64 x.f1, .string x.f2, .string x.f3, .slice A4 x.f4.length c4, .slice A5 x.f5.length c5] 39)).cell? ⟨wr.heap.size, 5, none⟩ = some (.slice A5 x.f5.length c5)) := ⟨Mach.new_cell wr _ _ 5 _ rfl⟩
        have HG1 : Aside0 (St cc (wr.alloc (.cells #[.int .i64 x.f0, .int .i64 x.f1, .string x.f2, .string x.f3, .slice A4 x.f4.length c4, .slice A5 x.f5.length c5] 39))) := ⟨HST.out _ _ _ (below_alloc (Below.refl _ _) _) HG.out⟩
        have BN : Aside0 ((wr.alloc (.cells #[.int .i64 x.f0, .int .i64 x.f1, .string x.f2, .string x.f3, .slice A4 x.f4.length c4, .slice A5 x.f5.length c5] 39)).heap[wr.heap.size]? = some (.cells #[.int .i64 x.f0, .int .i64 x.f1, .string x.f2, .string x.f3, .slice A4 x.f4.length c4, .slice A5 x.f5.length c5] 39 (0, 0))) := ⟨blk_new wr _⟩
        have BW1 : Aside0 (Below w0.heap.size w0 (wr.alloc (.cells #[.int .i64 x.f0, .int .i64 x.f1, .string x.f2, .string x.f3, .slice A4 x.f4.length c4, .slice A5 x.f5.length c5] 39))) := ⟨below_alloc BW.out _⟩
        go_wp2_with (first | (go_at_call 28; (with_reducible refine QC.out.mono ?_); rintro e w2 ⟨v2, zs, rfl, hR2, hz2, hb2⟩; have HR2 := Aside0.mk hR2; have HB2 := Aside0.mk hb2; have HZ2 := Aside0.mk hz2; clear hR2 hb2 hz2) | ((with_reducible refine gate_builtin (b := .append) (xs := #[.tmp 17, .tmp 19]) rfl ?_); at_builtin; refine Kd.R_append (Kd.int .i64) (w0 := (wr.alloc (.cells #[.int .i64 x.f0, .int .i64 x.f1, .string x.f2, .string x.f3, .slice A4 x.f4.length c4, .slice A5 x.f5.length c5] 39))) (wr.alloc (.cells #[.int .i64 x.f0, .int .i64 x.f1, .string x.f2, .string x.f3, .slice A4 x.f4.length c4, .slice A5 x.f5.length c5] 39)).heap.size rfl (.tmp 17) (.tmp 19) 46 3 (.int .i64 0) 8 rfl Try.underlying46 infoInt rfl (by decide) (by omega) v2 zs (kk : Int) [.int .i64 kk] (fun k => k ≠ g) (fun _ => False) rfl rfl ?aP (fun _ hk => hk.elim) ?aF ?aO ?aB ?aS ?aL ?_; (case aP => exact rfl); (case aB => exact HB2.out); (case aF => exact (fun k hk => by have := HB2.out.size; rw [World.size_alloc] at this; omega)); (case aO => exact HR2.out); (case aS => exact HB2.out.size); (case aL => have := HZ2.out; omega); intro v3 w3 ho3 hb3 hg3 hat3; have HR3 := Aside0.mk ho3; have HB3 := Aside0.mk hb3; have HP3 : Aside0 (PathOK g w3 (n + 1) v3) := ⟨.inr ⟨_, _, ho3, by rw [List.length_append, HZ2.out]; rfl, by omega⟩⟩; clear ho3 hb3 hg3 hat3; obtain ⟨ap3, c3, rfl⟩ := HP3.out.formS (by omega); have d0 := pw_cell_below HB3.out b0.out; have d1 := pw_cell_below HB3.out b1.out; have d2 := pw_cell_below HB3.out b2.out; have d3 := pw_cell_below HB3.out b3.out; have d4 := pw_cell_below HB3.out b4.out; have d5 := pw_cell_below HB3.out b5.out; have HG3 := Aside0.mk (HST.out _ _ _ HB3.out HG1.out); have BN3 := Aside0.mk (blk_below BN.out HB3.out); have BW3 := Aside0.mk (BW1.out.trans (HB3.out.mono BW1.out.size))) | (go_at_call 17; (with_reducible refine (IH.out A5 c5 x.f5 (n + 1) _ _ _ (by omega) HKY.out HQ5.out HP4.out BW4.out HG4.out HOKE.out).mono ?_); rintro e w5 ⟨rfl, hg5, hk5, hb5⟩; have HG5 := Aside0.mk hg5; have HK5 := Aside0.mk hk5; have BW5 := Aside0.mk hb5; clear hg5 hk5 hb5) | ((with_reducible refine (HCALL.out x (n + 1) cc A4 c4 A5 c5 ap3 c3 _ HPX.out HM4.out HQ4.out BW3.out HG3.out HOKX.out).mono ?_); rintro e w4 ⟨rfl, hg4, hk4, hb4⟩; have HG4 := Aside0.mk hg4; have HK4 := Aside0.mk hk4; have BW4 := Aside0.mk hb4; have f5 : w4.cell? ⟨wr.heap.size, 5, none⟩ = some (.slice A5 x.f5.length c5) := (blk_cell (hk4 _ _ BN3.out (fun e => hne (Option.some.inj e)) (fun _ _ e => by injection e with _ h; exact absurd h (by decide))) 5).trans rfl; have HP4 := Aside0.mk (HP3.out.keepO hk4); clear hg4 hk4 hb4))
        go_roundg (l0.length - (kk + 1))
        case measure => omega
        case rel => exact ⟨kk + 1, _, by omega, by omega, by go_num, KI3, HG5, BW5, ⟨(((KB.out.trans KW.out).trans (ok_below HB3.out)).trans HK4.out).trans HK5.out⟩⟩
      case neg =>
        have hltz : ¬ (kk : Int) < (l0.length : Int) := by omega
        have KI2 := KI.out
        rw [List.drop_eq_nil_of_le (by omega), List.foldl_nil] at KI2
        have KI3 := Aside0.mk KI2
        clear KI2 KI
        go_wp2
        go_end0
        obtain rfl := KI3.out
        exact ⟨rfl, HG.out, KB.out, BW.out⟩
def stepTx (x : S39) (_ : Nat) (s : List UInt8) : List UInt8 := if x.f0 = 2 then s ++ x.f3.data.toList else s
def ShortT (s : List UInt8) : Prop := s.length ≤ 1000000
theorem cells_append (s : List UInt8) (t : ByteArray) : Lib.byteCells s ++ Lib.strCells t = Lib.byteCells (s ++ t.data.toList) := by simp [Lib.byteCells, Lib.strCells]
def impl_TextOf.f (l0 : List S39) : Option (ByteArray × Int) := (impl_fault.f l0).bind fun c => if c = 0 then (if (∀ y ∈ l0, depE 10 y = true) ∧ (eachI stepTx 10 l0 0 []).length ≤ 1000000 then some (⟨(eachI stepTx 10 l0 0 []).toArray⟩, 0) else none) else some ((⟨#[]⟩ : ByteArray), c)
theorem goodE_dep (n : Nat) : ∀ x : S39, depE n x = true → goodE (fun _ => True) n x := by
  induction n with
  | zero => intro x h; cases h
  | succ n ih => intro x h; rw [depE, List.all_eq_true] at h; exact ⟨trivial, fun y hy => ih y (h y hy)⟩
set_option maxHeartbeats 4000000 in
theorem textOf_lit (w0 : World) (g : Nat) (x : S39) (n : Nat) (s : List UInt8) (A4 : Option Addr) (c4 : Nat) (A5 : Option Addr) (c5 : Nat) (ap : Addr) (c : Nat) (W : World) (hB : Below w0.heap.size w0 W) (hs : Lib.IsBuilderF 44 5 w0.heap.size g (Lib.byteCells s) W) (ho : ShortT (stepTx x n s)) :
    Calls Try.prog 18 #[.agg #[.int .i64 x.f0, .int .i64 x.f1, .string x.f2, .string x.f3, .slice A4 x.f4.length c4, .slice A5 x.f5.length c5], .slice (some ap) n c, .pointer (some ⟨g, 0, none⟩)] W fun e w' => e = .returned (.tuple #[]) ∧ Lib.IsBuilderF 44 5 w0.heap.size g (Lib.byteCells (stepTx x n s)) w' ∧ Lib.OthersKept 5 (some g) W w' ∧ Below w0.heap.size w0 w' := by
  have HB1 := Aside0.mk (below_alloc hB (.cells #[.int .i64 x.f0, .int .i64 x.f1, .string x.f2, .string x.f3, .slice A4 x.f4.length c4, .slice A5 x.f5.length c5] 39))
  have HS1 := Aside0.mk (hs.alloc (.cells #[.int .i64 x.f0, .int .i64 x.f1, .string x.f2, .string x.f3, .slice A4 x.f4.length c4, .slice A5 x.f5.length c5] 39))
  have HK1 : Aside0 (Lib.OthersKept 5 (some g) W (W.alloc (.cells #[.int .i64 x.f0, .int .i64 x.f1, .string x.f2, .string x.f3, .slice A4 x.f4.length c4, .slice A5 x.f5.length c5] 39))) := ⟨ok_below (below_alloc (Below.refl _ _) _)⟩
  have b0 : (W.alloc (.cells #[.int .i64 x.f0, .int .i64 x.f1, .string x.f2, .string x.f3, .slice A4 x.f4.length c4, .slice A5 x.f5.length c5] 39)).cell? ⟨W.heap.size, 0, none⟩ = some (.int .i64 x.f0) := Mach.new_cell W _ _ 0 _ rfl
  have b1 : (W.alloc (.cells #[.int .i64 x.f0, .int .i64 x.f1, .string x.f2, .string x.f3, .slice A4 x.f4.length c4, .slice A5 x.f5.length c5] 39)).cell? ⟨W.heap.size, 1, none⟩ = some (.int .i64 x.f1) := Mach.new_cell W _ _ 1 _ rfl
  have b2 : (W.alloc (.cells #[.int .i64 x.f0, .int .i64 x.f1, .string x.f2, .string x.f3, .slice A4 x.f4.length c4, .slice A5 x.f5.length c5] 39)).cell? ⟨W.heap.size, 2, none⟩ = some (.string x.f2) := Mach.new_cell W _ _ 2 _ rfl
  have b3 : (W.alloc (.cells #[.int .i64 x.f0, .int .i64 x.f1, .string x.f2, .string x.f3, .slice A4 x.f4.length c4, .slice A5 x.f5.length c5] 39)).cell? ⟨W.heap.size, 3, none⟩ = some (.string x.f3) := Mach.new_cell W _ _ 3 _ rfl
  have b4 : (W.alloc (.cells #[.int .i64 x.f0, .int .i64 x.f1, .string x.f2, .string x.f3, .slice A4 x.f4.length c4, .slice A5 x.f5.length c5] 39)).cell? ⟨W.heap.size, 4, none⟩ = some (.slice A4 x.f4.length c4) := Mach.new_cell W _ _ 4 _ rfl
  have b5 : (W.alloc (.cells #[.int .i64 x.f0, .int .i64 x.f1, .string x.f2, .string x.f3, .slice A4 x.f4.length c4, .slice A5 x.f5.length c5] 39)).cell? ⟨W.heap.size, 5, none⟩ = some (.slice A5 x.f5.length c5) := Mach.new_cell W _ _ 5 _ rfl
  clear hB hs
  by_cases hk : x.f0 = 2
  · have e : stepTx x n s = s ++ x.f3.data.toList := if_pos hk
    have hz : (x.f0 == 2) = true := by simpa using hk
    rw [e] at ho ⊢
    unfold ShortT at ho
    rw [List.length_append] at ho
    have hlen : (Lib.byteCells s).length + x.f3.size ≤ 140737488355328 := by
      have : x.f3.data.toList.length = x.f3.size := by simp
      rw [Lib.byteCells_length]
      omega
    have QW : Aside0 (Calls Try.prog 19 #[.pointer (some ⟨g, 0, none⟩), .string x.f3] (W.alloc (.cells #[.int .i64 x.f0, .int .i64 x.f1, .string x.f2, .string x.f3, .slice A4 x.f4.length c4, .slice A5 x.f5.length c5] 39)) fun e w' => e = .returned (.tuple #[.int .i64 x.f3.size, .nilIface]) ∧ Lib.IsBuilderF 44 5 w0.heap.size g (Lib.byteCells (s ++ x.f3.data.toList)) w' ∧ Below w0.heap.size (W.alloc (.cells #[.int .i64 x.f0, .int .i64 x.f1, .string x.f2, .string x.f3, .slice A4 x.f4.length c4, .slice A5 x.f5.length c5] 39)) w' ∧ Lib.OthersKept 5 (some g) (W.alloc (.cells #[.int .i64 x.f0, .int .i64 x.f1, .string x.f2, .string x.f3, .slice A4 x.f4.length c4, .slice A5 x.f5.length c5] 39)) w') :=
      ⟨(Bld.write_text w0.heap.size g (Lib.byteCells s) x.f3 (W.alloc (.cells #[.int .i64 x.f0, .int .i64 x.f1, .string x.f2, .string x.f3, .slice A4 x.f4.length c4, .slice A5 x.f5.length c5] 39)) HS1.out hlen HB1.out.size).mono fun e w' ⟨he, h1, h2, h3⟩ => ⟨he, by rw [← cells_append]; exact h1, h2, h3⟩⟩
    clear ho e hk hlen
    go_enter Try.func18, Try.ntmps18
    go_wp2_with (first | (go_at_call 19; (with_reducible refine QW.out.mono ?_); rintro e w1 ⟨rfl, hs1, hb1, hk1⟩; have HS2 := Aside0.mk hs1; have HB2 := Aside0.mk (HB1.out.trans hb1); have HK2 := Aside0.mk (HK1.out.trans hk1); clear hs1 hb1 hk1))
    go_end0
    exact ⟨rfl, HS2.out, HK2.out, HB2.out⟩
  · have e : stepTx x n s = s := if_neg hk
    have hz : (x.f0 == 2) = false := by simpa using hk
    rw [e]
    clear ho e hk
    go_enter Try.func18, Try.ntmps18
    go_wp2
    go_end0
    exact ⟨rfl, HS1.out, HK1.out, HB1.out⟩
set_option maxHeartbeats 4000000 in
theorem impl_TextOf.calls (A0 : Option Addr) (c0 : Nat) (l0 : List S39) (r1 : ByteArray) (r2 : Int) (w : World) (hr0 : Kd.C k39 w A0 l0.length l0) (hc0 : l0.length ≤ c0) (h : impl_TextOf.f l0 = some (r1, r2)) :
    Calls Try.prog 8 #[.slice A0 l0.length c0] w fun e w' => e = .returned (.tuple #[.string r1, .int .i64 r2]) ∧ Below w.heap.size w w' := by
  unfold impl_TextOf.f at h
  obtain ⟨cd, hcd, h⟩ := Option.bind_eq_some_iff.mp h
  have QF := Aside0.mk (impl_fault.calls A0 c0 l0 cd w hr0 hc0 hcd)
  by_cases hz : cd = 0
  case neg =>
    rw [if_neg hz] at h
    obtain ⟨rfl, rfl⟩ := Prod.mk.inj (Option.some.inj h)
    have hz1 : (cd == 0) = false := by simpa using hz
    have hz2 : (cd != 0) = true := by simpa using hz
    clear h hcd hr0 hc0
    generalize l0.length = n0 at *
    go_enter Try.func8, Try.ntmps8
    go_wp2_with (go_at_call 16; (with_reducible refine QF.out.mono ?_); rintro e w1 ⟨rfl, hb1⟩; have HB1 := Aside0.mk hb1; clear hb1)
    go_ret2
    exact ⟨rfl, HB1.out⟩
  case pos =>
    subst hz
    rw [if_pos rfl] at h
    obtain ⟨hd, h⟩ := Option.ite_none_right_eq_some.mp h
    obtain ⟨rfl, rfl⟩ := Prod.mk.inj (Option.some.inj h)
    have QE : Aside0 (∀ V, Below w.heap.size w V → V.heap.size ≤ V.heap.size → Calls Try.prog 17 #[.slice A0 l0.length c0, .slice none 0 0, .func (.func 18) #[] #[.pointer (some ⟨V.heap.size, 0, none⟩)]] (V.alloc (.cells #[.pointer none, .slice none 0 0] 44)) fun e w' => e = .returned (.tuple #[]) ∧ Lib.IsBuilderF 44 5 w.heap.size V.heap.size (Lib.byteCells (eachI stepTx 10 l0 0 [])) w' ∧ Below w.heap.size w w') := ⟨fun V hV _ => by
      have hfresh : Lib.IsBuilderF 44 5 w.heap.size V.heap.size (Lib.byteCells []) (V.alloc (.cells #[.pointer none, .slice none 0 0] 44)) := .inl ⟨hV.size, .slice none 0 0, blk_new V _, ⟨rfl, .inl ⟨rfl, rfl⟩⟩, by simp [Value.ownBlock]⟩
      refine (eachW.holds (fun s W => Lib.IsBuilderF 44 5 w.heap.size V.heap.size (Lib.byteCells s) W) ShortT (fun _ => True) stepTx w V.heap.size 18 #[.pointer (some ⟨V.heap.size, 0, none⟩)] (Mach.enters_of Try.func18 (by kernel_rfl) rfl) (fun s W W' hb h => isB_below h hb) (fun s W h => isB_lt h) (fun x n s h => ?_)
        (fun x n s A4 c4 A5 c5 ap c W _ _ _ hB hs ho => textOf_lit w V.heap.size x n s A4 c4 A5 c5 ap c W hB hs ho) 10 A0 c0 l0 0 (.slice none 0 0) [] (V.alloc (.cells #[.pointer none, .slice none 0 0] 44)) (by omega) (fun y hy => goodE_dep 10 y (hd.1 y hy)) hr0 (.inl ⟨rfl, rfl⟩) (below_alloc hV _) hfresh hd.2).mono fun e w' ⟨h1, h2, _, h4⟩ => ⟨h1, h2, h4⟩
      unfold ShortT stepTx at *
      by_cases hk : x.f0 = 2
      · rw [if_pos hk, List.length_append] at h; omega
      · rw [if_neg hk] at h; exact h⟩
    have QS : Aside0 (∀ (V : World) (b : Nat), w.heap.size ≤ V.heap.size → Lib.IsBuilderF 44 5 w.heap.size b (Lib.byteCells (eachI stepTx 10 l0 0 [])) V → Calls Try.prog 20 #[.pointer (some ⟨b, 0, none⟩)] V fun e w' => e = .returned (.string ⟨(eachI stepTx 10 l0 0 []).toArray⟩) ∧ Below w.heap.size V w') := ⟨fun V b hV hs => (Try.Builder_String_any_k w.heap.size b _ V hs hV).mono fun e w' ⟨h1, _, h3, _⟩ => ⟨h1, h3⟩⟩
    clear h hcd hr0 hc0 hd
    generalize eachI stepTx 10 l0 0 [] = R at *
    generalize l0.length = n0 at *
    go_enter Try.func8, Try.ntmps8
    go_wp2_with (first | (go_at_call 16; (with_reducible refine QF.out.mono ?_); rintro e w1 ⟨rfl, hb1⟩; have HB1 := Aside0.mk hb1; clear hb1) | (go_at_call 17; (with_reducible refine (QE.out w1 HB1.out (Nat.le_refl _)).mono ?_); rintro e w2 ⟨rfl, hs2, hb2⟩; have HS2 := Aside0.mk hs2; have HB2 := Aside0.mk hb2; clear hs2 hb2) | (go_at_call 20; (with_reducible refine (QS.out _ _ HB2.out.size HS2.out).mono ?_); rintro e w3 ⟨rfl, hb3⟩; have HB3 := Aside0.mk (HB2.out.trans hb3); clear hb3))
    go_ret2
    exact ⟨rfl, HB3.out⟩


/-! ### laws_eqAttr: function 39 -/
def laws_eqAttr.f (a0_0 : ByteArray) (a0_1 : ByteArray) (a1_0 : ByteArray) (a1_1 : ByteArray) : Option (Bool) := if a0_0.toList = a1_0.toList then (if a0_1.toList = a1_1.toList then (some true) else (some false)) else (some false)
set_option maxHeartbeats 8000000 in
set_option maxRecDepth 100000 in
theorem laws_eqAttr.calls (a0_0 : ByteArray) (a0_1 : ByteArray) (a1_0 : ByteArray) (a1_1 : ByteArray) (r : Bool) (w : World) (h : laws_eqAttr.f a0_0 a0_1 a1_0 a1_1 = some r) :
    Calls Try.prog 39 #[.agg #[.string a0_0, .string a0_1], .agg #[.string a1_0, .string a1_1]] w fun e w' => e = .returned (.bool r) ∧ Below w.heap.size w w' := by
  have hu69 := Try.underlying69
  have HB := Aside0.mk (Below.refl w.heap.size w)
  have H : (if a0_0.toList = a1_0.toList then (if a0_1.toList = a1_1.toList then (some true) else (some false)) else (some false)) = some r := h
  clear h
  by_cases c3 : a0_0.toList = a1_0.toList
  · rw [if_pos c3] at H
    have c3b0 : (a0_0.toList == a1_0.toList) = true := beq_iff_eq.mpr c3
    have c3b1 : (a0_0.toList != a1_0.toList) = false := bne_eq_false_iff_eq.mpr c3
    clear c3
    by_cases c4 : a0_1.toList = a1_1.toList
    · rw [if_pos c4] at H
      have c4b0 : (a0_1.toList == a1_1.toList) = true := beq_iff_eq.mpr c4
      have c4b1 : (a0_1.toList != a1_1.toList) = false := bne_eq_false_iff_eq.mpr c4
      clear c4
      obtain rfl := Option.some.inj H
      go_enter Try.func39, Try.ntmps39
      go_wp2_with (first | ((with_reducible refine gate_dst (N := 2) rfl ?_); refine box_event ?hg (N := 2) ?hd (cs := #[.string a0_0, .string a0_1]) (t := 69) ?hr ?_; (case hd => rfl); (case hg => rfl); (case hr => first | (go_simp; done) | (go_simp; rfl)); intro gb222 hg w5 hbox hb; have n0_ := Aside0.mk (below_step (by repeat (first | (with_reducible first | exact HB.out | apply below_alloc | apply pw_below_drewN | apply below_drew1) | exact HB.out)) hb); have n1_ := Aside0.mk (hbox); have n2_ := Aside0.mk ((by rw [hg]; exact (below_size (by repeat (first | (with_reducible first | exact HB.out | apply below_alloc | apply pw_below_drewN | apply below_drew1) | exact HB.out))) : w.heap.size ≤ gb222)); have n3_ := Aside0.mk ((by rw [hg]; exact (below_size (by repeat (first | (with_reducible first | exact HB.out | apply below_alloc | apply pw_below_drewN | apply below_drew1) | exact HB.out))) : w.heap.size ≤ gb222)); clear HB; have HB := n0_; have BK222 := n1_; have GW222 := n2_; have GE222 := n3_; clear n0_ n1_ n2_ n3_; clear hb hbox hg) | ((with_reducible refine gate_dst (N := 3) rfl ?_); refine box_event ?hg (N := 3) ?hd (cs := #[.string a1_0, .string a1_1]) (t := 69) ?hr ?_; (case hd => rfl); (case hg => rfl); (case hr => first | (go_simp; done) | (go_simp; rfl)); intro gb223 hg w6 hbox hb; have n0_ := Aside0.mk (blk_below (g := gb222) (o := .cells #[.string a0_0, .string a0_1] 69 (0, 0)) (by (with_reducible repeat (first | refine blk_drewN ?_ _ | refine blk_drew ?_ | refine blk_alloc ?_ _)); exact BK222.out) hb); have n1_ := Aside0.mk (below_step (by repeat (first | (with_reducible first | exact HB.out | apply below_alloc | apply pw_below_drewN | apply below_drew1 | refine below_set ?_ GE222.out) | exact HB.out)) hb); have n2_ := Aside0.mk (hbox); have n3_ := Aside0.mk ((by rw [hg]; exact (below_size (by repeat (first | (with_reducible first | exact HB.out | apply below_alloc | apply pw_below_drewN | apply below_drew1 | refine below_set ?_ GE222.out) | exact HB.out))) : w.heap.size ≤ gb223)); have n4_ := Aside0.mk ((by rw [hg]; exact (below_size (by repeat (first | (with_reducible first | exact HB.out | apply below_alloc | apply pw_below_drewN | apply below_drew1 | refine below_set ?_ GE222.out) | exact HB.out))) : w.heap.size ≤ gb223)); have n5_ := Aside0.mk ((by rw [hg]; exact Nat.ne_of_lt (blk_lt (g := gb222) (o := .cells #[.string a0_0, .string a0_1] 69 (0, 0)) (by (with_reducible repeat (first | refine blk_drewN ?_ _ | refine blk_drew ?_ | refine blk_alloc ?_ _)); exact BK222.out)) : gb222 ≠ gb223)); have n6_ := Aside0.mk ((by rw [hg]; exact Nat.ne_of_gt (blk_lt (g := gb222) (o := .cells #[.string a0_0, .string a0_1] 69 (0, 0)) (by (with_reducible repeat (first | refine blk_drewN ?_ _ | refine blk_drew ?_ | refine blk_alloc ?_ _)); exact BK222.out)) : gb223 ≠ gb222)); clear BK222; clear HB; have BK222 := n0_; have HB := n1_; have BK223 := n2_; have GW223 := n3_; have GE223 := n4_; have NB222_223 := n5_; have NB223_222 := n6_; clear n0_ n1_ n2_ n3_ n4_ n5_ n6_; clear hb hbox hg; have hnb7 := NB222_223.out; have hnc7 := NB223_222.out; have hcz8_0 : w6.cell? ⟨gb222, 0, none⟩ = some (.string a0_0) := (blk_cell BK222.out 0).trans rfl; have hcz8_1 : w6.cell? ⟨gb222, 1, none⟩ = some (.string a0_1) := (blk_cell BK222.out 1).trans rfl; have hfz8_0 := blk_frozen BK222.out 0; have hfz8_1 := blk_frozen BK222.out 1; have hcz9_0 : w6.cell? ⟨gb223, 0, none⟩ = some (.string a1_0) := (blk_cell BK223.out 0).trans rfl; have hcz9_1 : w6.cell? ⟨gb223, 1, none⟩ = some (.string a1_1) := (blk_cell BK223.out 1).trans rfl; have hfz9_0 := blk_frozen BK223.out 0; have hfz9_1 := blk_frozen BK223.out 1))
      go_ret
      exact ⟨by first | rfl | (simp [errW_none, errW_some] <;> rfl) | (simp [*, errW_none, errW_some] <;> rfl), by repeat (first | (with_reducible first | exact HB.out | apply below_alloc | apply pw_below_drewN | apply below_drew1 | refine below_set ?_ GE222.out | refine below_set ?_ GE223.out) | exact HB.out)⟩
    · rw [if_neg c4] at H
      have c4b0 : (a0_1.toList == a1_1.toList) = false := beq_eq_false_iff_ne.mpr c4
      have c4b1 : (a0_1.toList != a1_1.toList) = true := bne_iff_ne.mpr c4
      obtain rfl := Option.some.inj H
      go_enter Try.func39, Try.ntmps39
      go_wp2_with (first | ((with_reducible refine gate_dst (N := 2) rfl ?_); refine box_event ?hg (N := 2) ?hd (cs := #[.string a0_0, .string a0_1]) (t := 69) ?hr ?_; (case hd => rfl); (case hg => rfl); (case hr => first | (go_simp; done) | (go_simp; rfl)); intro gb222 hg w10 hbox hb; have n0_ := Aside0.mk (below_step (by repeat (first | (with_reducible first | exact HB.out | apply below_alloc | apply pw_below_drewN | apply below_drew1) | exact HB.out)) hb); have n1_ := Aside0.mk (hbox); have n2_ := Aside0.mk ((by rw [hg]; exact (below_size (by repeat (first | (with_reducible first | exact HB.out | apply below_alloc | apply pw_below_drewN | apply below_drew1) | exact HB.out))) : w.heap.size ≤ gb222)); have n3_ := Aside0.mk ((by rw [hg]; exact (below_size (by repeat (first | (with_reducible first | exact HB.out | apply below_alloc | apply pw_below_drewN | apply below_drew1) | exact HB.out))) : w.heap.size ≤ gb222)); clear HB; have HB := n0_; have BK222 := n1_; have GW222 := n2_; have GE222 := n3_; clear n0_ n1_ n2_ n3_; clear hb hbox hg) | ((with_reducible refine gate_dst (N := 3) rfl ?_); refine box_event ?hg (N := 3) ?hd (cs := #[.string a1_0, .string a1_1]) (t := 69) ?hr ?_; (case hd => rfl); (case hg => rfl); (case hr => first | (go_simp; done) | (go_simp; rfl)); intro gb223 hg w11 hbox hb; have n0_ := Aside0.mk (blk_below (g := gb222) (o := .cells #[.string a0_0, .string a0_1] 69 (0, 0)) (by (with_reducible repeat (first | refine blk_drewN ?_ _ | refine blk_drew ?_ | refine blk_alloc ?_ _)); exact BK222.out) hb); have n1_ := Aside0.mk (below_step (by repeat (first | (with_reducible first | exact HB.out | apply below_alloc | apply pw_below_drewN | apply below_drew1 | refine below_set ?_ GE222.out) | exact HB.out)) hb); have n2_ := Aside0.mk (hbox); have n3_ := Aside0.mk ((by rw [hg]; exact (below_size (by repeat (first | (with_reducible first | exact HB.out | apply below_alloc | apply pw_below_drewN | apply below_drew1 | refine below_set ?_ GE222.out) | exact HB.out))) : w.heap.size ≤ gb223)); have n4_ := Aside0.mk ((by rw [hg]; exact (below_size (by repeat (first | (with_reducible first | exact HB.out | apply below_alloc | apply pw_below_drewN | apply below_drew1 | refine below_set ?_ GE222.out) | exact HB.out))) : w.heap.size ≤ gb223)); have n5_ := Aside0.mk ((by rw [hg]; exact Nat.ne_of_lt (blk_lt (g := gb222) (o := .cells #[.string a0_0, .string a0_1] 69 (0, 0)) (by (with_reducible repeat (first | refine blk_drewN ?_ _ | refine blk_drew ?_ | refine blk_alloc ?_ _)); exact BK222.out)) : gb222 ≠ gb223)); have n6_ := Aside0.mk ((by rw [hg]; exact Nat.ne_of_gt (blk_lt (g := gb222) (o := .cells #[.string a0_0, .string a0_1] 69 (0, 0)) (by (with_reducible repeat (first | refine blk_drewN ?_ _ | refine blk_drew ?_ | refine blk_alloc ?_ _)); exact BK222.out)) : gb223 ≠ gb222)); clear BK222; clear HB; have BK222 := n0_; have HB := n1_; have BK223 := n2_; have GW223 := n3_; have GE223 := n4_; have NB222_223 := n5_; have NB223_222 := n6_; clear n0_ n1_ n2_ n3_ n4_ n5_ n6_; clear hb hbox hg; have hnb12 := NB222_223.out; have hnc12 := NB223_222.out; have hcz13_0 : w11.cell? ⟨gb222, 0, none⟩ = some (.string a0_0) := (blk_cell BK222.out 0).trans rfl; have hcz13_1 : w11.cell? ⟨gb222, 1, none⟩ = some (.string a0_1) := (blk_cell BK222.out 1).trans rfl; have hfz13_0 := blk_frozen BK222.out 0; have hfz13_1 := blk_frozen BK222.out 1; have hcz14_0 : w11.cell? ⟨gb223, 0, none⟩ = some (.string a1_0) := (blk_cell BK223.out 0).trans rfl; have hcz14_1 : w11.cell? ⟨gb223, 1, none⟩ = some (.string a1_1) := (blk_cell BK223.out 1).trans rfl; have hfz14_0 := blk_frozen BK223.out 0; have hfz14_1 := blk_frozen BK223.out 1))
      go_ret
      exact ⟨by first | rfl | (simp [errW_none, errW_some] <;> rfl) | (simp [*, errW_none, errW_some] <;> rfl), by repeat (first | (with_reducible first | exact HB.out | apply below_alloc | apply pw_below_drewN | apply below_drew1 | refine below_set ?_ GE222.out | refine below_set ?_ GE223.out) | exact HB.out)⟩
  · rw [if_neg c3] at H
    have c3b0 : (a0_0.toList == a1_0.toList) = false := beq_eq_false_iff_ne.mpr c3
    have c3b1 : (a0_0.toList != a1_0.toList) = true := bne_iff_ne.mpr c3
    obtain rfl := Option.some.inj H
    go_enter Try.func39, Try.ntmps39
    go_wp2_with (first | ((with_reducible refine gate_dst (N := 2) rfl ?_); refine box_event ?hg (N := 2) ?hd (cs := #[.string a0_0, .string a0_1]) (t := 69) ?hr ?_; (case hd => rfl); (case hg => rfl); (case hr => first | (go_simp; done) | (go_simp; rfl)); intro gb222 hg w15 hbox hb; have n0_ := Aside0.mk (below_step (by repeat (first | (with_reducible first | exact HB.out | apply below_alloc | apply pw_below_drewN | apply below_drew1) | exact HB.out)) hb); have n1_ := Aside0.mk (hbox); have n2_ := Aside0.mk ((by rw [hg]; exact (below_size (by repeat (first | (with_reducible first | exact HB.out | apply below_alloc | apply pw_below_drewN | apply below_drew1) | exact HB.out))) : w.heap.size ≤ gb222)); have n3_ := Aside0.mk ((by rw [hg]; exact (below_size (by repeat (first | (with_reducible first | exact HB.out | apply below_alloc | apply pw_below_drewN | apply below_drew1) | exact HB.out))) : w.heap.size ≤ gb222)); clear HB; have HB := n0_; have BK222 := n1_; have GW222 := n2_; have GE222 := n3_; clear n0_ n1_ n2_ n3_; clear hb hbox hg) | ((with_reducible refine gate_dst (N := 3) rfl ?_); refine box_event ?hg (N := 3) ?hd (cs := #[.string a1_0, .string a1_1]) (t := 69) ?hr ?_; (case hd => rfl); (case hg => rfl); (case hr => first | (go_simp; done) | (go_simp; rfl)); intro gb223 hg w16 hbox hb; have n0_ := Aside0.mk (blk_below (g := gb222) (o := .cells #[.string a0_0, .string a0_1] 69 (0, 0)) (by (with_reducible repeat (first | refine blk_drewN ?_ _ | refine blk_drew ?_ | refine blk_alloc ?_ _)); exact BK222.out) hb); have n1_ := Aside0.mk (below_step (by repeat (first | (with_reducible first | exact HB.out | apply below_alloc | apply pw_below_drewN | apply below_drew1 | refine below_set ?_ GE222.out) | exact HB.out)) hb); have n2_ := Aside0.mk (hbox); have n3_ := Aside0.mk ((by rw [hg]; exact (below_size (by repeat (first | (with_reducible first | exact HB.out | apply below_alloc | apply pw_below_drewN | apply below_drew1 | refine below_set ?_ GE222.out) | exact HB.out))) : w.heap.size ≤ gb223)); have n4_ := Aside0.mk ((by rw [hg]; exact (below_size (by repeat (first | (with_reducible first | exact HB.out | apply below_alloc | apply pw_below_drewN | apply below_drew1 | refine below_set ?_ GE222.out) | exact HB.out))) : w.heap.size ≤ gb223)); have n5_ := Aside0.mk ((by rw [hg]; exact Nat.ne_of_lt (blk_lt (g := gb222) (o := .cells #[.string a0_0, .string a0_1] 69 (0, 0)) (by (with_reducible repeat (first | refine blk_drewN ?_ _ | refine blk_drew ?_ | refine blk_alloc ?_ _)); exact BK222.out)) : gb222 ≠ gb223)); have n6_ := Aside0.mk ((by rw [hg]; exact Nat.ne_of_gt (blk_lt (g := gb222) (o := .cells #[.string a0_0, .string a0_1] 69 (0, 0)) (by (with_reducible repeat (first | refine blk_drewN ?_ _ | refine blk_drew ?_ | refine blk_alloc ?_ _)); exact BK222.out)) : gb223 ≠ gb222)); clear BK222; clear HB; have BK222 := n0_; have HB := n1_; have BK223 := n2_; have GW223 := n3_; have GE223 := n4_; have NB222_223 := n5_; have NB223_222 := n6_; clear n0_ n1_ n2_ n3_ n4_ n5_ n6_; clear hb hbox hg; have hnb17 := NB222_223.out; have hnc17 := NB223_222.out; have hcz18_0 : w16.cell? ⟨gb222, 0, none⟩ = some (.string a0_0) := (blk_cell BK222.out 0).trans rfl; have hcz18_1 : w16.cell? ⟨gb222, 1, none⟩ = some (.string a0_1) := (blk_cell BK222.out 1).trans rfl; have hfz18_0 := blk_frozen BK222.out 0; have hfz18_1 := blk_frozen BK222.out 1; have hcz19_0 : w16.cell? ⟨gb223, 0, none⟩ = some (.string a1_0) := (blk_cell BK223.out 0).trans rfl; have hcz19_1 : w16.cell? ⟨gb223, 1, none⟩ = some (.string a1_1) := (blk_cell BK223.out 1).trans rfl; have hfz19_0 := blk_frozen BK223.out 0; have hfz19_1 := blk_frozen BK223.out 1))
    go_ret
    exact ⟨by first | rfl | (simp [errW_none, errW_some] <;> rfl) | (simp [*, errW_none, errW_some] <;> rfl), by repeat (first | (with_reducible first | exact HB.out | apply below_alloc | apply pw_below_drewN | apply below_drew1 | refine below_set ?_ GE222.out | refine below_set ?_ GE223.out) | exact HB.out)⟩

end Go.Proofs.Ytgediinpdicekaa.PFnExactTextOf
