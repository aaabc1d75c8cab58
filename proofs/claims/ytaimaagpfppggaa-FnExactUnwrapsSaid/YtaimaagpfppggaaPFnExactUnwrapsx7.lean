/- By a program of this session, out of the kit's print and contracts made by hand: the machine side of a law; Lean checks it. No conditions. -/
import Derived.Test.YtaimaagpfppggaaPFnExactUnwrapsx0
import Derived.Test.YtaimaagpfppggaaPFnExactUnwrapsx5
import Derived.Test.YtaimaagpfppggaaPFnExactUnwrapsx6
namespace Go.Proofs.Ytaimaagpfppggaa.PFnExactUnwraps
open Go.RowKit Go.Proofs.YtaimaagpfppggaaW.PrintWords Go.Proofs.YtaimaagpfppggaaW.PrintLast Go.Proofs.YtaimaagpfppggaaW.PrintMore
attribute [local go_sem] max2_int min2_int max_two min_two max_three min_three max_four min_four   -- for this text's walks alone
set_option linter.unusedVariables false
set_option linter.unusedSimpArgs false

/-! ### spec_l07Names: function 50, by hand -/
open Go.Proofs.Ytaimaagpfppggaa.Kit (small digit big pos_eq neg_eq tagB isTag nameB isName lowC lowS lowS_bytes handler wantJ wantJ_eq keepC badL badFrom badFrom_zero badFrom_full badFrom_nil badFrom_skip badFrom_take indexByte_any markB namesAt namesOK)
def spec_l07Names.f (l0 : List ByteArray) : Option Bool := if ∀ x ∈ l0, x.size ≤ 9223372036854775807 then some (namesOK l0) else none
theorem spec_l07Names.calls (A0 : Option Addr) (c0 : Nat) (l0 : List ByteArray) (r : Bool) (w : World) (hr0 : Kd.C Kd.string w A0 l0.length l0) (hc0 : l0.length ≤ c0) (h : spec_l07Names.f l0 = some r) :
    Calls Try.prog 50 #[.slice A0 l0.length c0] w fun e w' => e = .returned (.bool r) ∧ Drawn0 w w' := by
  unfold spec_l07Names.f at h
  obtain ⟨hsz, h⟩ := Option.ite_none_right_eq_some.mp h
  obtain rfl := Option.some.inj h
  have HS := Aside0.mk hsz
  have hn : l0.length ≤ 9223372036854775807 := hr0.2.1
  have HR := Aside0.mk hr0
  have HC := Aside0.mk hc0
  clear hr0 hc0 hsz
  by_cases hlen : l0.length ≤ 10
  · have hl1 : decide ((10 : Int) < (l0.length : Int)) = false := decide_eq_false (by omega)
    have hl2 : decide (10 < l0.length) = false := decide_eq_false (by omega)
    go_enter Try.func50, Try.ntmps50
    go_wp2
    go_loopg [3] l0.length (fun gg s3 wr => ∃ kk : Nat, kk ≤ l0.length ∧ l0.length - kk ≤ gg ∧ s3 = .int .i64 kk ∧ Aside0 (∀ j, j < kk → namesAt l0 j = true) ∧ Drawn0 w wr)
    case atStart => exact ⟨0, Nat.zero_le _, by omega, rfl, ⟨fun j hj => absurd hj (Nat.not_lt_zero _)⟩, Drawn0.refl _⟩
    case round =>
      obtain ⟨kk, hkk, hg, rfl, AA, ⟨m1, rfl⟩⟩ := hrel
      by_cases hlt : kk < l0.length
      · have hltz : (kk : Int) < (l0.length : Int) := by omega
        obtain ⟨ad, e, l1⟩ := Kd.at_string HR.out (kk : Int) (by omega) hltz
        cases e
        rw [Kit.rdOf_nat, Int.toNat_natCast] at l1
        have hs := HS.out (l0.getD kk ByteArray.empty) (by rw [List.getD_eq_getElem?_getD, List.getElem?_eq_getElem hlt]; exact List.getElem_mem hlt)
        obtain ⟨K, hK⟩ := ev_tag_spec _ hs
        have hK := hK K (Nat.le_refl _)
        have hat : namesAt l0 kk = (isTag (l0.getD kk ByteArray.empty) && !Kit.hasT (l0.take kk) (l0.getD kk ByteArray.empty)) := rfl
        obtain ⟨i0, hi, _, hz1, _⟩ := info_parts info9
        obtain ⟨hcut, hA, hC⟩ := print_take_of (P := Try.prog) Value.string (⟨#[]⟩ : ByteArray) 23 9 .i64 Try.underlying23 hi hz1 (some ad) c0 l0 (kk : Int) (by omega) (by omega) HC.out
        have HR1 := Aside0.mk (Kd.C_of_reads (h1 := fun _ => rfl) (hA _ (Kd.reads_of_C HR.out)))
        have HC1 := Aside0.mk hC
        have q1 := fun W => (spec_l01Tag.calls K (l0.getD kk ByteArray.empty) _ W hK)
        obtain ⟨K2, hK2⟩ := ev_l01Has (l0.take kk) (l0.getD kk ByteArray.empty) (by rw [List.length_take]; omega)
        have hK2 := hK2 K2 (Nat.le_refl _)
        rw [Int.toNat_natCast] at hcut HR1 HC1
        have q2 := fun W (h : Kd.C Kd.string W (some ad) (l0.take kk).length (l0.take kk)) => (spec_l01Has.calls K2 (some ad) c0 (l0.take kk) (l0.getD kk ByteArray.empty) _ W h HC1.out hK2)
        clear hK hK2 hC hA
        generalize l0.getD kk ByteArray.empty = y at *
        generalize l0.take kk = T at *
        cases ht : isTag y with
        | false =>
          rw [ht] at q1 hat
          rw [Bool.false_and] at hat
          clear ht q2
          have hall : namesOK l0 = false := by
            unfold namesOK
            rw [Bool.and_eq_false_iff]
            refine .inr (Bool.eq_false_iff.2 fun h => ?_)
            have := (Kit.allB_iff _ _ _).1 h kk (Nat.zero_le _) hlt
            rw [hat] at this
            cases this
          have HALL := Aside0.mk hall
          clear hall hat
          go_wp2
          go_quiet (first | (go_at_call 31; exact Mach.quietD2 (q1 _)))
          go_wp2
          go_ret
          exact ⟨by rw [HALL.out]; rfl, (by first | exact Drawn0.refl _ | exact (Drawn0.refl _).step _ | exact ((Drawn0.refl _).step _).step _ | exact ⟨⟨_, rfl⟩⟩)⟩
        | true =>
          rw [ht] at q1 hat
          rw [Bool.true_and] at hat
          clear ht
          cases hh : Kit.hasT T y with
          | true =>
            rw [hh] at q2 hat
            have q3 := fun m => q2 (w.drewN m) (Kd.C_drewN HR1.out m)
            clear q2
            have hall : namesOK l0 = false := by
              unfold namesOK
              rw [Bool.and_eq_false_iff]
              refine .inr (Bool.eq_false_iff.2 fun h => ?_)
              have := (Kit.allB_iff _ _ _).1 h kk (Nat.zero_le _) hlt
              rw [hat] at this
              cases this
            have HALL := Aside0.mk hall
            clear hall hat hh
            go_wp2
            go_quiet (first | (go_at_call 31; exact Mach.quietD2 (q1 _)) | (go_at_call 45; exact Mach.quietD2 (q3 _)))
            go_wp2
            go_ret
            exact ⟨by rw [HALL.out]; rfl, (by first | exact Drawn0.refl _ | exact (Drawn0.refl _).step _ | exact ((Drawn0.refl _).step _).step _ | exact ⟨⟨_, rfl⟩⟩)⟩
          | false =>
            rw [hh] at q2 hat
            have q3 := fun m => q2 (w.drewN m) (Kd.C_drewN HR1.out m)
            clear q2
            have HAT := Aside0.mk hat
            clear hat hh
            go_wp2
            go_quiet (first | (go_at_call 31; exact Mach.quietD2 (q1 _)) | (go_at_call 45; exact Mach.quietD2 (q3 _)))
            go_wp2
            go_roundg (l0.length - (kk + 1))
            case measure => omega
            case rel =>
              refine ⟨kk + 1, by omega, by omega, by go_num, ⟨fun j hj => ?_⟩, (by first | exact Drawn0.refl _ | exact (Drawn0.refl _).step _ | exact ((Drawn0.refl _).step _).step _ | exact ⟨⟨_, rfl⟩⟩)⟩
              by_cases e : j = kk
              · subst e; exact HAT.out
              · exact AA.out j (by omega)
      · have hltz : ¬ (kk : Int) < (l0.length : Int) := by omega
        have hke : kk = l0.length := by omega
        have hall : namesOK l0 = true := by
          unfold namesOK
          rw [decide_eq_true hlen, Bool.true_and]
          exact (Kit.allB_iff _ _ _).2 fun j _ hj => AA.out j (by omega)
        have HALL := Aside0.mk hall
        clear hall hke
        go_wp2
        go_ret
        exact ⟨by rw [HALL.out]; rfl, (by first | exact Drawn0.refl _ | exact (Drawn0.refl _).step _ | exact ((Drawn0.refl _).step _).step _ | exact ⟨⟨_, rfl⟩⟩)⟩
  · have hl1 : decide ((10 : Int) < (l0.length : Int)) = true := decide_eq_true (by omega)
    have hl2 : decide (10 < l0.length) = true := decide_eq_true (by omega)
    have hall : namesOK l0 = false := by
      unfold namesOK
      rw [decide_eq_false hlen, Bool.false_and]
    have HALL := Aside0.mk hall
    clear hall
    go_enter Try.func50, Try.ntmps50
    go_wp2
    go_ret
    exact ⟨by rw [HALL.out]; rfl, (by first | exact Drawn0.refl _ | exact (Drawn0.refl _).step _ | exact ((Drawn0.refl _).step _).step _ | exact ⟨⟨_, rfl⟩⟩)⟩


/-! ### spec_l07Rule: function 67 -/
def spec_l07Rule.f (k : Nat) (a0_0 : Int) (a0_1 : ByteArray) (l0_2 : List ByteArray) : Option (Bool) := (spec_l01In.f a0_0 0 2).bind fun t113 => (if t113 = true then ((spec_l01Tag.f k a0_1).bind fun t114 => (if t114 = true then ((spec_l07Names.f l0_2).bind fun t115 => (some t115)) else (some false))) else (some false))
theorem spec_l07Rule.mono : ∀ a0 a1 a2 k, LeO (spec_l07Rule.f k a0 a1 a2) (spec_l07Rule.f (k + 1) a0 a1 a2) := by
  intro a0 a1 a2 k
  unfold spec_l07Rule.f
  repeat' first
      | (with_reducible exact spec_l01Tag.mono _ _)
      | (with_reducible exact LeO.refl _)
      | (with_reducible exact LeO.none _)
      | (with_reducible refine LeO.ite ?_ ?_)
      | (with_reducible refine LeO.bind ?_ (fun _ => ?_))
      | exact spec_l01Tag.mono _ _
      | exact LeO.none _
      | refine LeO.ite ?_ ?_
      | refine LeO.bind ?_ (fun _ => ?_)
set_option maxHeartbeats 8000000 in
set_option maxRecDepth 100000 in
theorem spec_l07Rule.calls (k : Nat) (a0_0 : Int) (a0_1 : ByteArray) (A0_2 : Option Addr) (c0_2 : Nat) (l0_2 : List ByteArray) (r : Bool) (w : World) (hr0_2 : Kd.C Kd.string w A0_2 l0_2.length l0_2) (hc0_2 : l0_2.length ≤ c0_2) (h : spec_l07Rule.f k a0_0 a0_1 l0_2 = some r) :
    Calls Try.prog 67 #[.agg #[.int .i64 a0_0, .string a0_1, .slice A0_2 l0_2.length c0_2]] w fun e w' => e = .returned (.bool r) ∧ Below w.heap.size w w' := by
  have hu63 := Try.underlying63
  have HR0_2 := Aside0.mk hr0_2
  have HC0_2 := Aside0.mk hc0_2
  clear hr0_2 hc0_2
  have HB := Aside0.mk (Below.refl w.heap.size w)
  have H : ((spec_l01In.f a0_0 0 2).bind fun t113 => (if t113 = true then ((spec_l01Tag.f k a0_1).bind fun t114 => (if t114 = true then ((spec_l07Names.f l0_2).bind fun t115 => (some t115)) else (some false))) else (some false))) = some r := h
  clear h
  replace H := Option.bind_eq_some_iff.mp H
  obtain ⟨t113, A20, H⟩ := H
  replace H : (if t113 = true then ((spec_l01Tag.f k a0_1).bind fun t114 => (if t114 = true then ((spec_l07Names.f l0_2).bind fun t115 => (some t115)) else (some false))) else (some false)) = some r := H
  have A2 := Aside0.mk A20
  clear A20
  by_cases c3 : t113 = true
  · subst c3
    have H1 : ((spec_l01Tag.f k a0_1).bind fun t114 => (if t114 = true then ((spec_l07Names.f l0_2).bind fun t115 => (some t115)) else (some false))) = some r := by rw [if_pos rfl] at H; exact H
    clear H
    have H := H1
    clear H1
    replace H := Option.bind_eq_some_iff.mp H
    obtain ⟨t114, A40, H⟩ := H
    replace H : (if t114 = true then ((spec_l07Names.f l0_2).bind fun t115 => (some t115)) else (some false)) = some r := H
    have A4 := Aside0.mk A40
    clear A40
    by_cases c5 : t114 = true
    · subst c5
      have H1 : ((spec_l07Names.f l0_2).bind fun t115 => (some t115)) = some r := by rw [if_pos rfl] at H; exact H
      clear H
      have H := H1
      clear H1
      replace H := Option.bind_eq_some_iff.mp H
      obtain ⟨t115, A60, H⟩ := H
      replace H : (some t115) = some r := H
      have A6 := Aside0.mk A60
      clear A60
      obtain rfl := Option.some.inj H
      go_enter Try.func67, Try.ntmps67
      go_wp2_with (first | ((with_reducible refine gate_dst (N := 1) rfl ?_); refine box_event ?hg (N := 1) ?hd (cs := #[.int .i64 a0_0, .string a0_1, .slice A0_2 l0_2.length c0_2]) (t := 63) ?hr ?_; (case hd => rfl); (case hg => rfl); (case hr => first | (go_simp; done) | (go_simp; rfl)); intro gb112 hg w7 hbox hb; have n0_ := Aside0.mk (below_step (by repeat (first | (with_reducible first | exact HB.out | apply below_alloc | apply pw_below_drewN | apply below_drew1) | exact HB.out)) hb); have n1_ := Aside0.mk (hbox); have n2_ := Aside0.mk ((by rw [hg]; exact (below_size (by repeat (first | (with_reducible first | exact HB.out | apply below_alloc | apply pw_below_drewN | apply below_drew1) | exact HB.out))) : w.heap.size ≤ gb112)); have n3_ := Aside0.mk ((by rw [hg]; exact (below_size (by repeat (first | (with_reducible first | exact HB.out | apply below_alloc | apply pw_below_drewN | apply below_drew1) | exact HB.out))) : w.heap.size ≤ gb112)); clear HB; have HB := n0_; have BK112 := n1_; have GW112 := n2_; have GE112 := n3_; clear n0_ n1_ n2_ n3_; clear hb hbox hg; have hcz8_0 : w7.cell? ⟨gb112, 0, none⟩ = some (.int .i64 a0_0) := (blk_cell BK112.out 0).trans rfl; have hcz8_1 : w7.cell? ⟨gb112, 1, none⟩ = some (.string a0_1) := (blk_cell BK112.out 1).trans rfl; have hcz8_2 : w7.cell? ⟨gb112, 2, none⟩ = some (.slice A0_2 l0_2.length c0_2) := (blk_cell BK112.out 2).trans rfl; have hfz8_0 := blk_frozen BK112.out 0; have hfz8_1 := blk_frozen BK112.out 1; have hfz8_2 := blk_frozen BK112.out 2) | ((with_reducible refine gate_callee (f := 30) rfl ?_); refine goesL_ (some 5) rfl rfl Try.func30 (by kernel_rfl) rfl #[.int .i64 a0_0, .int .i64 0, .int .i64 2] rfl (by (try simp only [List.map_toArray, List.map_cons, List.map_nil]); first | done | rfl | (simp only [List.length_drop, List.length_take]; rfl)) ?_; (with_reducible refine (spec_l01In.calls a0_0 0 2 true _ A2.out).mono ?_); rintro e w' ⟨rfl, ⟨nd, rfl⟩⟩; refine ⟨_, rfl, ?_⟩) | (go_at_call 31; (with_reducible refine (spec_l01Tag.calls k a0_1 true _ A4.out).mono ?_); rintro e w' ⟨rfl, ⟨nd, rfl⟩⟩) | (go_at_call 50; (with_reducible refine (spec_l07Names.calls _ _ l0_2 t115 _ ?side1 ?side2 A6.out).mono ?_); (case side1 => repeat (first | exact (Kd.C_below HR0_2.out (by repeat (first | (with_reducible first | exact HB.out | apply below_alloc | apply pw_below_drewN | apply below_drew1 | refine below_set ?_ GE112.out) | exact HB.out))) | (with_reducible refine Kd.C_alloc ?_ _) | (with_reducible refine Kd.C_drewN ?_ _) | (with_reducible refine Kd.C_drew ?_))); (case side2 => exact HC0_2.out); rintro e w' ⟨rfl, ⟨nd, rfl⟩⟩))
      go_ret
      exact ⟨by first | rfl | (simp [errW_none, errW_some] <;> rfl) | (simp [*, errW_none, errW_some] <;> rfl), by repeat (first | (with_reducible first | exact HB.out | apply below_alloc | apply pw_below_drewN | apply below_drew1 | refine below_set ?_ GE112.out) | exact HB.out)⟩
    · replace c5 := Bool.eq_false_iff.mpr c5
      subst c5
      have H1 : (some false) = some r := by rw [if_neg (show ¬ (false = true) by decide)] at H; exact H
      clear H
      have H := H1
      clear H1
      obtain rfl := Option.some.inj H
      go_enter Try.func67, Try.ntmps67
      go_wp2_with (first | ((with_reducible refine gate_dst (N := 1) rfl ?_); refine box_event ?hg (N := 1) ?hd (cs := #[.int .i64 a0_0, .string a0_1, .slice A0_2 l0_2.length c0_2]) (t := 63) ?hr ?_; (case hd => rfl); (case hg => rfl); (case hr => first | (go_simp; done) | (go_simp; rfl)); intro gb112 hg w9 hbox hb; have n0_ := Aside0.mk (below_step (by repeat (first | (with_reducible first | exact HB.out | apply below_alloc | apply pw_below_drewN | apply below_drew1) | exact HB.out)) hb); have n1_ := Aside0.mk (hbox); have n2_ := Aside0.mk ((by rw [hg]; exact (below_size (by repeat (first | (with_reducible first | exact HB.out | apply below_alloc | apply pw_below_drewN | apply below_drew1) | exact HB.out))) : w.heap.size ≤ gb112)); have n3_ := Aside0.mk ((by rw [hg]; exact (below_size (by repeat (first | (with_reducible first | exact HB.out | apply below_alloc | apply pw_below_drewN | apply below_drew1) | exact HB.out))) : w.heap.size ≤ gb112)); clear HB; have HB := n0_; have BK112 := n1_; have GW112 := n2_; have GE112 := n3_; clear n0_ n1_ n2_ n3_; clear hb hbox hg; have hcz10_0 : w9.cell? ⟨gb112, 0, none⟩ = some (.int .i64 a0_0) := (blk_cell BK112.out 0).trans rfl; have hcz10_1 : w9.cell? ⟨gb112, 1, none⟩ = some (.string a0_1) := (blk_cell BK112.out 1).trans rfl; have hcz10_2 : w9.cell? ⟨gb112, 2, none⟩ = some (.slice A0_2 l0_2.length c0_2) := (blk_cell BK112.out 2).trans rfl; have hfz10_0 := blk_frozen BK112.out 0; have hfz10_1 := blk_frozen BK112.out 1; have hfz10_2 := blk_frozen BK112.out 2) | ((with_reducible refine gate_callee (f := 30) rfl ?_); refine goesL_ (some 5) rfl rfl Try.func30 (by kernel_rfl) rfl #[.int .i64 a0_0, .int .i64 0, .int .i64 2] rfl (by (try simp only [List.map_toArray, List.map_cons, List.map_nil]); first | done | rfl | (simp only [List.length_drop, List.length_take]; rfl)) ?_; (with_reducible refine (spec_l01In.calls a0_0 0 2 true _ A2.out).mono ?_); rintro e w' ⟨rfl, ⟨nd, rfl⟩⟩; refine ⟨_, rfl, ?_⟩) | (go_at_call 31; (with_reducible refine (spec_l01Tag.calls k a0_1 false _ A4.out).mono ?_); rintro e w' ⟨rfl, ⟨nd, rfl⟩⟩))
      go_ret
      exact ⟨by first | rfl | (simp [errW_none, errW_some] <;> rfl) | (simp [*, errW_none, errW_some] <;> rfl), by repeat (first | (with_reducible first | exact HB.out | apply below_alloc | apply pw_below_drewN | apply below_drew1 | refine below_set ?_ GE112.out) | exact HB.out)⟩
  · replace c3 := Bool.eq_false_iff.mpr c3
    subst c3
    have H1 : (some false) = some r := by rw [if_neg (show ¬ (false = true) by decide)] at H; exact H
    clear H
    have H := H1
    clear H1
    obtain rfl := Option.some.inj H
    go_enter Try.func67, Try.ntmps67
    go_wp2_with (first | ((with_reducible refine gate_dst (N := 1) rfl ?_); refine box_event ?hg (N := 1) ?hd (cs := #[.int .i64 a0_0, .string a0_1, .slice A0_2 l0_2.length c0_2]) (t := 63) ?hr ?_; (case hd => rfl); (case hg => rfl); (case hr => first | (go_simp; done) | (go_simp; rfl)); intro gb112 hg w11 hbox hb; have n0_ := Aside0.mk (below_step (by repeat (first | (with_reducible first | exact HB.out | apply below_alloc | apply pw_below_drewN | apply below_drew1) | exact HB.out)) hb); have n1_ := Aside0.mk (hbox); have n2_ := Aside0.mk ((by rw [hg]; exact (below_size (by repeat (first | (with_reducible first | exact HB.out | apply below_alloc | apply pw_below_drewN | apply below_drew1) | exact HB.out))) : w.heap.size ≤ gb112)); have n3_ := Aside0.mk ((by rw [hg]; exact (below_size (by repeat (first | (with_reducible first | exact HB.out | apply below_alloc | apply pw_below_drewN | apply below_drew1) | exact HB.out))) : w.heap.size ≤ gb112)); clear HB; have HB := n0_; have BK112 := n1_; have GW112 := n2_; have GE112 := n3_; clear n0_ n1_ n2_ n3_; clear hb hbox hg; have hcz12_0 : w11.cell? ⟨gb112, 0, none⟩ = some (.int .i64 a0_0) := (blk_cell BK112.out 0).trans rfl; have hcz12_1 : w11.cell? ⟨gb112, 1, none⟩ = some (.string a0_1) := (blk_cell BK112.out 1).trans rfl; have hcz12_2 : w11.cell? ⟨gb112, 2, none⟩ = some (.slice A0_2 l0_2.length c0_2) := (blk_cell BK112.out 2).trans rfl; have hfz12_0 := blk_frozen BK112.out 0; have hfz12_1 := blk_frozen BK112.out 1; have hfz12_2 := blk_frozen BK112.out 2) | ((with_reducible refine gate_callee (f := 30) rfl ?_); refine goesL_ (some 5) rfl rfl Try.func30 (by kernel_rfl) rfl #[.int .i64 a0_0, .int .i64 0, .int .i64 2] rfl (by (try simp only [List.map_toArray, List.map_cons, List.map_nil]); first | done | rfl | (simp only [List.length_drop, List.length_take]; rfl)) ?_; (with_reducible refine (spec_l01In.calls a0_0 0 2 false _ A2.out).mono ?_); rintro e w' ⟨rfl, ⟨nd, rfl⟩⟩; refine ⟨_, rfl, ?_⟩))
    go_ret
    exact ⟨by first | rfl | (simp [errW_none, errW_some] <;> rfl) | (simp [*, errW_none, errW_some] <;> rfl), by repeat (first | (with_reducible first | exact HB.out | apply below_alloc | apply pw_below_drewN | apply below_drew1 | refine below_set ?_ GE112.out) | exact HB.out)⟩

end Go.Proofs.Ytaimaagpfppggaa.PFnExactUnwraps
