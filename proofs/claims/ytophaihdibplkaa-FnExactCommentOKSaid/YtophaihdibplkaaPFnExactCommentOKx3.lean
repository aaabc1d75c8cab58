/- By a program of this session, out of the kit's print and contracts made by hand: the machine side of a law; Lean checks it. No conditions. -/
import Derived.Test.YtophaihdibplkaaPFnExactCommentOKx0
namespace Go.Proofs.Ytophaihdibplkaa.PFnExactCommentOK
open Go.RowKit Go.Proofs.YtophaihdibplkaaW.PrintWords Go.Proofs.YtophaihdibplkaaW.PrintLast Go.Proofs.YtophaihdibplkaaW.PrintMore
attribute [local go_sem] max2_int min2_int max_two min_two max_three min_three max_four min_four   -- for this text's walks alone
set_option linter.unusedVariables false
set_option linter.unusedSimpArgs false

/-! ### strings_ContainsAny: function 110, by hand -/
/-- strings.IndexRune of a rune beyond ASCII in "<>": none. -/
theorem validRune_iff (r : Int) : Utf8.valid r = Lib.validRune r := by
  rw [validRune_eq]
  rfl
set_option maxHeartbeats 4000000 in
set_option maxRecDepth 1000000 in
theorem indexRune_high (c : Nat) (w : World) (h0 : 128 ≤ c) (h1 : c ≤ 2147483647) : Calls Try.prog 190 #[.string ⟨#[60, 62]⟩, .int .i32 c] w fun e w' => e = .returned (.int .i64 (-1)) ∧ Below w.heap.size w w' := by
  have z0 : decide ((0 : Int) ≤ (c : Int)) = true := decide_eq_true (by omega)
  have z1 : decide ((c : Int) < 128) = false := decide_eq_false (by omega)
  by_cases hE : c = 65533
  case pos =>
    subst hE
    go_enter Try.func190, Try.ntmps190
    go_wp2
    go_loopg [5, 6] 2 (fun gg _ _ wx => ∃ i : Nat, i + gg = 2 ∧ wx = w.iter ⟨#[60, 62]⟩ i)
    case atStart => exact ⟨0, by omega, rfl⟩
    case round =>
      obtain ⟨i, hig, rfl⟩ := hrel
      cases gk with
      | zero =>
        obtain rfl : i = 2 := by omega
        have hnx := fun ty => run_next_end (P := Try.prog) w ⟨#[60, 62]⟩ 2 ty (by decide)
        go_wp2
        go_ret
        exact ⟨rfl, below_alloc (Below.refl _ _) _⟩
      | succ g =>
        have hi : i = 0 ∨ i = 1 := by omega
        rcases hi with rfl | rfl
        · have hnx := fun ty => run_next_ascii (P := Try.prog) w ⟨#[60, 62]⟩ 0 ty (by decide) (by decide)
          go_wp2
          go_roundg g
          case measure => omega
          case rel => exact ⟨1, by omega, rfl⟩
        · have hnx := fun ty => run_next_ascii (P := Try.prog) w ⟨#[60, 62]⟩ 1 ty (by decide) (by decide)
          go_wp2
          go_roundg g
          case measure => omega
          case rel => exact ⟨2, by omega, rfl⟩
  case neg =>
    have z2 : ((c : Int) == 65533) = false := beq_eq_false_iff_ne.2 (by omega)
    have QV := Aside0.mk (fun W => Try.utf8_ValidRune (c : Int) W)
    cases hv : Lib.validRune (c : Int)
    case false =>
      rw [hv] at QV
      clear hv
      go_enter Try.func190, Try.ntmps190
      go_wp2_with (go_at_call 211; (with_reducible refine (QV.out _).mono ?_); rintro e w' ⟨rfl, hw⟩; rw [hw])
      go_ret
      exact ⟨rfl, Below.refl _ _⟩
    case true =>
      rw [hv] at QV
      obtain ⟨e1, e2, e3⟩ := encode_facts (c : Int) ((validRune_iff _).trans hv) (by omega)
      clear hv
      obtain ⟨u, hu⟩ : ∃ u, Utf8.encode (c : Int) = u := ⟨_, rfl⟩
      rw [hu] at e1 e2 e3
      have hcv : ∀ W : World, (convert 21 9 (.int .i32 (c : Int))).run Try.prog W = .ok (.string u) W := fun W => by rw [run_convert_int_string W 21 9 .i32 (c : Int) (by kernel_rfl) Try.underlying9, hu]
      clear hu
      by_cases h2 : u.size = 2
      · have e4 := e3 (by omega)
        have hb : 128 ≤ bt u 1 := by
          unfold bt
          rw [dif_pos (show (1 : Int).toNat < u.size by show 1 < u.size; omega)]
          have : u.size - 1 = (1 : Int).toNat := by rw [h2]; rfl
          simp only [this] at e4
          omega
        have q1 : ∀ h : 1 < u.size, ((u[1]'h).toNat : Int) = bt u 1 := bt_at u 1
        have q8 : ∀ h : 1 < (⟨#[60, 62]⟩ : ByteArray).size, (((⟨#[60, 62]⟩ : ByteArray)[1]'h).toNat : Int) = 62 := fun _ => rfl
        have q2 : ((u.size : Nat) : Int) = 2 := by omega
        have q3 : (62 : Int) ≠ bt u 1 := by omega
        have q4 : ((62 : Int) == bt u 1) = false := beq_eq_false_iff_ne.2 q3
        have q5 : ((62 : Int) != bt u 1) = true := bne_iff_ne.2 q3
        have q6 : (1 : Int) < (u.size : Int) := by omega
        have QI : ∀ W : World, Calls Try.prog 210 #[.string ByteArray.empty, .int .u8 (bt u 1)] W fun e w' => e = .returned (.int .i64 (-1)) ∧ Drawn0 W w' := fun W => (Try.strings_IndexByte ByteArray.empty (bt u 1) W).mono fun e w' ⟨he, hw⟩ => ⟨he, hw ▸ Drawn0.refl _⟩
        have q7 : ∀ W : World, (Instr.slice 9 (.string (⟨#[60, 62]⟩ : ByteArray)) (some (.int .i64 2)) none none).run Try.prog W = .ok (.string ByteArray.empty) W := fun W => by
          rw [run_slice_string_l (ht := Try.underlying9) (h0 := by decide) (h1 := by decide)]
          rfl
        go_enter Try.func190, Try.ntmps190
        go_wp2_with (first | (go_at_call 211; (with_reducible refine (QV.out _).mono ?_); rintro e w' ⟨rfl, hw⟩; rw [hw]))
        go_step3
        go_wp2
        go_loopg [9, 10, 11, 12] 0 (fun _ v9 _ _ _ wx => v9 = .int .i64 1 ∧ wx = w)
        case atStart => exact ⟨rfl, rfl⟩
        case round =>
          obtain ⟨rfl, rfl⟩ := hrel
          go_wp2
          go_step3
          go_wp2
          go_quiet (fail)
          go_wp2
          go_quiet (first | (go_at_call 210; exact Mach.quietD2 (QI _)))
          go_wp2
          rw [Exit.noGoto_ret]
          go_wp2
          rw [Exit.noGoto_ret]
          go_wp2
          go_ret
          exact ⟨rfl, pw_below_drewN (Below.refl _ _) _⟩
      · have q2 : decide (((u.size : Nat) : Int) - 1 < 2) = false := decide_eq_false (by omega)
        go_enter Try.func190, Try.ntmps190
        go_wp2_with (first | (go_at_call 211; (with_reducible refine (QV.out _).mono ?_); rintro e w' ⟨rfl, hw⟩; rw [hw]))
        go_step3
        go_wp2
        go_loopg [9, 10, 11, 12] 0 (fun _ v9 _ _ _ wx => v9 = .int .i64 (((u.size : Nat) : Int) - 1) ∧ wx = w)
        case atStart => exact ⟨rfl, rfl⟩
        case round =>
          obtain ⟨rfl, rfl⟩ := hrel
          go_wp2
          repeat rw [Exit.noGoto_ret]
          go_ret
          exact ⟨rfl, Below.refl _ _⟩
/-- Behind a byte beyond ASCII: what its rune takes in besides holds no ASCII byte. -/
theorem decode_skipG (s : ByteArray) (pos : Nat) (h : pos < s.size) (ha : 128 ≤ (s[pos]'h).toNat) : ∀ k, pos < k → k < pos + (Utf8.decode s pos).2 → 128 ≤ (s.get! k).toNat := by
  have hn : ¬ (s[pos]'h).toNat < 128 := by omega
  simp only [Utf8.decode, get_at s pos h, hn, if_false]
  intro k h1 h2
  revert h2
  repeat' split
  all_goals intro h2
  all_goals simp_all
  all_goals try omega
  · obtain rfl : k = pos + 1 := by omega
    omega
  · have hk2 : k = pos + 1 ∨ k = pos + 2 := by omega
    rcases hk2 with rfl | rfl <;> omega
  · have hk2 : k = pos + 1 ∨ k = pos + 2 ∨ k = pos + 3 := by omega
    rcases hk2 with rfl | rfl | rfl <;> omega
theorem decode_skip (s : ByteArray) (pos : Nat) (h : pos < s.size) (ha : 128 ≤ (s[pos]'h).toNat) (k : Nat) (h1 : pos < k) (h2 : k < pos + (Utf8.decode s pos).2) (hk : k < s.size) : 128 ≤ (s[k]'hk).toNat := by
  have hg : s.get! k = s[k]'hk := by
    simp [ByteArray.get!, getElem!_pos, hk]
    rfl
  rw [← hg]
  exact decode_skipG s pos h ha k h1 h2
theorem noAny_high {s : ByteArray} {i n : Nat} (h : Lib.NoAny s.data.toList [60, 62] i) (hs : ∀ k, i ≤ k → k < i + n → ∀ hk : k < s.size, 128 ≤ (s[k]'hk).toNat) : Lib.NoAny s.data.toList [60, 62] (i + n) := fun j b hj hb => by
  by_cases e : j < i
  · exact h j b e hb
  · have hl : j < s.size := by
      have := (List.getElem?_eq_some_iff.1 hb).1
      simpa using this
    have h2 := hs j (by omega) hj hl
    rw [Lib.data_getElem? s j hl] at hb
    obtain rfl := Option.some.inj hb
    have n1 : s[j] ≠ 60 := fun e => by rw [e] at h2; exact absurd h2 (by decide)
    have n2 : s[j] ≠ 62 := fun e => by rw [e] at h2; exact absurd h2 (by decide)
    simp [n1, n2]
set_option maxHeartbeats 8000000 in
set_option maxRecDepth 1000000 in
theorem indexAny_lt (s : ByteArray) (w : World) (hs : s.size ≤ 1048576) : Calls Try.prog 155 #[.string s, .string ⟨#[60, 62]⟩] w fun e w' => e = .returned (.int .i64 (Lib.indexAny s.data.toList [60, 62])) ∧ Below w.heap.size w w' := by
  by_cases h8 : 8 < s.size
  case pos =>
    have hi : (Try.prog.info? 168).map (fun i => (i.zero, i.size)) = some (some (.agg (Array.replicate 256 (.bool false))), 256) := by kernel_rfl
    refine (Any.strings_IndexAny_long Try.lays153 (zero_of_info hi).1 (zero_of_info hi).2 s ⟨#[60, 62]⟩ w (by decide) h8 (by omega) (by decide) (fun j b hb => ?_)).mono fun e w' ⟨h1, h2⟩ => ⟨h1, ?_⟩
    · have hm : b ∈ ([60, 62] : List UInt8) := List.mem_of_getElem? hb
      simp at hm
      rcases hm with rfl | rfl <;> decide
    · rw [h2]
      exact ((Below.refl _ _).alloc (Nat.le_refl _) _).alloc (by simp) _
  case neg =>
    have hn1 : (((⟨#[60, 62]⟩ : ByteArray).size : Int) == 1) = false := by decide
    have h8z : decide ((8 : Int) < (s.size : Int)) = false := decide_eq_false (by omega)
    have QU := Aside0.mk (fun W => Try.strings_shouldUseASCIISet (s.size : Int) W)
    rw [h8z] at QU
    obtain ⟨k0, hk0⟩ : ∃ k0, w.heap.size = k0 := ⟨_, rfl⟩
    have HK0 := Aside0.mk hk0
    go_enter Try.func155, Try.ntmps155
    go_wp2_with (go_at_call 191; (with_reducible refine (QU.out _).mono ?_); rintro e w' ⟨rfl, hw⟩; rw [hw])
    go_loopg [9, 10] s.size (fun gg _ _ wx => ∃ i : Nat, s.size ≤ i + gg ∧ Aside0 (wx.heap[k0]? = some (.stringIter s i)) ∧ Aside0 (Below w.heap.size w wx) ∧ Aside0 (Lib.NoAny s.data.toList [60, 62] i))
    case atStart => exact ⟨0, by omega, ⟨hk0 ▸ World.iter_heap w s 0⟩, ⟨below_alloc (Below.refl _ _) _⟩, ⟨Lib.NoAny.zero _ _⟩⟩
    case round =>
      obtain ⟨i, hig, HI, HB, HN⟩ := hrel
      by_cases hi : i < s.size
      case neg =>
        have hnx := fun ty => Lib.run_next_end_at (P := Try.prog) wr k0 s i ty HI.out hi
        go_wp2
        go_ret
        exact ⟨by rw [Lib.indexAny_none (fun j b hj hb => HN.out j b (by have := Lib.size_eq s; omega) hb)]; rfl, HB.out⟩
      case pos =>
        obtain ⟨g, rfl⟩ : ∃ g, gk = g + 1 := ⟨gk - 1, by omega⟩
        obtain ⟨x, hx⟩ : ∃ x : UInt8, s[i]'hi = x := ⟨_, rfl⟩
        have hxl : s.data.toList[i]? = some x := by rw [← hx]; exact Lib.data_getElem? s i hi
        by_cases hxa : x.toNat < 128
        case pos =>
          have hnx := fun ty => Lib.run_next_ascii_at (P := Try.prog) wr k0 s i ty HI.out hi (by rw [hx]; exact hxa)
          rw [hx] at hnx
          have hcon := Lib.contains_iff_indexByte [60, 62] x
          have hback : ((x.toNat : Int)).toNat.toUInt8 = x := by simp
          have QI := Aside0.mk (fun W => Try.strings_IndexRune_ascii ⟨#[60, 62]⟩ (x.toNat : Int) W (by omega) (by omega))
          rw [hback] at QI
          have HX := Aside0.mk hxl
          have HI2 := Aside0.mk (Lib.iterAt_heap wr k0 s i (i + 1) HI.out)
          have HB2 := Aside0.mk (Lib.below_iterAt HB.out (Nat.le_of_eq HK0.out) s (i + 1))
          clear hxl hx
          cases hin : ([60, 62] : List UInt8).contains x
          · rw [hin] at hcon
            have hlt : decide ((0 : Int) ≤ Lib.indexByte [60, 62] x) = false := hcon.symm
            clear hcon
            go_wp2_with (go_at_call 190; (with_reducible refine (QI.out _).mono ?_); rintro e w' ⟨rfl, hw⟩; rw [hw])
            go_roundg g
            case measure => omega
            case rel => exact ⟨i + 1, by omega, HI2, HB2, ⟨HN.out.succ HX.out hin⟩⟩
          · rw [hin] at hcon
            have hge : decide ((0 : Int) ≤ Lib.indexByte [60, 62] x) = true := hcon.symm
            clear hcon
            go_wp2_with (go_at_call 190; (with_reducible refine (QI.out _).mono ?_); rintro e w' ⟨rfl, hw⟩; rw [hw])
            go_ret
            exact ⟨by rw [Lib.indexAny_hit HN.out HX.out hin]; rfl, HB2.out⟩
        case neg =>
          have hnx := fun ty => Lib.run_next_any_at (P := Try.prog) wr k0 s i ty HI.out hi
          have hhi := decode_high s i hi (by rw [hx]; omega)
          have hle := decode_le s i
          have hsk := decode_skip s i hi (by rw [hx]; omega)
          have HN2 : Aside0 (Lib.NoAny s.data.toList [60, 62] (i + (Utf8.decode s i).2)) := ⟨noAny_high HN.out (fun k h1 h2 hk => by
            by_cases e : k = i
            · subst e; rw [hx]; omega
            · exact hsk k (by omega) h2 hk)⟩
          clear hsk hx hxl
          generalize Utf8.decode s i = p at *
          obtain ⟨c, wd⟩ := p
          have QI := Aside0.mk (fun W => indexRune_high c W hhi.1 hle)
          obtain ⟨_, hwd⟩ := hhi
          have HI2 := Aside0.mk (Lib.iterAt_heap wr k0 s i (i + wd) HI.out)
          have HB2 := Aside0.mk (Lib.below_iterAt HB.out (Nat.le_of_eq HK0.out) s (i + wd))
          clear hle
          go_wp2_with (go_at_call 190; (with_reducible refine (QI.out _).mono ?_); rintro e w' ⟨rfl, hb⟩; (have HI3 := Aside0.mk (blk_below HI2.out hb)); (have HB3 := Aside0.mk (below_step HB2.out hb)); clear hb)
          go_roundg g
          case measure => omega
          case rel => exact ⟨i + wd, by have : 1 ≤ wd := hwd; omega, HI3, HB3, HN2⟩
theorem containsAny_lt (s : ByteArray) (w : World) (hs : s.size ≤ 1048576) : Calls Try.prog 110 #[.string s, .string ⟨#[60, 62]⟩] w fun e w' => e = .returned (.bool (Lib.containsAny s.data.toList [60, 62])) ∧ Below w.heap.size w w' := by
  have Q := Aside0.mk (indexAny_lt s w hs)
  go_enter Try.func110, Try.ntmps110
  go_wp2_with (go_at_call 155; (with_reducible refine Q.out.mono ?_); rintro e w' ⟨rfl, hb⟩)
  go_ret
  exact ⟨rfl, hb⟩


end Go.Proofs.Ytophaihdibplkaa.PFnExactCommentOK
