/- The pure statement of FnExactUnescape: for every text both functions tell the same text. No conditions. -/
import Derived.Test.YtggjdkiheclneaaDoorKit
import Derived.Test.YtggjdkiheclneaaDoorPFnExactUnescapex
namespace Go.Proofs.YtggjdkiheclneaaDoor.Pure.LUnescape
open Go.RowKit Go.Proofs.YtggjdkiheclneaaDoor.PFnExactUnescape Go.Proofs.YtggjdkiheclneaaDoorW.PrintWords
theorem isLong1 (a : ByteArray) : impl_isLong.f [a] = some (decide (65536 < (a.size : Int))) := by
  unfold impl_isLong.f
  rw [if_pos (by simp)]
  simp
/- A text with the bytes that escapes stand for. -/
theorem byte_at3 (s : ByteArray) (k : Nat) (hk : k < s.size) : ∃ b, s.data.toList[k]? = some b ∧ bt s (k : Int) = (b.toNat : Int) := by
  have h : k < s.data.toList.length := by rw [data_length]; exact hk
  refine ⟨s.data.toList[k], List.getElem?_eq_getElem h, ?_⟩
  rw [← bt_at s (k : Int) (by simpa using hk)]
  rfl
theorem drop_at {l : List UInt8} {i : Nat} {b : UInt8} (h : l[i]? = some b) : l.drop i = b :: l.drop (i + 1) := by
  obtain ⟨hl, he⟩ := List.getElem?_eq_some_iff.1 h
  rw [List.drop_eq_getElem_cons hl, he]
theorem index_at (c : UInt8) : ∀ (l : List UInt8) (m : Nat), l[m]? = some c → (∀ j, j < m → l[j]? ≠ some c) → Lib.index l [c] = (m : Int)
  | [], m, h, _ => by simp at h
  | b :: l, 0, h, _ => by
    have : b = c := by simpa using h
    subst this
    unfold Lib.index
    rw [if_pos (by simp)]
    rfl
  | b :: l, m + 1, h, hn => by
    have hb : ¬ b = c := fun e => hn 0 (by omega) (by simp [e])
    have ih := index_at c l m (by simpa using h) (fun j hj => by have := hn (j + 1) (by omega); simpa using this)
    unfold Lib.index
    rw [if_neg (by simpa using fun e : c = b => hb e.symm), ih, if_neg (by simp)]
    omega
theorem index_not (c : UInt8) : ∀ l : List UInt8, (∀ j, j < l.length → l[j]? ≠ some c) → Lib.index l [c] = -1
  | [], _ => rfl
  | b :: l, hn => by
    have hb : ¬ b = c := fun e => hn 0 (by simp) (by simp [e])
    have ih := index_not c l (fun j hj => by have := hn (j + 1) (by simpa using hj); simpa using this)
    unfold Lib.index
    rw [if_neg (by simpa using fun e : c = b => hb e.symm), ih, if_pos (by rfl)]
theorem cut_at (c : UInt8) (l : List UInt8) (m : Nat) (h : l[m]? = some c) (hn : ∀ j, j < m → l[j]? ≠ some c) : (Lib.cut l [c]).1 = l.take m ∧ (Lib.cut l [c]).2.2 = true := by
  unfold Lib.cut
  rw [index_at c l m h hn, if_pos (by omega)]
  exact ⟨by rw [Int.toNat_natCast], rfl⟩
theorem cut_not (c : UInt8) (l : List UInt8) (hn : ∀ j, j < l.length → l[j]? ≠ some c) : (Lib.cut l [c]).2.2 = false := by
  unfold Lib.cut
  rw [index_not c l hn, if_neg (by decide)]
/-- The number's loop. -/
theorem ev_digits (s : ByteArray) (hs : s.size ≤ 4) (sg : Int) (hg : sg = 1 ∨ sg = -1) : Ev (fun k => spec_l00Number.l0 k s sg 0 0) (match Lib.decFrom 0 s.data.toList with | some n => (sg * (n : Int), true) | none => (0, false)) := by
  have key : ∀ m, m ≤ s.size → ∀ a : Nat, a < 10 ^ m → Ev (fun k => spec_l00Number.l0 k s sg (a : Int) (m : Int)) (match Lib.decFrom a (s.data.toList.drop m) with | some n => (sg * (n : Int), true) | none => (0, false)) := by
    refine Kit.down ?_ ?_
    · intro a ha
      have h9 : 10 ^ s.size ≤ 10 ^ 4 := Nat.pow_le_pow_right (by omega) hs
      rw [List.drop_eq_nil_of_le (by rw [data_length]; exact Nat.le_refl _)]
      refine Ev.step (fun k => rfl) (Kit.ev_neg (by omega) (Kit.ev_const ?_))
      have : wrap64 (sg * (a : Int)) = sg * (a : Int) := by rcases hg with rfl | rfl <;> exact Kit.wrap_of (by omega) (by omega)
      rw [this]
      rfl
    · intro m hm ih a ha
      have h9 : 10 ^ m ≤ 10 ^ 4 := Nat.pow_le_pow_right (by omega) (by omega)
      obtain ⟨b, hb, hbt⟩ := byte_at3 s m hm
      have hb9 := b.toNat_lt
      have hw : wrap64 ((m : Int) + 1) = ((m + 1 : Nat) : Int) := Kit.wrap_nat hm (by omega)
      rw [drop_at hb, Lib.decFrom]
      refine Ev.step (fun k => rfl) (Kit.ev_pos (by omega) (Kit.ev_pos (by omega) ?_))
      rw [hbt, hw]
      refine Kit.ev_if (fun h1 => ?_) (fun h1 => Kit.ev_if (fun h2 => ?_) (fun h2 => ?_))
      · have : Lib.digitVal b = none := by unfold Lib.digitVal; rw [if_neg (by omega)]
        rw [this]
        exact Ev.now _
      · have : Lib.digitVal b = none := by unfold Lib.digitVal; rw [if_neg (by omega)]
        rw [this]
        exact Ev.now _
      · have : Lib.digitVal b = some (b.toNat - 48) := by unfold Lib.digitVal; rw [if_pos (by omega)]
        rw [this]
        have e : wrap64 (wrap64 (wrap64 ((a : Int) * 10) + wrap64 (b.toNat : Int)) - 48) = ((a * 10 + (b.toNat - 48) : Nat) : Int) := by
          rw [Kit.wrap_of (i := (a : Int) * 10) (by omega) (by omega), Kit.wrap_of (i := (b.toNat : Int)) (by omega) (by omega), Kit.wrap_of (i := (a : Int) * 10 + (b.toNat : Int)) (by omega) (by omega), Kit.wrap_of (by omega) (by omega)]
          omega
        rw [e]
        exact ih _ (by rw [Nat.pow_succ]; omega)
  exact key 0 (Nat.zero_le _) 0 (by decide)
/-- What the reference's number tells, as far as escapes ask. -/
theorem ev_number (s : ByteArray) (hs : s.size ≤ 4) : ∃ p : Int × Bool, Ev (fun k => spec_l00Number.f k s) p ∧ (if p.2 = true ∧ 1 ≤ p.1 ∧ p.1 ≤ 126 then some p.1.toNat else none) = numE s.data.toList := by
  rw [← numS_numE]
  have hz : s.data.toList.length = s.size := data_length s
  have hj0 : ∀ (x : ByteArray) (g : Int) (b : Bool) (k : Nat), spec_l00Number.j0 (k + 1) x g b = if b = true then (if 1 ≤ (x.size : Int) then (spec_l00Number.j1 k (x.extract 1 x.size) (-1)) else (none)) else (spec_l00Number.j1 k x g) := fun x g b k => by rw [spec_l00Number.j0]
  have hj2 : ∀ (x : ByteArray) (g : Int) (b : Bool) (k : Nat), spec_l00Number.j2 (k + 1) x g b = if b = true then (some (0, false)) else (spec_l00Number.l0 k x g 0 0) := fun x g b k => by rw [spec_l00Number.j2]
  have bad : ∀ (x : ByteArray) (g : Int), Ev (fun k => spec_l00Number.j2 k x g true) (0, false) := fun x g => Ev.step (hj2 x g true) (Kit.ev_pos rfl (Ev.now _))
  unfold spec_l00Number.f
  by_cases h0 : s.size = 0
  · refine ⟨(0, false), ?_, ?_⟩
    · exact Kit.ev_neg (by omega) (Ev.step (hj0 s 1 false) (Kit.ev_neg Bool.false_ne_true (Ev.step (fun k => rfl) (Kit.ev_pos (by omega) (bad s 1)))))
    · have : s.data.toList = [] := List.length_eq_zero_iff.1 (by omega)
      rw [this]
      rfl
  · obtain ⟨b, hb, hbt⟩ := byte_at3 s 0 (by omega)
    have hbt : bt s 0 = (b.toNat : Int) := hbt
    have hl : s.data.toList = b :: s.data.toList.drop 1 := by have := drop_at hb; rwa [List.drop_zero] at this
    by_cases h45 : b = 45
    · have hN : numS s.data.toList = none := by
        unfold numS
        split
        · rfl
        · rw [hl, h45]
          rfl
      rw [hN]
      have hneg : ((bt s 0) == 45) = true := by rw [hbt, h45]; rfl
      have hx : (s.extract 1 s.size).data.toList = s.data.toList.drop 1 := by rw [ByteArray.data_extract, Array.toList_extract, List.extract_eq_take_drop, List.take_of_length_le (by rw [List.length_drop]; omega)]
      have hxs : (s.extract 1 s.size).size = s.size - 1 := by rw [ByteArray.size_extract]; omega
      obtain ⟨x, hgx⟩ : ∃ x, s.extract 1 s.size = x := ⟨_, rfl⟩
      rw [hgx] at hx hxs
      have hp : ∀ p : Int × Bool, Ev (fun k => spec_l00Number.j1 k x (-1)) p → Ev (fun k => if (s.size : Int) > 0 then (if 0 < (s.size : Int) then (spec_l00Number.j0 k s 1 ((bt s 0) == 45)) else (none)) else (spec_l00Number.j0 k s 1 false)) p := by
        intro p h
        rw [hneg]
        exact Kit.ev_pos (by omega) (Kit.ev_pos (by omega) (Ev.step (hj0 s 1 true) (Kit.ev_pos rfl (Kit.ev_pos (by omega) (by rw [hgx]; exact h)))))
      by_cases hx0 : x.size = 0
      · exact ⟨(0, false), hp _ (Ev.step (fun k => rfl) (Kit.ev_pos (by omega) (bad x _))), rfl⟩
      · by_cases h48 : bt x 0 = 48
        · refine ⟨(0, false), hp _ (Ev.step (fun k => rfl) (Kit.ev_neg (by omega) (Kit.ev_neg (by omega) (Kit.ev_pos (by omega) (Kit.ev_pos h48 (Kit.ev_if (fun _ => bad x _) (fun _ => ?_))))))), rfl⟩
          exact bad x _
        · have hd := ev_digits x (by omega) (-1) (Or.inr rfl)
          have hd2 : Ev (fun k => spec_l00Number.j2 k x (-1) false) _ := Ev.step (hj2 x (-1) false) (Kit.ev_neg Bool.false_ne_true hd)
          refine ⟨_, hp _ (Ev.step (fun k => rfl) (Kit.ev_neg (by omega) (Kit.ev_neg (by omega) (Kit.ev_pos (by omega) (Kit.ev_neg h48 hd2))))), ?_⟩
          cases Lib.decFrom 0 x.data.toList with
          | none => rfl
          | some n => exact if_neg (by rintro ⟨_, h1, _⟩; simp only at h1; omega)
    · have hneg : ((bt s 0) == 45) = false := beq_eq_false_iff_ne.2 (by
        rw [hbt]
        intro e
        exact h45 (UInt8.toNat_inj.1 (by show b.toNat = 45; omega)))
      have hp : ∀ p : Int × Bool, Ev (fun k => spec_l00Number.j1 k s 1) p → Ev (fun k => if (s.size : Int) > 0 then (if 0 < (s.size : Int) then (spec_l00Number.j0 k s 1 ((bt s 0) == 45)) else (none)) else (spec_l00Number.j0 k s 1 false)) p := by
        intro p h
        rw [hneg]
        exact Kit.ev_pos (by omega) (Kit.ev_pos (by omega) (Ev.step (hj0 s 1 false) (Kit.ev_neg Bool.false_ne_true h)))
      by_cases h48 : b = 48
      · have hN : numS s.data.toList = none := by
          unfold numS
          rw [if_pos (.inr (by rw [hl, h48]; rfl))]
        rw [hN]
        by_cases h1 : (s.size : Int) > 1
        · exact ⟨(0, false), hp _ (Ev.step (fun k => rfl) (Kit.ev_neg (by omega) (Kit.ev_neg (by omega) (Kit.ev_pos (by omega) (Kit.ev_pos (by rw [hbt, h48]; rfl) (Kit.ev_pos h1 (bad s 1))))))), rfl⟩
        · have hd := ev_digits s (by omega) 1 (Or.inl rfl)
          have hd2 : Ev (fun k => spec_l00Number.j2 k s 1 (decide ((1 : Int) < 0))) _ := Ev.step (hj2 s 1 _) (Kit.ev_neg (by decide) hd)
          refine ⟨_, hp _ (Ev.step (fun k => rfl) (Kit.ev_neg (by omega) (Kit.ev_neg (by omega) (Kit.ev_pos (by omega) (Kit.ev_pos (by rw [hbt, h48]; rfl) (Kit.ev_neg h1 hd2)))))), ?_⟩
          have hone : s.data.toList = [48] := by
            rw [hl, h48, List.drop_eq_nil_of_le (by omega)]
          rw [hone]
          rfl
      · have hd := ev_digits s (by omega) 1 (Or.inl rfl)
        have hd2 : Ev (fun k => spec_l00Number.j2 k s 1 false) _ := Ev.step (hj2 s 1 _) (Kit.ev_neg Bool.false_ne_true hd)
        refine ⟨_, hp _ (Ev.step (fun k => rfl) (Kit.ev_neg (by omega) (Kit.ev_neg (by omega) (Kit.ev_pos (by omega) (Kit.ev_neg (fun e => h48 (UInt8.toNat_inj.1 (by show b.toNat = 48; omega))) hd2))))), ?_⟩
        have hn : Lib.decNat s.data.toList = Lib.decFrom 0 s.data.toList := by unfold Lib.decNat; rw [hl]; rfl
        have hS : numS s.data.toList = match Lib.decFrom 0 s.data.toList with
          | some n => if 1 ≤ n ∧ n ≤ 126 then some n else none
          | none => none := by
          unfold numS
          rw [if_neg (fun h => h.elim (fun e => by rw [hl] at e; cases e) (fun e => by rw [hl] at e; exact h48 (Option.some.inj e))), hn]
          cases Lib.decFrom 0 s.data.toList <;> rfl
        rw [hS]
        cases Lib.decFrom 0 s.data.toList with
        | none => rfl
        | some n =>
          show (if true = true ∧ 1 ≤ (1 : Int) * (n : Int) ∧ (1 : Int) * (n : Int) ≤ 126 then some ((1 : Int) * (n : Int)).toNat else none) = if 1 ≤ n ∧ n ≤ 126 then some n else none
          rw [Int.one_mul, Int.toNat_natCast]
          by_cases h : 1 ≤ n ∧ n ≤ 126
          · rw [if_pos h, if_pos ⟨rfl, by omega, by omega⟩]
          · rw [if_neg h, if_neg (by omega)]
/-- A name at a place, as both sides ask. -/
theorem pre_iff (s nm : ByteArray) (i : Nat) (hi : i ≤ s.size) : ((i + nm.size ≤ s.size) ∧ (s.extract i (i + nm.size)).toList = nm.toList) ↔ Lib.hasPrefix (s.data.toList.drop i) nm.data.toList = true := by
  have hx : (s.extract i (i + nm.size)).toList = (s.data.toList.drop i).take nm.size := by
    rw [ByteArray.toList_eq, ByteArray.data_extract, Array.toList_extract, List.extract_eq_take_drop, Nat.add_sub_cancel_left]
  have hn : nm.toList = nm.data.toList := by rw [ByteArray.toList_eq]
  have hl : nm.data.toList.length = nm.size := data_length nm
  rw [hx, hn]
  unfold Lib.hasPrefix
  rw [List.isPrefixOf_iff_prefix, List.prefix_iff_eq_take, hl]
  constructor
  · rintro ⟨_, h⟩; exact h.symm
  · intro h
    refine ⟨?_, h.symm⟩
    have h2 := congrArg List.length h
    rw [List.length_take, List.length_drop, hl, data_length] at h2
    omega
def NL : List ByteArray := [(⟨#[38, 97, 109, 112, 59]⟩ : ByteArray), (⟨#[38, 108, 116, 59]⟩ : ByteArray), (⟨#[38, 103, 116, 59]⟩ : ByteArray), (⟨#[38, 113, 117, 111, 116, 59]⟩ : ByteArray)]
theorem one_step (s : ByteArray) (hs : s.size ≤ 1048576) (i : Nat) (hi : i < s.size) (j : Nat) (hj : j < 4) (nm : ByteArray) (hnm : rdOf ByteArray.empty NL (j : Int) = nm) (h1 : 1 ≤ nm.size) (h6 : nm.size ≤ 6) (r : Int × Int)
    (hit : Lib.hasPrefix (s.data.toList.drop i) nm.data.toList = true → (bt (⟨#[38, 60, 62, 34]⟩ : ByteArray) (j : Int), (nm.size : Int)) = r)
    (miss : Lib.hasPrefix (s.data.toList.drop i) nm.data.toList = false → Ev (fun k => spec_l02One.l0 k s i NL ((j + 1 : Nat) : Int)) r) : Ev (fun k => spec_l02One.l0 k s i NL (j : Int)) r := by
  have hp := pre_iff s nm i (by omega)
  have hw : wrap64 ((j : Int) + 1) = ((j + 1 : Nat) : Int) := Kit.wrap_nat hj (by omega)
  have hw2 : wrap64 ((i : Int) + (nm.size : Int)) = ((i + nm.size : Nat) : Int) := by rw [Kit.wrap_of (by omega) (by omega)]; omega
  refine Ev.step (fun k => rfl) (Kit.ev_pos (by show (j : Int) < 4; omega) (Kit.ev_pos (by omega) ?_))
  rw [hnm, hw2, hw]
  refine Kit.ev_if (fun h => ?_) (fun h => ?_)
  · refine Kit.ev_pos (by omega) (Kit.ev_pos (by omega) ?_)
    rw [Int.toNat_natCast, Int.toNat_natCast]
    refine Kit.ev_if (fun h2 => ?_) (fun h2 => ?_)
    · rw [← hit (hp.1 ⟨by omega, h2⟩)]
      exact Kit.ev_pos (by omega) (Ev.now _)
    · exact miss (Bool.eq_false_iff.2 fun h3 => h2 (hp.2 h3).2)
  · exact miss (Bool.eq_false_iff.2 fun h3 => h (by have := (hp.2 h3).1; omega))
theorem l01In_now2 (n a b : Int) : spec_l01In.f n a b = some (decide (a ≤ n ∧ n ≤ b)) := by
  unfold spec_l01In.f
  by_cases h : n ≥ a
  · rw [if_pos h]; simp [h]
  · rw [if_neg h]; simp; omega
/-- The number's part of an escape. -/
def numPart (win : List UInt8) : Int × Int := match numE (Lib.cut win [59]).1 with
  | some n => if (Lib.cut win [59]).2.2 = true then ((n : Int), ((Lib.cut win [59]).1.length : Int) + 3) else (0, 0)
  | none => (0, 0)
theorem numPart_not {win : List UInt8} (h : (Lib.cut win [59]).2.2 = false) : numPart win = (0, 0) := by
  unfold numPart
  rw [h]
  split
  · exact if_neg Bool.false_ne_true
  · rfl
theorem numE_le {w : List UInt8} {n : Nat} (h : numE w = some n) : 1 ≤ n ∧ n ≤ 126 := by
  unfold numE at h
  split at h
  · split at h
    · rename_i hc
      have := Option.some.inj h
      omega
    · cases h
  · cases h
theorem ev_window (s : ByteArray) (hs : s.size ≤ 1048576) (i : Nat) (hi : i + 2 ≤ s.size) : Ev (fun k => spec_l02One.l1 k s i ((i + 2 : Nat) : Int)) (numPart ((s.data.toList.drop (i + 2)).take 4)) := by
  have hj3 : ∀ (x : Int) (b : Bool) (k : Nat), spec_l02One.j3 (k + 1) s i x b = if b = true then (if 0 ≤ x then (if x < (s.size : Int) then (if (bt s x) = 59 then (if 0 ≤ (wrap64 ((i : Int) + 2)) then (if (wrap64 ((i : Int) + 2)) ≤ x then (if x ≤ (s.size : Int) then ((spec_l00Number.f k (s.extract ((wrap64 ((i : Int) + 2)) : Int).toNat (x : Int).toNat)).bind fun bt106 => (if bt106.2 = true then ((spec_l01In.f bt106.1 1 126).bind fun t108 => (if t108 = true then (some ((bt106.1) % 256, wrap64 ((wrap64 (x + 1)) - (i : Int)))) else (some (0, 0)))) else (some (0, 0)))) else (none)) else (none)) else (none)) else (spec_l02One.l1 k s i (wrap64 (x + 1)))) else (none)) else (none)) else (some (0, 0)) := fun x b k => by rw [spec_l02One.j3]
  have hwl : ((s.data.toList.drop (i + 2)).take 4).length = min 4 (s.size - (i + 2)) := by rw [List.length_take, List.length_drop, data_length]
  have hat : ∀ j, j < ((s.data.toList.drop (i + 2)).take 4).length → ((s.data.toList.drop (i + 2)).take 4)[j]? = s.data.toList[i + 2 + j]? := fun j hj => by rw [List.getElem?_take, if_pos (by omega), List.getElem?_drop]
  have htk : ∀ m, m ≤ ((s.data.toList.drop (i + 2)).take 4).length → ((s.data.toList.drop (i + 2)).take 4).take m = (s.extract (i + 2) (i + 2 + m)).data.toList := fun m hm => by
    rw [ByteArray.data_extract, Array.toList_extract, List.extract_eq_take_drop, List.take_take, Nat.min_eq_left (by omega), Nat.add_sub_cancel_left]
  generalize (s.data.toList.drop (i + 2)).take 4 = win at *
  have key : ∀ m, m ≤ win.length → (∀ j, j < m → win[j]? ≠ some 59) → Ev (fun k => spec_l02One.l1 k s i ((i + 2 + m : Nat) : Int)) (numPart win) := by
    refine Kit.down ?_ ?_
    · intro hn
      rw [numPart_not (cut_not 59 win hn)]
      refine Ev.step (fun k => rfl) (Kit.ev_if (fun h => ?_) (fun h => ?_))
      · refine Ev.step (hj3 _ _) (Kit.ev_neg ?_ (Ev.now _))
        rw [Kit.wrap_of (by omega) (by omega), decide_eq_true_iff]
        omega
      · exact Ev.step (hj3 _ _) (Kit.ev_neg Bool.false_ne_true (Ev.now _))
    · intro m hm ih hn
      obtain ⟨b, hb, hbt⟩ := byte_at3 s (i + 2 + m) (by omega)
      have hw2 : wrap64 ((i : Int) + 2) = ((i + 2 : Nat) : Int) := by rw [Kit.wrap_of (by omega) (by omega)]; omega
      have hw6 : wrap64 ((i : Int) + 6) = (i : Int) + 6 := Kit.wrap_of (by omega) (by omega)
      have hw1 : wrap64 (((i + 2 + m : Nat) : Int) + 1) = ((i + 2 + (m + 1) : Nat) : Int) := by rw [Kit.wrap_of (by omega) (by omega)]; omega
      refine Ev.step (fun k => rfl) (Kit.ev_pos (by omega) (Ev.step (hj3 _ _) (Kit.ev_pos (by rw [hw6, decide_eq_true_iff]; omega) (Kit.ev_pos (by omega) (Kit.ev_pos (by omega) ?_)))))
      rw [hbt, hw2, hw1]
      refine Kit.ev_if (fun h => ?_) (fun h => ?_)
      · have hb59 : b = 59 := UInt8.toNat_inj.1 (by show b.toNat = 59; omega)
        obtain ⟨hc1, hc2⟩ := cut_at 59 win m (by rw [hat m hm, hb, hb59]) hn
        rw [htk m (by omega)] at hc1
        refine Kit.ev_pos (by omega) (Kit.ev_pos (by omega) (Kit.ev_pos (by omega) ?_))
        rw [Int.toNat_natCast, Int.toNat_natCast]
        have hxs : (s.extract (i + 2) (i + 2 + m)).size = m := by rw [ByteArray.size_extract]; omega
        obtain ⟨p, hp, hpe⟩ := ev_number (s.extract (i + 2) (i + 2 + m)) (by omega)
        have hlen : ((s.extract (i + 2) (i + 2 + m)).data.toList).length = m := by rw [data_length, hxs]
        refine Ev.bind hp ?_
        have hres : numPart win = if p.2 = true ∧ 1 ≤ p.1 ∧ p.1 ≤ 126 then (p.1, (m : Int) + 3) else (0, 0) := by
          unfold numPart
          rw [hc1, hc2, ← hpe, hlen]
          by_cases h : p.2 = true ∧ 1 ≤ p.1 ∧ p.1 ≤ 126
          · rw [if_pos h, if_pos h]
            show (if true = true then (((p.1.toNat : Nat) : Int), (m : Int) + 3) else (0, 0)) = _
            rw [if_pos rfl, Int.toNat_of_nonneg (by omega)]
          · rw [if_neg h, if_neg h]
        rw [hres]
        refine Kit.ev_if (fun h2 => ?_) (fun h2 => ?_)
        · refine Kit.ev_some (l01In_now2 _ _ _) (Kit.ev_if (fun h3 => ?_) (fun h3 => ?_))
          · have h4 := of_decide_eq_true h3
            rw [if_pos ⟨h2, h4.1, h4.2⟩, Int.emod_eq_of_lt (by omega) (by omega)]
            have : wrap64 (((i + 2 + (m + 1) : Nat) : Int) - (i : Int)) = (m : Int) + 3 := by rw [Kit.wrap_of (by omega) (by omega)]; omega
            rw [this]
            exact Ev.now _
          · rw [if_neg (fun h4 => h3 (decide_eq_true ⟨h4.2.1, h4.2.2⟩))]
            exact Ev.now _
        · rw [if_neg (fun h4 => h2 h4.1)]
          exact Ev.now _
      · refine ih fun j hj => ?_
        by_cases e : j = m
        · subst e
          rw [hat j hm, hb]
          intro e
          have := Option.some.inj e
          subst this
          exact h rfl
        · exact hn j (by omega)
  exact key 0 (Nat.zero_le _) (fun j hj => absurd hj (Nat.not_lt_zero _))
theorem numPart_short (win : List UInt8) (h : win.length ≤ 1) : numPart win = (0, 0) := by
  match win, h with
  | [], _ => rfl
  | [b], _ =>
    by_cases e : b = 59
    · subst e; rfl
    · exact numPart_not (cut_not 59 [b] (fun j hj => by
        have : j = 0 := by simpa using hj
        subst this
        simpa using e))
theorem numPart_le (win : List UInt8) (h : win.length ≤ 4) : 0 ≤ (numPart win).2 ∧ (numPart win).2 ≤ 7 := by
  have h1 := cut_len win 59
  unfold numPart
  split
  · split
    · show 0 ≤ ((Lib.cut win [59]).1.length : Int) + 3 ∧ ((Lib.cut win [59]).1.length : Int) + 3 ≤ 7
      omega
    · exact ⟨by decide, by decide⟩
  · exact ⟨by decide, by decide⟩
theorem escOf_eq (t : List UInt8) : escOf t = if Lib.hasPrefix t [38, 97, 109, 112, 59] = true then (38, 5) else if Lib.hasPrefix t [38, 108, 116, 59] = true then (60, 4) else if Lib.hasPrefix t [38, 103, 116, 59] = true then (62, 4) else if Lib.hasPrefix t [38, 113, 117, 111, 116, 59] = true then (34, 6) else if Lib.hasPrefix t [38, 35] = true then numPart ((t.drop 2).take 4) else (0, 0) := rfl
theorem escOf_le (t : List UInt8) : 0 ≤ (escOf t).2 ∧ (escOf t).2 ≤ 7 := by
  rw [escOf_eq]
  have h := numPart_le ((t.drop 2).take 4) (by rw [List.length_take]; omega)
  split
  · exact ⟨by decide, by decide⟩
  · split
    · exact ⟨by decide, by decide⟩
    · split
      · exact ⟨by decide, by decide⟩
      · split
        · exact ⟨by decide, by decide⟩
        · split
          · exact h
          · exact ⟨by decide, by decide⟩
theorem escOf_other {t : List UInt8} {b : UInt8} (h : t[0]? = some b) (hb : b ≠ 38) : escOf t = (0, 0) := by
  obtain ⟨r, rfl⟩ : ∃ r, t = b :: r := by
    cases t with
    | nil => simp at h
    | cons a r => exact ⟨r, by rw [show a = b by simpa using h]⟩
  have hp : ∀ l : List UInt8, Lib.hasPrefix (b :: r) (38 :: l) = false := fun l => by
    unfold Lib.hasPrefix
    rw [List.isPrefixOf_cons_cons, beq_eq_false_iff_ne.2 (fun e : (38 : UInt8) = b => hb e.symm), Bool.false_and]
  rw [escOf_eq]
  simp only [hp, Bool.false_eq_true, if_false]
theorem ev_l02One (s : ByteArray) (hs : s.size ≤ 1048576) (i : Nat) (hi : i < s.size) (hb : s.data.toList[i]? = some 38) : Ev (fun k => spec_l02One.f k s i) (escOf (s.data.toList.drop i)) := by
  have hdd : (s.data.toList.drop i).drop 2 = s.data.toList.drop (i + 2) := by rw [List.drop_drop]
  have he := escOf_eq (s.data.toList.drop i)
  have hjj : ∀ (b : Bool) (k : Nat), spec_l02One.j1 (k + 1) s i b = if b = true then (some (0, 0)) else (spec_l02One.l1 k s i (wrap64 ((i : Int) + 2))) := fun b k => by rw [spec_l02One.j1]
  show Ev (fun k => spec_l02One.l0 k s i NL ((0 : Nat) : Int)) _
  refine one_step s hs i hi 0 (by omega) ⟨#[38, 97, 109, 112, 59]⟩ rfl (by decide) (by decide) _ (fun (h : Lib.hasPrefix (s.data.toList.drop i) [38, 97, 109, 112, 59] = true) => ?_) (fun (h0 : Lib.hasPrefix (s.data.toList.drop i) [38, 97, 109, 112, 59] = false) => ?_)
  · rw [he, if_pos h]; rfl
  rw [if_neg (Bool.eq_false_iff.1 h0)] at he
  refine one_step s hs i hi 1 (by omega) ⟨#[38, 108, 116, 59]⟩ rfl (by decide) (by decide) _ (fun (h : Lib.hasPrefix (s.data.toList.drop i) [38, 108, 116, 59] = true) => ?_) (fun (h1 : Lib.hasPrefix (s.data.toList.drop i) [38, 108, 116, 59] = false) => ?_)
  · rw [he, if_pos h]; rfl
  rw [if_neg (Bool.eq_false_iff.1 h1)] at he
  refine one_step s hs i hi 2 (by omega) ⟨#[38, 103, 116, 59]⟩ rfl (by decide) (by decide) _ (fun (h : Lib.hasPrefix (s.data.toList.drop i) [38, 103, 116, 59] = true) => ?_) (fun (h2 : Lib.hasPrefix (s.data.toList.drop i) [38, 103, 116, 59] = false) => ?_)
  · rw [he, if_pos h]; rfl
  rw [if_neg (Bool.eq_false_iff.1 h2)] at he
  refine one_step s hs i hi 3 (by omega) ⟨#[38, 113, 117, 111, 116, 59]⟩ rfl (by decide) (by decide) _ (fun (h : Lib.hasPrefix (s.data.toList.drop i) [38, 113, 117, 111, 116, 59] = true) => ?_) (fun (h3 : Lib.hasPrefix (s.data.toList.drop i) [38, 113, 117, 111, 116, 59] = false) => ?_)
  · rw [he, if_pos h]; rfl
  rw [if_neg (Bool.eq_false_iff.1 h3), hdd] at he
  rw [he]
  have hw3 : wrap64 ((i : Int) + 3) = (i : Int) + 3 := Kit.wrap_of (by omega) (by omega)
  have hw1 : wrap64 ((i : Int) + 1) = ((i + 1 : Nat) : Int) := Kit.wrap_nat hi (by omega)
  have hw2 : wrap64 ((i : Int) + 2) = ((i + 2 : Nat) : Int) := by rw [Kit.wrap_of (by omega) (by omega)]; omega
  refine Ev.step (fun k => rfl) (Kit.ev_neg (by show ¬ ((3 + 1 : Nat) : Int) < 4; omega) ?_)
  rw [hw3, hw1]
  refine Kit.ev_if (fun h => ?_) (fun h => ?_)
  · have : numPart ((s.data.toList.drop (i + 2)).take 4) = (0, 0) := numPart_short _ (by rw [List.length_take, List.length_drop, data_length]; omega)
    rw [this, ite_self]
    exact Ev.step (hjj true) (Kit.ev_pos rfl (Ev.now _))
  · obtain ⟨c, hc, hct⟩ := byte_at3 s (i + 1) (by omega)
    refine Kit.ev_pos (by omega) (Kit.ev_pos (by omega) (Ev.step (hjj _) ?_))
    rw [hct, hw2]
    have hp : Lib.hasPrefix (s.data.toList.drop i) [38, 35] = (35 == c) := by
      rw [drop_at hb, drop_at hc]
      unfold Lib.hasPrefix
      rw [List.isPrefixOf_cons_cons, List.isPrefixOf_cons_cons]
      simp
    rw [hp]
    by_cases e : c = 35
    · subst e
      rw [if_pos (by rfl)]
      exact Kit.ev_neg (by decide) (ev_window s hs i (by omega))
    · rw [if_neg (by rw [beq_iff_eq]; exact fun h => e h.symm)]
      refine Kit.ev_pos (bne_iff_ne.2 fun h => e (UInt8.toNat_inj.1 (by show c.toNat = 35; omega))) (Ev.now _)
/-- Both sides come to one text. -/
theorem un_both (s : ByteArray) (hs : s.size ≤ 1048576) : ∃ r, Ev (fun k => impl_unescape.f k s) r ∧ Ev (fun k => spec_l02Un.f k s) r := by
  have key : ∀ d i : Nat, s.size ≤ i + d → i ≤ 1048600 → ∀ out : List Int, out.length ≤ i → ∃ r, Ev (fun k => impl_unescape.l0 k s out (i : Int)) r ∧ Ev (fun k => spec_l02Un.l0 k s out (i : Int)) r := by
    have fin : ∀ i : Nat, s.size ≤ i → ∀ out : List Int, ∃ r, Ev (fun k => impl_unescape.l0 k s out (i : Int)) r ∧ Ev (fun k => spec_l02Un.l0 k s out (i : Int)) r := fun i hi out =>
      ⟨strOfNums out, Ev.step (fun k => rfl) (Kit.ev_neg (by omega) (Ev.now _)), Ev.step (fun k => rfl) (Kit.ev_neg (by omega) (Ev.now _))⟩
    intro d
    induction d with
    | zero => intro i h1 _ out _; exact fin i (by omega) out
    | succ d ih =>
      intro i h1 h2 out ho
      by_cases hi : i < s.size
      case neg => exact fin i (by omega) out
      case pos =>
        obtain ⟨b, hb, hbt⟩ := byte_at3 s i hi
        have hx : (s.extract i s.size).data.toList = s.data.toList.drop i := by rw [ByteArray.data_extract, Array.toList_extract, List.extract_eq_take_drop, List.take_of_length_le (by rw [List.length_drop, data_length]; omega)]
        have hE : impl_escape.f (s.extract i s.size) = some (escOf (s.data.toList.drop i)) := by
          unfold impl_escape.f
          rw [if_pos (by rw [ByteArray.size_extract]; omega), hx]
        have hle := escOf_le (s.data.toList.drop i)
        have hw : wrap64 ((i : Int) + 1) = ((i + 1 : Nat) : Int) := Kit.wrap_nat hi (by omega)
        have himp : ∀ r, ((0 < (escOf (s.data.toList.drop i)).2 → Ev (fun k => impl_unescape.l0 k s (out ++ [(escOf (s.data.toList.drop i)).1]) (wrap64 ((i : Int) + (escOf (s.data.toList.drop i)).2))) r) ∧ (¬ 0 < (escOf (s.data.toList.drop i)).2 → Ev (fun k => impl_unescape.l0 k s (out ++ [bt s (i : Int)]) ((i + 1 : Nat) : Int)) r)) → Ev (fun k => impl_unescape.l0 k s out (i : Int)) r := by
          intro r hr
          refine Ev.step (fun k => rfl) (Kit.ev_pos (by omega) (Kit.ev_pos (by omega) (Kit.ev_pos (by omega) ?_)))
          rw [Int.toNat_natCast, hw]
          exact Kit.ev_some hE (Kit.ev_if (fun h => Kit.ev_pos (by omega) (hr.1 h)) (fun h => Kit.ev_pos (by omega) (hr.2 h)))
        by_cases h38 : b = 38
        · subst h38
          have hO := ev_l02One s hs i hi hb
          by_cases hp : 0 < (escOf (s.data.toList.drop i)).2
          · obtain ⟨n, hn⟩ : ∃ n : Nat, (escOf (s.data.toList.drop i)).2 = (n : Int) := ⟨(escOf (s.data.toList.drop i)).2.toNat, by omega⟩
            have hwn : wrap64 ((i : Int) + (n : Int)) = ((i + n : Nat) : Int) := by rw [Kit.wrap_of (by omega) (by omega)]; omega
            obtain ⟨r, r1, r2⟩ : ∃ r, Ev (fun k => impl_unescape.l0 k s (out ++ [(escOf (s.data.toList.drop i)).1]) ((i + n : Nat) : Int)) r ∧ Ev (fun k => spec_l02Un.l0 k s (out ++ [(escOf (s.data.toList.drop i)).1]) ((i + n : Nat) : Int)) r := by
              by_cases hin : i + n ≤ 1048600
              · exact ih (i + n) (by omega) hin _ (by rw [List.length_append, List.length_singleton]; omega)
              · exact fin (i + n) (by omega) _
            refine ⟨r, himp r ⟨fun _ => by rw [hn, hwn]; exact r1, fun h => absurd hp h⟩, ?_⟩
            refine Ev.step (fun k => rfl) (Kit.ev_pos (by omega) (Kit.ev_pos (by omega) ?_))
            rw [hbt]
            refine Kit.ev_pos (by rfl) (Ev.bind hO (Kit.ev_pos hp (Kit.ev_pos (by omega) ?_)))
            rw [hn, hwn]
            exact r2
          · obtain ⟨r, r1, r2⟩ := ih (i + 1) (by omega) (by omega) (out ++ [bt s (i : Int)]) (by rw [List.length_append, List.length_singleton]; omega)
            refine ⟨r, himp r ⟨fun h => absurd h hp, fun _ => r1⟩, ?_⟩
            refine Ev.step (fun k => rfl) (Kit.ev_pos (by omega) (Kit.ev_pos (by omega) ?_))
            rw [hw]
            exact Kit.ev_pos (by rw [hbt]; rfl) (Ev.bind hO (Kit.ev_neg hp (Kit.ev_pos (by omega) r2)))
        · have hz : escOf (s.data.toList.drop i) = (0, 0) := escOf_other (by rw [List.getElem?_drop]; exact hb) h38
          obtain ⟨r, r1, r2⟩ := ih (i + 1) (by omega) (by omega) (out ++ [bt s (i : Int)]) (by rw [List.length_append, List.length_singleton]; omega)
          refine ⟨r, himp r ⟨fun h => absurd h (by rw [hz]; decide), fun _ => r1⟩, ?_⟩
          refine Ev.step (fun k => rfl) (Kit.ev_pos (by omega) (Kit.ev_pos (by omega) ?_))
          rw [hw]
          exact Kit.ev_neg (by rw [hbt]; exact fun h => h38 (UInt8.toNat_inj.1 (by show b.toNat = 38; omega))) (Kit.ev_pos (by omega) r2)
  obtain ⟨r, r1, r2⟩ := key s.size 0 (by omega) (by omega) [] (Nat.le_refl _)
  exact ⟨r, r1, r2⟩
theorem proved : laws_FnExactUnescape.Pure := by
  intro a ha
  refine Ev.rounds (g := fun k => laws_FnExactUnescape.f k a) ?_
  unfold laws_FnExactUnescape.f
  refine Kit.ev_if (fun _ => Ev.now _) (fun h0 => ?_)
  obtain ⟨r, r1, r2⟩ := un_both a (by omega)
  by_cases h : (a.size : Int) > 65536
  · refine Ev.bind (a := (⟨#[]⟩ : ByteArray)) ?_ (Ev.bind (a := (⟨#[]⟩ : ByteArray)) ?_ (Kit.ev_pos rfl (Ev.now _)))
    · unfold spec_Unescape.f
      exact Kit.ev_pos h (Ev.now _)
    · unfold impl_Unescape.f
      refine Kit.ev_some (a := true) (by rw [isLong1, decide_eq_true (by omega)]) (Kit.ev_pos rfl (Ev.now _))
  · refine Ev.bind (a := r) ?_ (Ev.bind (a := r) ?_ (Kit.ev_pos rfl (Ev.now _)))
    · unfold spec_Unescape.f
      exact Kit.ev_neg h (Ev.bind r2 (Ev.now _))
    · unfold impl_Unescape.f
      refine Kit.ev_some (a := false) (by rw [isLong1, decide_eq_false (by omega)]) (Kit.ev_neg Bool.false_ne_true (Ev.bind r1 (Ev.now _)))
end Go.Proofs.YtggjdkiheclneaaDoor.Pure.LUnescape
namespace Go.Proofs.YtggjdkiheclneaaDoor.Pure
theorem FnExactUnescape : PFnExactUnescape.laws_FnExactUnescape.Pure := LUnescape.proved
end Go.Proofs.YtggjdkiheclneaaDoor.Pure
