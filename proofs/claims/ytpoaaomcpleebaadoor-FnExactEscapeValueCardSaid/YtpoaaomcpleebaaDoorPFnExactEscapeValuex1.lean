/- By a program of this session, out of the kit's print and contracts made by hand: the machine side of a law; Lean checks it. No conditions. -/
import Derived.Test.YtpoaaomcpleebaaDoorPFnExactEscapeValuex0
namespace Go.Proofs.YtpoaaomcpleebaaDoor.PFnExactEscapeValue
open Go.RowKit Go.Proofs.YtpoaaomcpleebaaDoorW.PrintWords Go.Proofs.YtpoaaomcpleebaaDoorW.PrintLast Go.Proofs.YtpoaaomcpleebaaDoorW.PrintMore
attribute [local go_sem] max2_int min2_int max_two min_two max_three min_three max_four min_four
set_option linter.unusedVariables false
set_option linter.unusedSimpArgs false
/-! ### spec_l02Text: function 9 -/
def spec_l02Text.l0:Nat→ByteArray→ByteArray→Int→Option (ByteArray)
 | 0,_,_,_=>none
 | k+1,x0,x3,x4=>if x4<(x0.size:Int) then (if 0≤x4 then (if (bt x0 x4)=38 then (if x3.size+5≤9223372036854775807 then (spec_l02Text.l0 k x0 (x3++(⟨#[38,97,109,112,59]⟩:ByteArray)) (wrap64 (x4+1))) else (none)) else (if (bt x0 x4)=60 then (if x3.size+4≤9223372036854775807 then (spec_l02Text.l0 k x0 (x3++(⟨#[38,108,116,59]⟩:ByteArray)) (wrap64 (x4+1))) else (none)) else (if (bt x0 x4)=62 then (if x3.size+4≤9223372036854775807 then (spec_l02Text.l0 k x0 (x3++(⟨#[38,103,116,59]⟩:ByteArray)) (wrap64 (x4+1))) else (none)) else (if x4≤(wrap64 (x4+1)) then (if (wrap64 (x4+1))≤(x0.size:Int) then (if x3.size+(x0.extract (x4:Int).toNat ((wrap64 (x4+1)):Int).toNat).size≤9223372036854775807 then (spec_l02Text.l0 k x0 (x3++(x0.extract (x4:Int).toNat ((wrap64 (x4+1)):Int).toNat)) (wrap64 (x4+1))) else (none)) else (none)) else (none))))) else (none)) else (some x3)
def spec_l02Text.f (k:Nat) (a0:ByteArray):Option (ByteArray):=spec_l02Text.l0 k a0 (⟨#[]⟩:ByteArray) 0
theorem spec_l02Text.mono_l:∀ k,(∀ y0 y1 y2,LeO (spec_l02Text.l0 k y0 y1 y2) (spec_l02Text.l0 (k+1) y0 y1 y2))
 | 0=>fun _ _ _ r h=>by simp [spec_l02Text.l0] at h
 | k+1=>by
  have ih0:=spec_l02Text.mono_l k
  ·intro y0 y1 y2
   unfold spec_l02Text.l0
   repeat' first
   | (with_reducible exact ih0 _ _ _)
   | (with_reducible exact LeO.refl _)
   | (with_reducible exact LeO.none _)
   | (with_reducible refine LeO.ite ?_ ?_)
   | (with_reducible refine LeO.bind ?_ (fun _=>?_))
   | exact ih0 _ _ _
   | exact LeO.none _
   | refine LeO.ite ?_ ?_
   | refine LeO.bind ?_ (fun _=>?_)
theorem spec_l02Text.mono:∀ a0 k,LeO (spec_l02Text.f k a0) (spec_l02Text.f (k+1) a0):=by
 intro a0 k
 have ih0:=spec_l02Text.mono_l k
 unfold spec_l02Text.f
 repeat' first
  | (with_reducible exact ih0 _ _ _)
  | (with_reducible exact LeO.refl _)
  | (with_reducible exact LeO.none _)
  | (with_reducible refine LeO.ite ?_ ?_)
  | (with_reducible refine LeO.bind ?_ (fun _=>?_))
  | exact ih0 _ _ _
  | exact LeO.none _
  | refine LeO.ite ?_ ?_
  | refine LeO.bind ?_ (fun _=>?_)
set_option maxHeartbeats 8000000 in
set_option maxRecDepth 100000 in
theorem spec_l02Text.calls (k:Nat) (a0:ByteArray) (r:ByteArray) (w:World) (h:spec_l02Text.f k a0=some r) :
 Calls Tryd.prog 9 #[.string a0] w fun e w'=>e=.returned (.string r)∧Drawn0 w w':=by
 have H:(spec_l02Text.l0 k a0 (⟨#[]⟩:ByteArray) 0)=some r:=h
 clear h
 have H':=A_ H
 clear H
 go_enter Tryd.func9,Tryd.ntmps9
 go_wp2
 go_loopg [3,4] k (fun kq v3 v4 w'=>∃ (x3_1:ByteArray) (x4_1:Int),v3=.string x3_1∧v4=.int .i64 x4_1∧Aside0 (spec_l02Text.l0 kq a0 x3_1 x4_1=some r)∧Aside0 (kq≤k)∧Drawn0 w w')
 case atStart=>exact ⟨((⟨#[]⟩:ByteArray)),(0),(by first|rfl|(simp;done)|(simp [*];done)),(by first|rfl|(simp;done)|(simp [*];done)),H',⟨Nat.le_refl _⟩,by repeat (first|exact dr_ _|apply dp_)⟩
 case round =>
  clear H'
  obtain ⟨x3_1,x4_1,rfl,rfl,HA,HK1,⟨m1,rfl⟩⟩:=hrel
  cases gk with
  | zero=>exact absurd HA.out (by simp [spec_l02Text.l0])
  | succ k1 =>
   have H:=HA.out
   clear HA
   simp only [spec_l02Text.l0] at H
   by_cases c2:x4_1<(a0.size:Int)
   ·rw [if_pos c2] at H
    have c2b0:decide (x4_1<(a0.size:Int))=true:=dt_ c2
    clear c2
    by_cases c3:0≤x4_1
    ·rw [if_pos c3] at H
     have c3b0:decide (0≤x4_1)=true:=dt_ c3
     clear c3
     by_cases c5:(bt a0 x4_1)=38
     ·rw [if_pos c5] at H
      have c5b0:((bt a0 x4_1) == 38)=true:=beq_iff_eq.mpr c5
      have c5b1:((bt a0 x4_1) != 38)=false:=bne_eq_false_iff_eq.mpr c5
      clear c5
      by_cases c6:x3_1.size+5≤9223372036854775807
      ·rw [if_pos c6] at H
       have c6b0:=eq_true c6
       have c6b1:decide (x3_1.size+5≤9223372036854775807)=true:=dt_ c6
       try have c6b2:(9223372036854775807<x3_1.size+5)=False:=eq_false (Nat.not_lt.2 c6)
       have H':=A_ H
       clear H
       have p4:0≤(x4_1:Int):=od_ (by first|(with_reducible assumption)|assumption)
       have q4:x4_1<(a0.size:Int):=od_ (by first|(with_reducible assumption)|assumption)
       have hx4:=bt_at a0 x4_1
       replace p4:=eq_true p4
       replace q4:=eq_true q4
       go_wp2
       go_roundg k1
       case measure=>have:=HK1.out;omega
       case rel=>exact ⟨(x3_1++(⟨#[38,97,109,112,59]⟩:ByteArray)),(wrap64 (x4_1+1)),(by first|rfl|(simp;done)|(simp [*];done)),(by first|rfl|(simp;done)|(simp [*];done)),H',⟨by have:=HK1.out;omega⟩,by repeat (first|exact dr_ _|apply dp_)⟩
      ·rw [if_neg c6] at H
       exact absurd H (by simp)
     ·rw [if_neg c5] at H
      have c5b0:((bt a0 x4_1) == 38)=false:=beq_eq_false_iff_ne.mpr c5
      have c5b1:((bt a0 x4_1) != 38)=true:=bne_iff_ne.mpr c5
      by_cases c7:(bt a0 x4_1)=60
      ·rw [if_pos c7] at H
       have c7b0:((bt a0 x4_1) == 60)=true:=beq_iff_eq.mpr c7
       have c7b1:((bt a0 x4_1) != 60)=false:=bne_eq_false_iff_eq.mpr c7
       clear c7
       by_cases c8:x3_1.size+4≤9223372036854775807
       ·rw [if_pos c8] at H
        have c8b0:=eq_true c8
        have c8b1:decide (x3_1.size+4≤9223372036854775807)=true:=dt_ c8
        try have c8b2:(9223372036854775807<x3_1.size+4)=False:=eq_false (Nat.not_lt.2 c8)
        have H':=A_ H
        clear H
        have p4:0≤(x4_1:Int):=od_ (by first|(with_reducible assumption)|assumption)
        have q4:x4_1<(a0.size:Int):=od_ (by first|(with_reducible assumption)|assumption)
        have hx4:=bt_at a0 x4_1
        replace p4:=eq_true p4
        replace q4:=eq_true q4
        go_wp2
        go_roundg k1
        case measure=>have:=HK1.out;omega
        case rel=>exact ⟨(x3_1++(⟨#[38,108,116,59]⟩:ByteArray)),(wrap64 (x4_1+1)),(by first|rfl|(simp;done)|(simp [*];done)),(by first|rfl|(simp;done)|(simp [*];done)),H',⟨by have:=HK1.out;omega⟩,by repeat (first|exact dr_ _|apply dp_)⟩
       ·rw [if_neg c8] at H
        exact absurd H (by simp)
      ·rw [if_neg c7] at H
       have c7b0:((bt a0 x4_1) == 60)=false:=beq_eq_false_iff_ne.mpr c7
       have c7b1:((bt a0 x4_1) != 60)=true:=bne_iff_ne.mpr c7
       by_cases c9:(bt a0 x4_1)=62
       ·rw [if_pos c9] at H
        have c9b0:((bt a0 x4_1) == 62)=true:=beq_iff_eq.mpr c9
        have c9b1:((bt a0 x4_1) != 62)=false:=bne_eq_false_iff_eq.mpr c9
        clear c9
        by_cases c10:x3_1.size+4≤9223372036854775807
        ·rw [if_pos c10] at H
         have c10b0:=eq_true c10
         have c10b1:decide (x3_1.size+4≤9223372036854775807)=true:=dt_ c10
         try have c10b2:(9223372036854775807<x3_1.size+4)=False:=eq_false (Nat.not_lt.2 c10)
         have H':=A_ H
         clear H
         have p4:0≤(x4_1:Int):=od_ (by first|(with_reducible assumption)|assumption)
         have q4:x4_1<(a0.size:Int):=od_ (by first|(with_reducible assumption)|assumption)
         have hx4:=bt_at a0 x4_1
         replace p4:=eq_true p4
         replace q4:=eq_true q4
         go_wp2
         go_roundg k1
         case measure=>have:=HK1.out;omega
         case rel=>exact ⟨(x3_1++(⟨#[38,103,116,59]⟩:ByteArray)),(wrap64 (x4_1+1)),(by first|rfl|(simp;done)|(simp [*];done)),(by first|rfl|(simp;done)|(simp [*];done)),H',⟨by have:=HK1.out;omega⟩,by repeat (first|exact dr_ _|apply dp_)⟩
        ·rw [if_neg c10] at H
         exact absurd H (by simp)
       ·rw [if_neg c9] at H
        have c9b0:((bt a0 x4_1) == 62)=false:=beq_eq_false_iff_ne.mpr c9
        have c9b1:((bt a0 x4_1) != 62)=true:=bne_iff_ne.mpr c9
        have c11b0:=eq_true (od_ (by first|(with_reducible assumption)|assumption):0≤x4_1)
        by_cases c12:x4_1≤(wrap64 (x4_1+1))
        ·rw [if_pos c12] at H
         have c12b0:=eq_true c12
         have c12b1:decide (x4_1≤(wrap64 (x4_1+1)))=true:=dt_ c12
         by_cases c13:(wrap64 (x4_1+1))≤(a0.size:Int)
         ·rw [if_pos c13] at H
          have c13b0:=eq_true c13
          have c13b1:decide ((wrap64 (x4_1+1))≤(a0.size:Int))=true:=dt_ c13
          by_cases c14:x3_1.size+(a0.extract (x4_1:Int).toNat ((wrap64 (x4_1+1)):Int).toNat).size≤9223372036854775807
          ·rw [if_pos c14] at H
           have c14b0:=eq_true c14
           have c14b1:decide (x3_1.size+(a0.extract (x4_1:Int).toNat ((wrap64 (x4_1+1)):Int).toNat).size≤9223372036854775807)=true:=dt_ c14
           try have c14b2:(9223372036854775807<x3_1.size+(a0.extract (x4_1:Int).toNat ((wrap64 (x4_1+1)):Int).toNat).size)=False:=eq_false (Nat.not_lt.2 c14)
           have H':=A_ H
           clear H
           have p4:0≤(x4_1:Int):=od_ (by first|(with_reducible assumption)|assumption)
           have q4:x4_1<(a0.size:Int):=od_ (by first|(with_reducible assumption)|assumption)
           have hx4:=bt_at a0 x4_1
           replace p4:=eq_true p4
           replace q4:=eq_true q4
           go_wp2
           go_roundg k1
           case measure=>have:=HK1.out;omega
           case rel=>exact ⟨(x3_1++(a0.extract (x4_1:Int).toNat ((wrap64 (x4_1+1)):Int).toNat)),(wrap64 (x4_1+1)),(by first|rfl|(simp;done)|(simp [*];done)),(by first|rfl|(simp;done)|(simp [*];done)),H',⟨by have:=HK1.out;omega⟩,by repeat (first|exact dr_ _|apply dp_)⟩
          ·rw [if_neg c14] at H
           exact absurd H (by simp)
         ·rw [if_neg c13] at H
          exact absurd H (by simp)
        ·rw [if_neg c12] at H
         exact absurd H (by simp)
    ·rw [if_neg c3] at H
     exact absurd H (by simp)
   ·rw [if_neg c2] at H
    have c2b0:decide (x4_1<(a0.size:Int))=false:=df_ c2
    clear c2
    obtain rfl:=oi_ H
    go_wp2
    go_ret
    exact ⟨by first|rfl|(simp;done)|(simp [*];done),by repeat (first|exact dr_ _|apply dp_)⟩
/-! ### spec_l02Value: function 6 -/
def spec_l02Value.l0:Nat→ByteArray→ByteArray→Int→Option (ByteArray)
 | 0,_,_,_=>none
 | k+1,x0,x3,x4=>if x4<(x0.size:Int) then (if 0≤x4 then (if (bt x0 x4)=34 then (if x3.size+6≤9223372036854775807 then (spec_l02Value.l0 k x0 (x3++(⟨#[38,113,117,111,116,59]⟩:ByteArray)) (wrap64 (x4+1))) else (none)) else (if x4≤(wrap64 (x4+1)) then (if (wrap64 (x4+1))≤(x0.size:Int) then ((spec_l02Text.f k (x0.extract (x4:Int).toNat ((wrap64 (x4+1)):Int).toNat)).bind fun t101=>(if x3.size+t101.size≤9223372036854775807 then (spec_l02Value.l0 k x0 (x3++t101) (wrap64 (x4+1))) else (none))) else (none)) else (none))) else (none)) else (some x3)
def spec_l02Value.f (k:Nat) (a0:ByteArray):Option (ByteArray):=spec_l02Value.l0 k a0 (⟨#[]⟩:ByteArray) 0
theorem spec_l02Value.mono_l:∀ k,(∀ y0 y1 y2,LeO (spec_l02Value.l0 k y0 y1 y2) (spec_l02Value.l0 (k+1) y0 y1 y2))
 | 0=>fun _ _ _ r h=>by simp [spec_l02Value.l0] at h
 | k+1=>by
  have ih0:=spec_l02Value.mono_l k
  ·intro y0 y1 y2
   unfold spec_l02Value.l0
   repeat' first
   | (with_reducible exact ih0 _ _ _)
   | (with_reducible exact spec_l02Text.mono _ _)
   | (with_reducible exact LeO.refl _)
   | (with_reducible exact LeO.none _)
   | (with_reducible refine LeO.ite ?_ ?_)
   | (with_reducible refine LeO.bind ?_ (fun _=>?_))
   | exact ih0 _ _ _
   | exact spec_l02Text.mono _ _
   | exact LeO.none _
   | refine LeO.ite ?_ ?_
   | refine LeO.bind ?_ (fun _=>?_)
theorem spec_l02Value.mono:∀ a0 k,LeO (spec_l02Value.f k a0) (spec_l02Value.f (k+1) a0):=by
 intro a0 k
 have ih0:=spec_l02Value.mono_l k
 unfold spec_l02Value.f
 repeat' first
  | (with_reducible exact ih0 _ _ _)
  | (with_reducible exact spec_l02Text.mono _ _)
  | (with_reducible exact LeO.refl _)
  | (with_reducible exact LeO.none _)
  | (with_reducible refine LeO.ite ?_ ?_)
  | (with_reducible refine LeO.bind ?_ (fun _=>?_))
  | exact ih0 _ _ _
  | exact spec_l02Text.mono _ _
  | exact LeO.none _
  | refine LeO.ite ?_ ?_
  | refine LeO.bind ?_ (fun _=>?_)
set_option maxHeartbeats 8000000 in
set_option maxRecDepth 100000 in
theorem spec_l02Value.calls (k:Nat) (a0:ByteArray) (r:ByteArray) (w:World) (h:spec_l02Value.f k a0=some r) :
 Calls Tryd.prog 6 #[.string a0] w fun e w'=>e=.returned (.string r)∧Drawn0 w w':=by
 have H:(spec_l02Value.l0 k a0 (⟨#[]⟩:ByteArray) 0)=some r:=h
 clear h
 have H':=A_ H
 clear H
 go_enter Tryd.func6,Tryd.ntmps6
 go_wp2
 go_loopg [3,4] k (fun kq v3 v4 w'=>∃ (x3_1:ByteArray) (x4_1:Int),v3=.string x3_1∧v4=.int .i64 x4_1∧Aside0 (spec_l02Value.l0 kq a0 x3_1 x4_1=some r)∧Aside0 (kq≤k)∧Drawn0 w w')
 case atStart=>exact ⟨((⟨#[]⟩:ByteArray)),(0),(by first|rfl|(simp;done)|(simp [*];done)),(by first|rfl|(simp;done)|(simp [*];done)),H',⟨Nat.le_refl _⟩,by repeat (first|exact dr_ _|apply dp_)⟩
 case round =>
  clear H'
  obtain ⟨x3_1,x4_1,rfl,rfl,HA,HK1,⟨m1,rfl⟩⟩:=hrel
  cases gk with
  | zero=>exact absurd HA.out (by simp [spec_l02Value.l0])
  | succ k1 =>
   have H:=HA.out
   clear HA
   simp only [spec_l02Value.l0] at H
   by_cases c2:x4_1<(a0.size:Int)
   ·rw [if_pos c2] at H
    have c2b0:decide (x4_1<(a0.size:Int))=true:=dt_ c2
    clear c2
    by_cases c3:0≤x4_1
    ·rw [if_pos c3] at H
     have c3b0:decide (0≤x4_1)=true:=dt_ c3
     clear c3
     by_cases c5:(bt a0 x4_1)=34
     ·rw [if_pos c5] at H
      have c5b0:((bt a0 x4_1) == 34)=true:=beq_iff_eq.mpr c5
      have c5b1:((bt a0 x4_1) != 34)=false:=bne_eq_false_iff_eq.mpr c5
      clear c5
      by_cases c6:x3_1.size+6≤9223372036854775807
      ·rw [if_pos c6] at H
       have c6b0:=eq_true c6
       have c6b1:decide (x3_1.size+6≤9223372036854775807)=true:=dt_ c6
       try have c6b2:(9223372036854775807<x3_1.size+6)=False:=eq_false (Nat.not_lt.2 c6)
       have H':=A_ H
       clear H
       have p4:0≤(x4_1:Int):=od_ (by first|(with_reducible assumption)|assumption)
       have q4:x4_1<(a0.size:Int):=od_ (by first|(with_reducible assumption)|assumption)
       have hx4:=bt_at a0 x4_1
       replace p4:=eq_true p4
       replace q4:=eq_true q4
       go_wp2
       go_roundg k1
       case measure=>have:=HK1.out;omega
       case rel=>exact ⟨(x3_1++(⟨#[38,113,117,111,116,59]⟩:ByteArray)),(wrap64 (x4_1+1)),(by first|rfl|(simp;done)|(simp [*];done)),(by first|rfl|(simp;done)|(simp [*];done)),H',⟨by have:=HK1.out;omega⟩,by repeat (first|exact dr_ _|apply dp_)⟩
      ·rw [if_neg c6] at H
       exact absurd H (by simp)
     ·rw [if_neg c5] at H
      have c5b0:((bt a0 x4_1) == 34)=false:=beq_eq_false_iff_ne.mpr c5
      have c5b1:((bt a0 x4_1) != 34)=true:=bne_iff_ne.mpr c5
      have c7b0:=eq_true (od_ (by first|(with_reducible assumption)|assumption):0≤x4_1)
      by_cases c8:x4_1≤(wrap64 (x4_1+1))
      ·rw [if_pos c8] at H
       have c8b0:=eq_true c8
       have c8b1:decide (x4_1≤(wrap64 (x4_1+1)))=true:=dt_ c8
       by_cases c9:(wrap64 (x4_1+1))≤(a0.size:Int)
       ·rw [if_pos c9] at H
        have c9b0:=eq_true c9
        have c9b1:decide ((wrap64 (x4_1+1))≤(a0.size:Int))=true:=dt_ c9
        replace H:=Option.bind_eq_some_iff.mp H
        obtain ⟨t101,A100,H⟩:=H
        replace H:(if x3_1.size+t101.size≤9223372036854775807 then (spec_l02Value.l0 k1 a0 (x3_1++t101) (wrap64 (x4_1+1))) else (none))=some r:=H
        have A10:=A_ A100
        clear A100
        by_cases c11:x3_1.size+t101.size≤9223372036854775807
        ·rw [if_pos c11] at H
         have c11b0:=eq_true c11
         have c11b1:decide (x3_1.size+t101.size≤9223372036854775807)=true:=dt_ c11
         try have c11b2:(9223372036854775807<x3_1.size+t101.size)=False:=eq_false (Nat.not_lt.2 c11)
         have H':=A_ H
         clear H
         have p4:0≤(x4_1:Int):=od_ (by first|(with_reducible assumption)|assumption)
         have q4:x4_1<(a0.size:Int):=od_ (by first|(with_reducible assumption)|assumption)
         have hx4:=bt_at a0 x4_1
         replace p4:=eq_true p4
         replace q4:=eq_true q4
         go_wp2_with (first|((with_reducible refine gate_callee (f:=9) rfl ?_);refine goesL_ (some 23) rfl rfl Tryd.func9 (by kernel_rfl) rfl #[.string (a0.extract (x4_1:Int).toNat ((wrap64 (x4_1+1)):Int).toNat)] rfl (by (try simp only [List.map_toArray,List.map_cons,List.map_nil]);first|done|rfl|(simp only [List.length_drop,lt_];rfl)) ?_;(with_reducible refine (spec_l02Text.calls k1 (a0.extract (x4_1:Int).toNat ((wrap64 (x4_1+1)):Int).toNat) t101 _ A10.out).mono ?_);rintro e w' ⟨rfl,⟨nd,rfl⟩⟩;refine ⟨_,rfl,?_⟩))
         go_roundg k1
         case measure=>have:=HK1.out;omega
         case rel=>exact ⟨(x3_1++t101),(wrap64 (x4_1+1)),(by first|rfl|(simp;done)|(simp [*];done)),(by first|rfl|(simp;done)|(simp [*];done)),H',⟨by have:=HK1.out;omega⟩,by repeat (first|exact dr_ _|apply dp_)⟩
        ·rw [if_neg c11] at H
         exact absurd H (by simp)
       ·rw [if_neg c9] at H
        exact absurd H (by simp)
      ·rw [if_neg c8] at H
       exact absurd H (by simp)
    ·rw [if_neg c3] at H
     exact absurd H (by simp)
   ·rw [if_neg c2] at H
    have c2b0:decide (x4_1<(a0.size:Int))=false:=df_ c2
    clear c2
    obtain rfl:=oi_ H
    go_wp2
    go_ret
    exact ⟨by first|rfl|(simp;done)|(simp [*];done),by repeat (first|exact dr_ _|apply dp_)⟩
/-! ### spec_EscapeValue: function 4 -/
def spec_EscapeValue.f (k:Nat) (a0:ByteArray):Option (ByteArray):=if (a0.size:Int)>65536 then (some (⟨#[]⟩:ByteArray)) else ((spec_l02Value.f k a0).bind fun t102=>(some t102))
theorem spec_EscapeValue.mono:∀ a0 k,LeO (spec_EscapeValue.f k a0) (spec_EscapeValue.f (k+1) a0):=by
 intro a0 k
 unfold spec_EscapeValue.f
 repeat' first
  | (with_reducible exact spec_l02Value.mono _ _)
  | (with_reducible exact LeO.refl _)
  | (with_reducible exact LeO.none _)
  | (with_reducible refine LeO.ite ?_ ?_)
  | (with_reducible refine LeO.bind ?_ (fun _=>?_))
  | exact spec_l02Value.mono _ _
  | exact LeO.none _
  | refine LeO.ite ?_ ?_
  | refine LeO.bind ?_ (fun _=>?_)
set_option maxHeartbeats 8000000 in
set_option maxRecDepth 100000 in
theorem spec_EscapeValue.calls (k:Nat) (a0:ByteArray) (r:ByteArray) (w:World) (h:spec_EscapeValue.f k a0=some r) :
 Calls Tryd.prog 4 #[.string a0] w fun e w'=>e=.returned (.string r)∧Drawn0 w w':=by
 have H:(if (a0.size:Int)>65536 then (some (⟨#[]⟩:ByteArray)) else ((spec_l02Value.f k a0).bind fun t102=>(some t102)))=some r:=h
 clear h
 by_cases c2:(a0.size:Int)>65536
 ·rw [if_pos c2] at H
  have c2b0:decide (65536<(a0.size:Int))=true:=dt_ c2
  have c2b1:decide (65536<a0.size)=true:=dt_ (by omega)
  clear c2
  obtain rfl:=oi_ H
  go_enter Tryd.func4,Tryd.ntmps4
  go_wp2
  go_ret
  exact ⟨by first|rfl|(simp;done)|(simp [*];done),by repeat (first|exact dr_ _|apply dp_)⟩
 ·rw [if_neg c2] at H
  have c2b0:decide (65536<(a0.size:Int))=false:=df_ c2
  have c2b1:decide (65536<a0.size)=false:=df_ (by omega)
  clear c2
  replace H:=Option.bind_eq_some_iff.mp H
  obtain ⟨t102,A30,H⟩:=H
  replace H:(some t102)=some r:=H
  have A3:=A_ A30
  clear A30
  obtain rfl:=oi_ H
  go_enter Tryd.func4,Tryd.ntmps4
  go_wp2_with (first|((with_reducible refine gate_callee (f:=6) rfl ?_);refine goesL_ (some 7) rfl rfl Tryd.func6 (by kernel_rfl) rfl #[.string a0] rfl (by (try simp only [List.map_toArray,List.map_cons,List.map_nil]);first|done|rfl|(simp only [List.length_drop,lt_];rfl)) ?_;(with_reducible refine (spec_l02Value.calls k a0 t102 _ A3.out).mono ?_);rintro e w' ⟨rfl,⟨nd,rfl⟩⟩;refine ⟨_,rfl,?_⟩))
  go_ret
  exact ⟨by first|rfl|(simp;done)|(simp [*];done),by repeat (first|exact dr_ _|apply dp_)⟩
/-! ### IndexFunc_string: function 14, by hand -/
set_option maxHeartbeats 1000000 in
/-- slices.IndexFunc at this type, whatever the predicate: the first place at which it holds. -/
theorem IndexFunc_string.holds (A:Option Addr) (n c:Nat) (v:Nat→Value) (p:Nat→Bool) (g:Nat) (lb:Array Value) (eg:∀ args w,(callFunc g args).run Tryd.prog w=.ok (.enter g args) w) (w:World)
 (hp:∀ j,j<n→∀ W,Below w.heap.size w W→Calls Tryd.prog g (#[v j]++lb) W fun e w'=>e=.returned (.bool (p j))∧Below w.heap.size w w')
 (hbig:n≤9223372036854775807) (hc:∀ j,j<n→∃ ad,A=some ad∧w.cell? (ad.add j)=some (v j)) :
 Calls Tryd.prog 14 #[.slice A n c,.func (.func g) #[] lb] w fun e w'=>e=.returned (.int .i64 (Mach.idxP p n))∧Below w.heap.size w w':=by
 have HC:=A_ hc
 have HP:=A_ hp
 clear hc hp
 go_enter Tryd.func14,Tryd.ntmps14
 go_wp2
 go_loopg [5,8] n (fun gg _ s8 wr=>∃ kk:Nat,kk≤n∧n - kk≤gg∧s8=.int .i64 kk∧Aside0 (Below w.heap.size w wr)∧Aside0 (∀ j,j<kk→p j=false))
 case atStart=>exact ⟨0,Nat.zero_le _,by omega,rfl,⟨Below.refl _ w⟩,⟨fun j hj=>absurd hj (Nat.not_lt_zero _)⟩⟩
 case round =>
  obtain ⟨kk,hkk,hg,rfl,BW,AA⟩:=hrel
  by_cases hlt:kk<n
  ·have hltz:(kk:Int)<(n:Int):=by omega
   obtain ⟨ad,e,l1⟩:=HC.out kk hlt
   cases e
   have l2:wr.cell? (ad.add kk)=some (v kk):=pw_cell_below BW.out l1
   clear l1
   have hcall:=HP.out kk hlt wr BW.out
   cases hq:p kk with
   | true =>
    rw [hq] at hcall
    go_wp2_with ((with_reducible refine hcall.mono ?_);rintro e w' ⟨rfl,hb'⟩)
    go_ret
    refine ⟨?_,hb'⟩
    rw [Mach.idxP_hit p n kk hlt hq AA.out]
    rfl
   | false =>
    rw [hq] at hcall
    go_wp2_with ((with_reducible refine hcall.mono ?_);rintro e w' ⟨rfl,hb'⟩)
    go_roundg (n - (kk+1))
    case measure=>omega
    case rel =>
     refine ⟨kk+1,by omega,by omega,by go_num,⟨hb'⟩,⟨fun j hj=>?_⟩⟩
     by_cases e:j=kk
     ·subst e;exact hq
     ·exact AA.out j (by omega)
  ·have hltz:¬ (kk:Int)<(n:Int):=by omega
   have:kk=n:=by omega
   subst this
   go_wp2
   go_ret
   refine ⟨?_,BW.out⟩
   rw [Mach.idxP_miss p kk AA.out]
   rfl
end Go.Proofs.YtpoaaomcpleebaaDoor.PFnExactEscapeValue
