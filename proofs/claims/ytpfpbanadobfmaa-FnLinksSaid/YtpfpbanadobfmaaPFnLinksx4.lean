/- By a program of this session, out of the kit's print and contracts made by hand: the machine side of a law; Lean checks it. No conditions. -/
import Derived.Test.YtpfpbanadobfmaaPFnLinksx0
namespace Go.Proofs.Ytpfpbanadobfmaa.PFnLinks
open Go.RowKit Go.Proofs.YtpfpbanadobfmaaW.PrintWords Go.Proofs.YtpfpbanadobfmaaW.PrintLast Go.Proofs.YtpfpbanadobfmaaW.PrintMore
attribute [local go_sem] max2_int min2_int max_two min_two max_three min_three max_four min_four
set_option linter.unusedVariables false
set_option linter.unusedSimpArgs false
/-! ### spec_l01Bad: function 13 -/
mutual
def spec_l01Bad.l0:Nat→ByteArray→ByteArray→Int→Int→Option (Bool)
 | 0,_,_,_,_=>none
 | k+1,x0,x3,x4,x5=>if x5<(x0.size:Int) then (spec_l01Bad.j1 k x0 x3 x4 x5 (decide (x4<(x3.size:Int)))) else (spec_l01Bad.j1 k x0 x3 x4 x5 false)
def spec_l01Bad.j1:Nat→ByteArray→ByteArray→Int→Int→Bool→Option (Bool)
 | 0,_,_,_,_,_=>none
 | k+1,x0,x3,x4,x5,x16=>if x16=true then (if 0≤x5 then (if x5<(x0.size:Int) then (if (bt x0 x5)=9 then (spec_l01Bad.j2 k x0 x3 x4 x5 (bt x0 x5) true) else (if (bt x0 x5)=10 then (spec_l01Bad.j2 k x0 x3 x4 x5 (bt x0 x5) true) else (if (bt x0 x5)=13 then (spec_l01Bad.j2 k x0 x3 x4 x5 (bt x0 x5) true) else (if x4=0 then (spec_l01Bad.j2 k x0 x3 x4 x5 (bt x0 x5) (decide ((bt x0 x5)≤32))) else (spec_l01Bad.j2 k x0 x3 x4 x5 (bt x0 x5) false))))) else (none)) else (none)) else (some (x4 == (x3.size:Int)))
def spec_l01Bad.j2:Nat→ByteArray→ByteArray→Int→Int→Int→Bool→Option (Bool)
 | 0,_,_,_,_,_,_=>none
 | k+1,x0,x3,x4,x5,x6,x39=>if x39=true then (spec_l01Bad.l0 k x0 x3 x4 (wrap64 (x5+1))) else (if x6≥65 then (spec_l01Bad.j3 k x0 x3 x4 x5 x6 (decide (x6≤90))) else (spec_l01Bad.j3 k x0 x3 x4 x5 x6 false))
def spec_l01Bad.j3:Nat→ByteArray→ByteArray→Int→Int→Int→Bool→Option (Bool)
 | 0,_,_,_,_,_,_=>none
 | k+1,x0,x3,x4,x5,x6,x45=>if x45=true then (if 0≤x4 then (if x4<(x3.size:Int) then (if ((x6+32) % 256)=(bt x3 x4) then (spec_l01Bad.l0 k x0 x3 (wrap64 (x4+1)) (wrap64 (x5+1))) else (some false)) else (none)) else (none)) else (if 0≤x4 then (if x4<(x3.size:Int) then (if x6=(bt x3 x4) then (spec_l01Bad.l0 k x0 x3 (wrap64 (x4+1)) (wrap64 (x5+1))) else (some false)) else (none)) else (none))
end
def spec_l01Bad.f (k:Nat) (a0:ByteArray):Option (Bool):=spec_l01Bad.l0 k a0 (⟨#[106,97,118,97,115,99,114,105,112,116,58]⟩:ByteArray) 0 0
theorem spec_l01Bad.mono_l:∀ k,(∀ y0 y1 y2 y3,LeO (spec_l01Bad.l0 k y0 y1 y2 y3) (spec_l01Bad.l0 (k+1) y0 y1 y2 y3))∧(∀ y0 y1 y2 y3 y4,LeO (spec_l01Bad.j1 k y0 y1 y2 y3 y4) (spec_l01Bad.j1 (k+1) y0 y1 y2 y3 y4))∧(∀ y0 y1 y2 y3 y4 y5,LeO (spec_l01Bad.j2 k y0 y1 y2 y3 y4 y5) (spec_l01Bad.j2 (k+1) y0 y1 y2 y3 y4 y5))∧(∀ y0 y1 y2 y3 y4 y5,LeO (spec_l01Bad.j3 k y0 y1 y2 y3 y4 y5) (spec_l01Bad.j3 (k+1) y0 y1 y2 y3 y4 y5))
 | 0=>⟨fun _ _ _ _ r h=>by simp [spec_l01Bad.l0] at h,fun _ _ _ _ _ r h=>by simp [spec_l01Bad.j1] at h,fun _ _ _ _ _ _ r h=>by simp [spec_l01Bad.j2] at h,fun _ _ _ _ _ _ r h=>by simp [spec_l01Bad.j3] at h⟩
 | k+1=>by
  obtain ⟨ih0,ih1,ih2,ih3⟩:=spec_l01Bad.mono_l k
  refine ⟨?_,?_,?_,?_⟩
  ·intro y0 y1 y2 y3
   unfold spec_l01Bad.l0
   repeat' first
   | (with_reducible exact ih0 _ _ _ _)
   | (with_reducible exact ih1 _ _ _ _ _)
   | (with_reducible exact ih2 _ _ _ _ _ _)
   | (with_reducible exact ih3 _ _ _ _ _ _)
   | (with_reducible exact LeO.refl _)
   | (with_reducible exact LeO.none _)
   | (with_reducible refine LeO.ite ?_ ?_)
   | (with_reducible refine LeO.bind ?_ (fun _=>?_))
   | exact ih0 _ _ _ _
   | exact ih1 _ _ _ _ _
   | exact ih2 _ _ _ _ _ _
   | exact ih3 _ _ _ _ _ _
   | exact LeO.none _
   | refine LeO.ite ?_ ?_
   | refine LeO.bind ?_ (fun _=>?_)
  ·intro y0 y1 y2 y3 y4
   unfold spec_l01Bad.j1
   repeat' first
   | (with_reducible exact ih0 _ _ _ _)
   | (with_reducible exact ih1 _ _ _ _ _)
   | (with_reducible exact ih2 _ _ _ _ _ _)
   | (with_reducible exact ih3 _ _ _ _ _ _)
   | (with_reducible exact LeO.refl _)
   | (with_reducible exact LeO.none _)
   | (with_reducible refine LeO.ite ?_ ?_)
   | (with_reducible refine LeO.bind ?_ (fun _=>?_))
   | exact ih0 _ _ _ _
   | exact ih1 _ _ _ _ _
   | exact ih2 _ _ _ _ _ _
   | exact ih3 _ _ _ _ _ _
   | exact LeO.none _
   | refine LeO.ite ?_ ?_
   | refine LeO.bind ?_ (fun _=>?_)
  ·intro y0 y1 y2 y3 y4 y5
   unfold spec_l01Bad.j2
   repeat' first
   | (with_reducible exact ih0 _ _ _ _)
   | (with_reducible exact ih1 _ _ _ _ _)
   | (with_reducible exact ih2 _ _ _ _ _ _)
   | (with_reducible exact ih3 _ _ _ _ _ _)
   | (with_reducible exact LeO.refl _)
   | (with_reducible exact LeO.none _)
   | (with_reducible refine LeO.ite ?_ ?_)
   | (with_reducible refine LeO.bind ?_ (fun _=>?_))
   | exact ih0 _ _ _ _
   | exact ih1 _ _ _ _ _
   | exact ih2 _ _ _ _ _ _
   | exact ih3 _ _ _ _ _ _
   | exact LeO.none _
   | refine LeO.ite ?_ ?_
   | refine LeO.bind ?_ (fun _=>?_)
  ·intro y0 y1 y2 y3 y4 y5
   unfold spec_l01Bad.j3
   repeat' first
   | (with_reducible exact ih0 _ _ _ _)
   | (with_reducible exact ih1 _ _ _ _ _)
   | (with_reducible exact ih2 _ _ _ _ _ _)
   | (with_reducible exact ih3 _ _ _ _ _ _)
   | (with_reducible exact LeO.refl _)
   | (with_reducible exact LeO.none _)
   | (with_reducible refine LeO.ite ?_ ?_)
   | (with_reducible refine LeO.bind ?_ (fun _=>?_))
   | exact ih0 _ _ _ _
   | exact ih1 _ _ _ _ _
   | exact ih2 _ _ _ _ _ _
   | exact ih3 _ _ _ _ _ _
   | exact LeO.none _
   | refine LeO.ite ?_ ?_
   | refine LeO.bind ?_ (fun _=>?_)
theorem spec_l01Bad.mono:∀ a0 k,LeO (spec_l01Bad.f k a0) (spec_l01Bad.f (k+1) a0):=by
 intro a0 k
 obtain ⟨ih0,ih1,ih2,ih3⟩:=spec_l01Bad.mono_l k
 unfold spec_l01Bad.f
 repeat' first
  | (with_reducible exact ih0 _ _ _ _)
  | (with_reducible exact ih1 _ _ _ _ _)
  | (with_reducible exact ih2 _ _ _ _ _ _)
  | (with_reducible exact ih3 _ _ _ _ _ _)
  | (with_reducible exact LeO.refl _)
  | (with_reducible exact LeO.none _)
  | (with_reducible refine LeO.ite ?_ ?_)
  | (with_reducible refine LeO.bind ?_ (fun _=>?_))
  | exact ih0 _ _ _ _
  | exact ih1 _ _ _ _ _
  | exact ih2 _ _ _ _ _ _
  | exact ih3 _ _ _ _ _ _
  | exact LeO.none _
  | refine LeO.ite ?_ ?_
  | refine LeO.bind ?_ (fun _=>?_)
set_option maxHeartbeats 8000000 in
set_option maxRecDepth 100000 in
theorem spec_l01Bad.calls (k:Nat) (a0:ByteArray) (r:Bool) (w:World) (h:spec_l01Bad.f k a0=some r) :
 Calls Try.prog 13 #[.string a0] w fun e w'=>e=.returned (.bool r)∧Drawn0 w w':=by
 have H:(spec_l01Bad.l0 k a0 (⟨#[106,97,118,97,115,99,114,105,112,116,58]⟩:ByteArray) 0 0)=some r:=h
 clear h
 have H':=A_ H
 clear H
 go_enter Try.func13,Try.ntmps13
 go_wp2
 go_loopg [4,5] k (fun kq v4 v5 w'=>∃ (x4_1:Int) (x5_1:Int),v4=.int .i64 x4_1∧v5=.int .i64 x5_1∧Aside0 (spec_l01Bad.l0 kq a0 (⟨#[106,97,118,97,115,99,114,105,112,116,58]⟩:ByteArray) x4_1 x5_1=some r)∧Aside0 (kq≤k)∧Drawn0 w w')
 case atStart=>exact ⟨(0),(0),(by first|rfl|(simp;done)|(simp [*];done)),(by first|rfl|(simp;done)|(simp [*];done)),H',⟨Nat.le_refl _⟩,by repeat (first|exact dr_ _|apply dp_)⟩
 case round =>
  clear H'
  try clear c1
  obtain ⟨x4_1,x5_1,rfl,rfl,HA,HK1,⟨m1,rfl⟩⟩:=hrel
  cases gk with
  | zero=>exact absurd HA.out (by simp [spec_l01Bad.l0])
  | succ k1 =>
   have H:=HA.out
   clear HA
   simp only [spec_l01Bad.l0] at H
   have HC2:=A_ H
   clear H
   go_upto_region 4 with (fail)
   go_cut [16] (fun v16 wc=>∃ (kq:Nat) (x16_1:Bool),v16=.bool x16_1∧Aside0 (spec_l01Bad.j1 kq a0 (⟨#[106,97,118,97,115,99,114,105,112,116,58]⟩:ByteArray) x4_1 x5_1 x16_1=some r)∧Aside0 (kq≤k1)∧Drawn0 w wc)
   case first =>
    have H:=HC2.out
    clear HC2
    by_cases c3:x5_1<(a0.size:Int)
    ·rw [if_pos c3] at H
     have c3b0:decide (x5_1<(a0.size:Int))=true:=dt_ c3
     clear c3
     (first|rw [c3b0]|(simp only [i64_w,i32_w];rw [c3b0])|skip)
     have H':=A_ H
     clear H
     go_wp2
     go_meet
     case rel=>exact ⟨_,(decide (x4_1<((⟨#[106,97,118,97,115,99,114,105,112,116,58]⟩:ByteArray).size:Int))),(by first|rfl|(simp;done)|(simp [*];done)),H',⟨by have:=HK1.out;first|omega|exact Nat.le_refl _⟩,by repeat (first|exact dr_ _|apply dp_)⟩
    ·rw [if_neg c3] at H
     have c3b0:decide (x5_1<(a0.size:Int))=false:=df_ c3
     clear c3
     (first|rw [c3b0]|(simp only [i64_w,i32_w];rw [c3b0])|skip)
     have H':=A_ H
     clear H
     go_wp2
     go_meet
     case rel=>exact ⟨_,(false),(by first|rfl|(simp;done)|(simp [*];done)),H',⟨by have:=HK1.out;first|omega|exact Nat.le_refl _⟩,by repeat (first|exact dr_ _|apply dp_)⟩
   case rest =>
    clear HC2
    try clear c1
    try clear p2
    try clear c3
    try clear c3b0
    obtain ⟨kq,x16_1,rfl,HA,HJ1,⟨mc1,rfl⟩⟩:=hcut
    cases kq with
    | zero=>exact absurd HA.out (by simp [spec_l01Bad.j1])
    | succ kj1 =>
     have H:=HA.out
     clear HA
     simp only [spec_l01Bad.j1] at H
     by_cases c4:x16_1=true
     ·subst c4
      have H1:(if 0≤x5_1 then (if x5_1<(a0.size:Int) then (if (bt a0 x5_1)=9 then (spec_l01Bad.j2 kj1 a0 (⟨#[106,97,118,97,115,99,114,105,112,116,58]⟩:ByteArray) x4_1 x5_1 (bt a0 x5_1) true) else (if (bt a0 x5_1)=10 then (spec_l01Bad.j2 kj1 a0 (⟨#[106,97,118,97,115,99,114,105,112,116,58]⟩:ByteArray) x4_1 x5_1 (bt a0 x5_1) true) else (if (bt a0 x5_1)=13 then (spec_l01Bad.j2 kj1 a0 (⟨#[106,97,118,97,115,99,114,105,112,116,58]⟩:ByteArray) x4_1 x5_1 (bt a0 x5_1) true) else (if x4_1=0 then (spec_l01Bad.j2 kj1 a0 (⟨#[106,97,118,97,115,99,114,105,112,116,58]⟩:ByteArray) x4_1 x5_1 (bt a0 x5_1) (decide ((bt a0 x5_1)≤32))) else (spec_l01Bad.j2 kj1 a0 (⟨#[106,97,118,97,115,99,114,105,112,116,58]⟩:ByteArray) x4_1 x5_1 (bt a0 x5_1) false))))) else (none)) else (none))=some r:=by rw [if_pos rfl] at H;exact H
      clear H
      have H:=H1
      clear H1
      by_cases c5:0≤x5_1
      ·rw [if_pos c5] at H
       have c5b0:decide (0≤x5_1)=true:=dt_ c5
       clear c5
       by_cases c6:x5_1<(a0.size:Int)
       ·rw [if_pos c6] at H
        have c6b0:decide (x5_1<(a0.size:Int))=true:=dt_ c6
        clear c6
        have HC8:=A_ H
        clear H
        have p7:0≤(x5_1:Int):=od_ (by first|(with_reducible assumption)|assumption)
        have q7:x5_1<(a0.size:Int):=od_ (by first|(with_reducible assumption)|assumption)
        have hx7:=bt_at a0 x5_1
        replace p7:=eq_true p7
        replace q7:=eq_true q7
        go_upto_region 7 with (fail)
        go_cut [39] (fun v39 wc=>∃ (kq:Nat) (x39_7:Bool),v39=.bool x39_7∧Aside0 (spec_l01Bad.j2 kq a0 (⟨#[106,97,118,97,115,99,114,105,112,116,58]⟩:ByteArray) x4_1 x5_1 (bt a0 x5_1) x39_7=some r)∧Aside0 (kq≤kj1)∧Drawn0 w wc)
        case first =>
         have H:=HC8.out
         clear HC8
         by_cases c9:(bt a0 x5_1)=9
         ·rw [if_pos c9] at H
          have c9b0:((bt a0 x5_1) == 9)=true:=beq_iff_eq.mpr c9
          have c9b1:((bt a0 x5_1) != 9)=false:=bne_eq_false_iff_eq.mpr c9
          clear c9
          (first|rw [c9b0]|(simp only [i64_w,i32_w];rw [c9b0])|skip)
          have H':=A_ H
          clear H
          go_wp2
          go_meet
          case rel=>exact ⟨_,(true),(by first|rfl|(simp;done)|(simp [*];done)),H',⟨by have:=HK1.out;have:=HJ1.out;first|omega|exact Nat.le_refl _⟩,by repeat (first|exact dr_ _|apply dp_)⟩
         ·rw [if_neg c9] at H
          have c9b0:((bt a0 x5_1) == 9)=false:=beq_eq_false_iff_ne.mpr c9
          have c9b1:((bt a0 x5_1) != 9)=true:=bne_iff_ne.mpr c9
          (first|rw [c9b0]|(simp only [i64_w,i32_w];rw [c9b0])|skip)
          by_cases c10:(bt a0 x5_1)=10
          ·rw [if_pos c10] at H
           have c10b0:((bt a0 x5_1) == 10)=true:=beq_iff_eq.mpr c10
           have c10b1:((bt a0 x5_1) != 10)=false:=bne_eq_false_iff_eq.mpr c10
           clear c10
           have H':=A_ H
           clear H
           go_wp2
           go_meet
           case rel=>exact ⟨_,(true),(by first|rfl|(simp;done)|(simp [*];done)),H',⟨by have:=HK1.out;have:=HJ1.out;first|omega|exact Nat.le_refl _⟩,by repeat (first|exact dr_ _|apply dp_)⟩
          ·rw [if_neg c10] at H
           have c10b0:((bt a0 x5_1) == 10)=false:=beq_eq_false_iff_ne.mpr c10
           have c10b1:((bt a0 x5_1) != 10)=true:=bne_iff_ne.mpr c10
           by_cases c11:(bt a0 x5_1)=13
           ·rw [if_pos c11] at H
            have c11b0:((bt a0 x5_1) == 13)=true:=beq_iff_eq.mpr c11
            have c11b1:((bt a0 x5_1) != 13)=false:=bne_eq_false_iff_eq.mpr c11
            clear c11
            have H':=A_ H
            clear H
            go_wp2
            go_meet
            case rel=>exact ⟨_,(true),(by first|rfl|(simp;done)|(simp [*];done)),H',⟨by have:=HK1.out;have:=HJ1.out;first|omega|exact Nat.le_refl _⟩,by repeat (first|exact dr_ _|apply dp_)⟩
           ·rw [if_neg c11] at H
            have c11b0:((bt a0 x5_1) == 13)=false:=beq_eq_false_iff_ne.mpr c11
            have c11b1:((bt a0 x5_1) != 13)=true:=bne_iff_ne.mpr c11
            by_cases c12:x4_1=0
            ·rw [if_pos c12] at H
             have c12b0:(x4_1 == 0)=true:=beq_iff_eq.mpr c12
             have c12b1:(x4_1 != 0)=false:=bne_eq_false_iff_eq.mpr c12
             clear c12
             have H':=A_ H
             clear H
             go_wp2
             go_meet
             case rel=>exact ⟨_,(decide ((bt a0 x5_1)≤32)),(by first|rfl|(simp;done)|(simp [*];done)),H',⟨by have:=HK1.out;have:=HJ1.out;first|omega|exact Nat.le_refl _⟩,by repeat (first|exact dr_ _|apply dp_)⟩
            ·rw [if_neg c12] at H
             have c12b0:(x4_1 == 0)=false:=beq_eq_false_iff_ne.mpr c12
             have c12b1:(x4_1 != 0)=true:=bne_iff_ne.mpr c12
             have H':=A_ H
             clear H
             go_wp2
             go_meet
             case rel=>exact ⟨_,(false),(by first|rfl|(simp;done)|(simp [*];done)),H',⟨by have:=HK1.out;have:=HJ1.out;first|omega|exact Nat.le_refl _⟩,by repeat (first|exact dr_ _|apply dp_)⟩
        case rest =>
         clear HC8
         try clear c1
         try clear p2
         try clear c3
         try clear c3b0
         try clear c4
         try clear c5
         try clear c5b0
         try clear c6
         try clear c6b0
         try clear p7
         try clear q7
         try clear hx7
         try clear c9
         try clear c9b0
         try clear c9b1
         try clear c10
         try clear c10b0
         try clear c10b1
         try clear c11
         try clear c11b0
         try clear c11b1
         try clear c12
         try clear c12b0
         try clear c12b1
         try clear p2
         try clear p7
         try clear q7
         obtain ⟨kq,x39_7,rfl,HA,HJ7,⟨mc7,rfl⟩⟩:=hcut
         cases kq with
         | zero=>exact absurd HA.out (by simp [spec_l01Bad.j2])
         | succ kj7 =>
          have H:=HA.out
          clear HA
          simp only [spec_l01Bad.j2] at H
          by_cases c13:x39_7=true
          ·subst c13
           have H1:(spec_l01Bad.l0 kj7 a0 (⟨#[106,97,118,97,115,99,114,105,112,116,58]⟩:ByteArray) x4_1 (wrap64 (x5_1+1)))=some r:=by rw [if_pos rfl] at H;exact H
           clear H
           have H:=H1
           clear H1
           have H':=A_ H
           clear H
           go_wp2
           go_roundg kj7
           case measure=>have:=HK1.out;have:=HJ1.out;have:=HJ7.out;omega
           case rel=>exact ⟨(x4_1),(wrap64 (x5_1+1)),(by first|rfl|(simp;done)|(simp [*];done)),(by first|rfl|(simp;done)|(simp [*];done)),H',⟨by have:=HK1.out;have:=HJ1.out;have:=HJ7.out;omega⟩,by repeat (first|exact dr_ _|apply dp_)⟩
          ·replace c13:=Bool.eq_false_iff.mpr c13
           subst c13
           have H1:(if (bt a0 x5_1)≥65 then (spec_l01Bad.j3 kj7 a0 (⟨#[106,97,118,97,115,99,114,105,112,116,58]⟩:ByteArray) x4_1 x5_1 (bt a0 x5_1) (decide ((bt a0 x5_1)≤90))) else (spec_l01Bad.j3 kj7 a0 (⟨#[106,97,118,97,115,99,114,105,112,116,58]⟩:ByteArray) x4_1 x5_1 (bt a0 x5_1) false))=some r:=by rw [if_neg (show ¬ (false=true) by decide)] at H;exact H
           clear H
           have H:=H1
           clear H1
           have HC14:=A_ H
           clear H
           go_upto_region 8 with (fail)
           go_cut [45] (fun v45 wc=>∃ (kq:Nat) (x45_13:Bool),v45=.bool x45_13∧Aside0 (spec_l01Bad.j3 kq a0 (⟨#[106,97,118,97,115,99,114,105,112,116,58]⟩:ByteArray) x4_1 x5_1 (bt a0 x5_1) x45_13=some r)∧Aside0 (kq≤kj7)∧Drawn0 w wc)
           case first =>
            have H:=HC14.out
            clear HC14
            by_cases c15:(bt a0 x5_1)≥65
            ·rw [if_pos c15] at H
             have c15b0:decide (65≤(bt a0 x5_1))=true:=dt_ c15
             clear c15
             (first|rw [c15b0]|(simp only [i64_w,i32_w];rw [c15b0])|skip)
             have H':=A_ H
             clear H
             go_wp2
             go_meet
             case rel=>exact ⟨_,(decide ((bt a0 x5_1)≤90)),(by first|rfl|(simp;done)|(simp [*];done)),H',⟨by have:=HK1.out;have:=HJ1.out;have:=HJ7.out;first|omega|exact Nat.le_refl _⟩,by repeat (first|exact dr_ _|apply dp_)⟩
            ·rw [if_neg c15] at H
             have c15b0:decide (65≤(bt a0 x5_1))=false:=df_ c15
             clear c15
             (first|rw [c15b0]|(simp only [i64_w,i32_w];rw [c15b0])|skip)
             have H':=A_ H
             clear H
             go_wp2
             go_meet
             case rel=>exact ⟨_,(false),(by first|rfl|(simp;done)|(simp [*];done)),H',⟨by have:=HK1.out;have:=HJ1.out;have:=HJ7.out;first|omega|exact Nat.le_refl _⟩,by repeat (first|exact dr_ _|apply dp_)⟩
           case rest =>
            clear HC14
            try clear c1
            try clear p2
            try clear c3
            try clear c3b0
            try clear c4
            try clear c5
            try clear c5b0
            try clear c6
            try clear c6b0
            try clear p6
            try clear c7
            try clear p7
            try clear q7
            try clear hx7
            try clear c9
            try clear c9b0
            try clear c9b1
            try clear c10
            try clear c10b0
            try clear c10b1
            try clear c11
            try clear c11b0
            try clear c11b1
            try clear c12
            try clear c12b0
            try clear c12b1
            try clear c13
            try clear c15
            try clear c15b0
            try clear p2
            try clear p7
            try clear q7
            obtain ⟨kq,x45_13,rfl,HA,HJ13,⟨mc13,rfl⟩⟩:=hcut
            cases kq with
            | zero=>exact absurd HA.out (by simp [spec_l01Bad.j3])
            | succ kj13 =>
             have H:=HA.out
             clear HA
             simp only [spec_l01Bad.j3] at H
             by_cases c16:x45_13=true
             ·subst c16
              have H1:(if 0≤x4_1 then (if x4_1<((⟨#[106,97,118,97,115,99,114,105,112,116,58]⟩:ByteArray).size:Int) then (if (((bt a0 x5_1)+32) % 256)=(bt (⟨#[106,97,118,97,115,99,114,105,112,116,58]⟩:ByteArray) x4_1) then (spec_l01Bad.l0 kj13 a0 (⟨#[106,97,118,97,115,99,114,105,112,116,58]⟩:ByteArray) (wrap64 (x4_1+1)) (wrap64 (x5_1+1))) else (some false)) else (none)) else (none))=some r:=by rw [if_pos rfl] at H;exact H
              clear H
              have H:=H1
              clear H1
              by_cases c17:0≤x4_1
              ·rw [if_pos c17] at H
               have c17b0:decide (0≤x4_1)=true:=dt_ c17
               clear c17
               by_cases c18:x4_1<((⟨#[106,97,118,97,115,99,114,105,112,116,58]⟩:ByteArray).size:Int)
               ·rw [if_pos c18] at H
                have c18b0:decide (x4_1<((⟨#[106,97,118,97,115,99,114,105,112,116,58]⟩:ByteArray).size:Int))=true:=dt_ c18
                clear c18
                by_cases c20:(((bt a0 x5_1)+32) % 256)=(bt (⟨#[106,97,118,97,115,99,114,105,112,116,58]⟩:ByteArray) x4_1)
                ·rw [if_pos c20] at H
                 have c20b0:((((bt a0 x5_1)+32) % 256) == (bt (⟨#[106,97,118,97,115,99,114,105,112,116,58]⟩:ByteArray) x4_1))=true:=beq_iff_eq.mpr c20
                 have c20b1:((((bt a0 x5_1)+32) % 256) != (bt (⟨#[106,97,118,97,115,99,114,105,112,116,58]⟩:ByteArray) x4_1))=false:=bne_eq_false_iff_eq.mpr c20
                 clear c20
                 have H':=A_ H
                 clear H
                 have p19:0≤(x4_1:Int):=od_ (by first|(with_reducible assumption)|assumption)
                 have q19:x4_1<(11:Int):=od_ (by first|(with_reducible assumption)|assumption)
                 have hx19:=bt_at (⟨#[106,97,118,97,115,99,114,105,112,116,58]⟩:ByteArray) x4_1
                 replace p19:=eq_true p19
                 replace q19:=eq_true q19
                 go_wp2
                 go_roundg kj13
                 case measure=>have:=HK1.out;have:=HJ1.out;have:=HJ7.out;have:=HJ13.out;omega
                 case rel=>exact ⟨(wrap64 (x4_1+1)),(wrap64 (x5_1+1)),(by first|rfl|(simp;done)|(simp [*];done)),(by first|rfl|(simp;done)|(simp [*];done)),H',⟨by have:=HK1.out;have:=HJ1.out;have:=HJ7.out;have:=HJ13.out;omega⟩,by repeat (first|exact dr_ _|apply dp_)⟩
                ·rw [if_neg c20] at H
                 have c20b0:((((bt a0 x5_1)+32) % 256) == (bt (⟨#[106,97,118,97,115,99,114,105,112,116,58]⟩:ByteArray) x4_1))=false:=beq_eq_false_iff_ne.mpr c20
                 have c20b1:((((bt a0 x5_1)+32) % 256) != (bt (⟨#[106,97,118,97,115,99,114,105,112,116,58]⟩:ByteArray) x4_1))=true:=bne_iff_ne.mpr c20
                 obtain rfl:=oi_ H
                 have p19:0≤(x4_1:Int):=od_ (by first|(with_reducible assumption)|assumption)
                 have q19:x4_1<(11:Int):=od_ (by first|(with_reducible assumption)|assumption)
                 have hx19:=bt_at (⟨#[106,97,118,97,115,99,114,105,112,116,58]⟩:ByteArray) x4_1
                 replace p19:=eq_true p19
                 replace q19:=eq_true q19
                 go_wp2
                 go_ret
                 exact ⟨by first|rfl|(simp;done)|(simp [*];done),by repeat (first|exact dr_ _|apply dp_)⟩
               ·rw [if_neg c18] at H
                exact absurd H (by simp)
              ·rw [if_neg c17] at H
               exact absurd H (by simp)
             ·replace c16:=Bool.eq_false_iff.mpr c16
              subst c16
              have H1:(if 0≤x4_1 then (if x4_1<((⟨#[106,97,118,97,115,99,114,105,112,116,58]⟩:ByteArray).size:Int) then (if (bt a0 x5_1)=(bt (⟨#[106,97,118,97,115,99,114,105,112,116,58]⟩:ByteArray) x4_1) then (spec_l01Bad.l0 kj13 a0 (⟨#[106,97,118,97,115,99,114,105,112,116,58]⟩:ByteArray) (wrap64 (x4_1+1)) (wrap64 (x5_1+1))) else (some false)) else (none)) else (none))=some r:=by rw [if_neg (show ¬ (false=true) by decide)] at H;exact H
              clear H
              have H:=H1
              clear H1
              by_cases c21:0≤x4_1
              ·rw [if_pos c21] at H
               have c21b0:decide (0≤x4_1)=true:=dt_ c21
               clear c21
               by_cases c22:x4_1<((⟨#[106,97,118,97,115,99,114,105,112,116,58]⟩:ByteArray).size:Int)
               ·rw [if_pos c22] at H
                have c22b0:decide (x4_1<((⟨#[106,97,118,97,115,99,114,105,112,116,58]⟩:ByteArray).size:Int))=true:=dt_ c22
                clear c22
                by_cases c24:(bt a0 x5_1)=(bt (⟨#[106,97,118,97,115,99,114,105,112,116,58]⟩:ByteArray) x4_1)
                ·rw [if_pos c24] at H
                 have c24b0:((bt a0 x5_1) == (bt (⟨#[106,97,118,97,115,99,114,105,112,116,58]⟩:ByteArray) x4_1))=true:=beq_iff_eq.mpr c24
                 have c24b1:((bt a0 x5_1) != (bt (⟨#[106,97,118,97,115,99,114,105,112,116,58]⟩:ByteArray) x4_1))=false:=bne_eq_false_iff_eq.mpr c24
                 clear c24
                 have H':=A_ H
                 clear H
                 have p23:0≤(x4_1:Int):=od_ (by first|(with_reducible assumption)|assumption)
                 have q23:x4_1<(11:Int):=od_ (by first|(with_reducible assumption)|assumption)
                 have hx23:=bt_at (⟨#[106,97,118,97,115,99,114,105,112,116,58]⟩:ByteArray) x4_1
                 replace p23:=eq_true p23
                 replace q23:=eq_true q23
                 go_wp2
                 go_roundg kj13
                 case measure=>have:=HK1.out;have:=HJ1.out;have:=HJ7.out;have:=HJ13.out;omega
                 case rel=>exact ⟨(wrap64 (x4_1+1)),(wrap64 (x5_1+1)),(by first|rfl|(simp;done)|(simp [*];done)),(by first|rfl|(simp;done)|(simp [*];done)),H',⟨by have:=HK1.out;have:=HJ1.out;have:=HJ7.out;have:=HJ13.out;omega⟩,by repeat (first|exact dr_ _|apply dp_)⟩
                ·rw [if_neg c24] at H
                 have c24b0:((bt a0 x5_1) == (bt (⟨#[106,97,118,97,115,99,114,105,112,116,58]⟩:ByteArray) x4_1))=false:=beq_eq_false_iff_ne.mpr c24
                 have c24b1:((bt a0 x5_1) != (bt (⟨#[106,97,118,97,115,99,114,105,112,116,58]⟩:ByteArray) x4_1))=true:=bne_iff_ne.mpr c24
                 obtain rfl:=oi_ H
                 have p23:0≤(x4_1:Int):=od_ (by first|(with_reducible assumption)|assumption)
                 have q23:x4_1<(11:Int):=od_ (by first|(with_reducible assumption)|assumption)
                 have hx23:=bt_at (⟨#[106,97,118,97,115,99,114,105,112,116,58]⟩:ByteArray) x4_1
                 replace p23:=eq_true p23
                 replace q23:=eq_true q23
                 go_wp2
                 go_ret
                 exact ⟨by first|rfl|(simp;done)|(simp [*];done),by repeat (first|exact dr_ _|apply dp_)⟩
               ·rw [if_neg c22] at H
                exact absurd H (by simp)
              ·rw [if_neg c21] at H
               exact absurd H (by simp)
       ·rw [if_neg c6] at H
        exact absurd H (by simp)
      ·rw [if_neg c5] at H
       exact absurd H (by simp)
     ·replace c4:=Bool.eq_false_iff.mpr c4
      subst c4
      have H1:(some (x4_1 == ((⟨#[106,97,118,97,115,99,114,105,112,116,58]⟩:ByteArray).size:Int)))=some r:=by rw [if_neg (show ¬ (false=true) by decide)] at H;exact H
      clear H
      have H:=H1
      clear H1
      obtain rfl:=oi_ H
      go_wp2
      go_ret
      exact ⟨by first|rfl|(simp;done)|(simp [*];done),by repeat (first|exact dr_ _|apply dp_)⟩
end Go.Proofs.Ytpfpbanadobfmaa.PFnLinks
