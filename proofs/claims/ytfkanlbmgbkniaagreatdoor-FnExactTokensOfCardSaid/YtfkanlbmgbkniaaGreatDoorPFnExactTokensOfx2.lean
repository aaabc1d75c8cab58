/- The machine side of a law, printed by a program. No conditions. -/
import Derived.Test.YtfkanlbmgbkniaaGreatDoorPFnExactTokensOfx0
namespace Go.Proofs.YtfkanlbmgbkniaaGreatDoor.PFnExactTokensOf
open Go.RowKit Go.Proofs.YtfkanlbmgbkniaaGreatDoorW.PrintWords Go.Proofs.YtfkanlbmgbkniaaGreatDoorW.PrintLast Go.Proofs.YtfkanlbmgbkniaaGreatDoorW.PrintMore
attribute [local go_sem] max2_int min2_int max_two min_two max_three min_three max_four min_four
set_option linter.unusedVariables false
set_option linter.unusedSimpArgs false
def spec_l01In.f (a0:Int) (a1:Int) (a2:Int):Option (Bool):=if a0≥a1 then (some (decide (a0≤a2))) else (some false)
set_option maxHeartbeats 8000000 in
set_option maxRecDepth 100000 in
theorem spec_l01In.calls (a0:Int) (a1:Int) (a2:Int) (r:Bool) (w:World) (h:spec_l01In.f a0 a1 a2=some r) :
 Calls Tryz.prog 15 #[.int .i64 a0,.int .i64 a1,.int .i64 a2] w fun e w'=>e=.returned (.bool r)∧Drawn0 w w':=by
 have H:(if a0≥a1 then (some (decide (a0≤a2))) else (some false))=some r:=h
 clear h
 by_cases c4:a0≥a1
 ·rw [if_pos c4] at H
  have c4b0:decide (a1≤a0)=true:=dt_ c4
  clear c4
  obtain rfl:=oi_ H
  go_enter Tryz.func15,Tryz.ntmps15
  go_wp2
  go_ret
  exact ⟨by first|rfl|(simp;done)|(simp [*];done),by repeat (first|exact dr_ _|apply dp_)⟩
 ·rw [if_neg c4] at H
  have c4b0:decide (a1≤a0)=false:=df_ c4
  clear c4
  obtain rfl:=oi_ H
  go_enter Tryz.func15,Tryz.ntmps15
  go_wp2
  go_ret
  exact ⟨by first|rfl|(simp;done)|(simp [*];done),by repeat (first|exact dr_ _|apply dp_)⟩
mutual
def spec_l00Number.j0:Nat→ByteArray→Int→Bool→Option (Int × Bool)
 | 0,_,_,_=>none
 | k+1,x0,x4,x14=>if x14=true then (if 1≤(x0.size:Int) then (spec_l00Number.j1 k (x0.extract 1 x0.size) (-1)) else (none)) else (spec_l00Number.j1 k x0 x4)
def spec_l00Number.j1:Nat→ByteArray→Int→Option (Int × Bool)
 | 0,_,_=>none
 | k+1,x0,x4=>if (x0.size:Int)=0 then (spec_l00Number.j2 k x0 x4 true) else (if (x0.size:Int)>18 then (spec_l00Number.j2 k x0 x4 true) else (if 0<(x0.size:Int) then (if (bt x0 0)=48 then (if (x0.size:Int)>1 then (spec_l00Number.j2 k x0 x4 true) else (spec_l00Number.j2 k x0 x4 (decide (x4<0)))) else (spec_l00Number.j2 k x0 x4 false)) else (none)))
def spec_l00Number.j2:Nat→ByteArray→Int→Bool→Option (Int × Bool)
 | 0,_,_,_=>none
 | k+1,x0,x4,x38=>if x38=true then (some (0,false)) else (spec_l00Number.l0 k x0 x4 0 0)
def spec_l00Number.l0:Nat→ByteArray→Int→Int→Int→Option (Int × Bool)
 | 0,_,_,_,_=>none
 | k+1,x0,x4,x5,x6=>if x6<(x0.size:Int) then (if 0≤x6 then (if (bt x0 x6)<48 then (some (0,false)) else (if (bt x0 x6)>57 then (some (0,false)) else (spec_l00Number.l0 k x0 x4 (wrap64 ((wrap64 ((wrap64 (x5 * 10))+(wrap64 (bt x0 x6)))) - 48)) (wrap64 (x6+1))))) else (none)) else (some (wrap64 (x4 * x5),true))
end
def spec_l00Number.f (k:Nat) (a0:ByteArray):Option (Int × Bool):=if (a0.size:Int)>0 then (if 0<(a0.size:Int) then (spec_l00Number.j0 k a0 1 ((bt a0 0) == 45)) else (none)) else (spec_l00Number.j0 k a0 1 false)
theorem spec_l00Number.mono_l:∀ k,(∀ y0 y1 y2,LeO (spec_l00Number.j0 k y0 y1 y2) (spec_l00Number.j0 (k+1) y0 y1 y2))∧(∀ y0 y1,LeO (spec_l00Number.j1 k y0 y1) (spec_l00Number.j1 (k+1) y0 y1))∧(∀ y0 y1 y2,LeO (spec_l00Number.j2 k y0 y1 y2) (spec_l00Number.j2 (k+1) y0 y1 y2))∧(∀ y0 y1 y2 y3,LeO (spec_l00Number.l0 k y0 y1 y2 y3) (spec_l00Number.l0 (k+1) y0 y1 y2 y3))
 | 0=>⟨fun _ _ _ r h=>by simp [spec_l00Number.j0] at h,fun _ _ r h=>by simp [spec_l00Number.j1] at h,fun _ _ _ r h=>by simp [spec_l00Number.j2] at h,fun _ _ _ _ r h=>by simp [spec_l00Number.l0] at h⟩
 | k+1=>by
  obtain ⟨ih0,ih1,ih2,ih3⟩:=spec_l00Number.mono_l k
  refine ⟨?_,?_,?_,?_⟩
  ·intro y0 y1 y2
   unfold spec_l00Number.j0
   repeat' first|(with_reducible first|exact ih0 ..|exact ih1 ..|exact ih2 ..|exact ih3 ..|exact LeO.refl _|exact LeO.none _|refine LeO.ite ?_ ?_|refine LeO.bind ?_ (fun _=>?_))|exact ih0 ..|exact ih1 ..|exact ih2 ..|exact ih3 ..|exact LeO.none _|refine LeO.ite ?_ ?_|refine LeO.bind ?_ (fun _=>?_)
  ·intro y0 y1
   unfold spec_l00Number.j1
   repeat' first|(with_reducible first|exact ih0 ..|exact ih1 ..|exact ih2 ..|exact ih3 ..|exact LeO.refl _|exact LeO.none _|refine LeO.ite ?_ ?_|refine LeO.bind ?_ (fun _=>?_))|exact ih0 ..|exact ih1 ..|exact ih2 ..|exact ih3 ..|exact LeO.none _|refine LeO.ite ?_ ?_|refine LeO.bind ?_ (fun _=>?_)
  ·intro y0 y1 y2
   unfold spec_l00Number.j2
   repeat' first|(with_reducible first|exact ih0 ..|exact ih1 ..|exact ih2 ..|exact ih3 ..|exact LeO.refl _|exact LeO.none _|refine LeO.ite ?_ ?_|refine LeO.bind ?_ (fun _=>?_))|exact ih0 ..|exact ih1 ..|exact ih2 ..|exact ih3 ..|exact LeO.none _|refine LeO.ite ?_ ?_|refine LeO.bind ?_ (fun _=>?_)
  ·intro y0 y1 y2 y3
   unfold spec_l00Number.l0
   repeat' first|(with_reducible first|exact ih0 ..|exact ih1 ..|exact ih2 ..|exact ih3 ..|exact LeO.refl _|exact LeO.none _|refine LeO.ite ?_ ?_|refine LeO.bind ?_ (fun _=>?_))|exact ih0 ..|exact ih1 ..|exact ih2 ..|exact ih3 ..|exact LeO.none _|refine LeO.ite ?_ ?_|refine LeO.bind ?_ (fun _=>?_)
theorem spec_l00Number.mono:∀ a0 k,LeO (spec_l00Number.f k a0) (spec_l00Number.f (k+1) a0):=by
 intro a0 k
 obtain ⟨ih0,ih1,ih2,ih3⟩:=spec_l00Number.mono_l k
 unfold spec_l00Number.f
 repeat' first|(with_reducible first|exact ih0 ..|exact ih1 ..|exact ih2 ..|exact ih3 ..|exact LeO.refl _|exact LeO.none _|refine LeO.ite ?_ ?_|refine LeO.bind ?_ (fun _=>?_))|exact ih0 ..|exact ih1 ..|exact ih2 ..|exact ih3 ..|exact LeO.none _|refine LeO.ite ?_ ?_|refine LeO.bind ?_ (fun _=>?_)
set_option maxHeartbeats 8000000 in
set_option maxRecDepth 100000 in
theorem spec_l00Number.calls (k:Nat) (a0:ByteArray) (r1:Int) (r2:Bool) (w:World) (h:spec_l00Number.f k a0=some (r1,r2)) :
 Calls Tryz.prog 80 #[.string a0] w fun e w'=>e=.returned (.tuple #[.int .i64 r1,.bool r2])∧Drawn0 w w':=by
 have H:(if (a0.size:Int)>0 then (if 0<(a0.size:Int) then (spec_l00Number.j0 k a0 1 ((bt a0 0) == 45)) else (none)) else (spec_l00Number.j0 k a0 1 false))=some (r1,r2):=h
 clear h
 have HC2:=A_ H
 clear H
 go_enter Tryz.func80,Tryz.ntmps80
 go_upto_region 2 with (fail)
 go_cut [14] (fun v14 wc=>∃ (kq:Nat) (x14_1:Bool),v14=.bool x14_1∧Aside0 (spec_l00Number.j0 kq a0 1 x14_1=some (r1,r2))∧Aside0 (kq≤k)∧Drawn0 w wc)
 case first =>
  have H:=HC2.out
  clear HC2
  by_cases c3:(a0.size:Int)>0
  ·rw [if_pos c3] at H
   have c3b0:decide (0<(a0.size:Int))=true:=dt_ c3
   have c3b1:decide (0<a0.size)=true:=dt_ (by omega)
   clear c3
   (first|rw [c3b0]|(simp only [i64_w,i32_w];rw [c3b0])|skip)
   by_cases c4:0<(a0.size:Int)
   ·rw [if_pos c4] at H
    have c4b0:decide (0<(a0.size:Int))=true:=dt_ c4
    have c4b1:decide (0<a0.size)=true:=dt_ (by omega)
    clear c4
    have H':=A_ H
    clear H
    have p5:0≤(0:Int):=(by omega)
    have q5:0<a0.size:=(by have:(0:Int)<(a0.size:Int):=oa_;omega)
    have hx5:∀ h:0<a0.size,((a0[0]'h).toNat:Int)=bt a0 0:=bt_at a0 0
    clear p5
    have qi5:(0<(a0.size:Int))=True:=eq_true (oa_)
    replace q5:=eq_true q5
    go_wp2
    go_meet
    case rel=>exact ⟨_,(((bt a0 0) == 45)),rs_,H',⟨by first|omega|exact Nat.le_refl _⟩,by repeat (first|exact dr_ _|apply dp_)⟩
   ·rw [if_neg c4] at H
    exact absurd H (by simp)
  ·rw [if_neg c3] at H
   have c3b0:decide (0<(a0.size:Int))=false:=df_ c3
   have c3b1:decide (0<a0.size)=false:=df_ (by omega)
   clear c3
   (first|rw [c3b0]|(simp only [i64_w,i32_w];rw [c3b0])|skip)
   have H':=A_ H
   clear H
   go_wp2
   go_meet
   case rel=>exact ⟨_,(false),rs_,H',⟨by first|omega|exact Nat.le_refl _⟩,by repeat (first|exact dr_ _|apply dp_)⟩
 case rest =>
  clear HC2
  try clear p2
  try clear c3
  try clear c3b0
  try clear c3b1
  try clear c4
  try clear c4b0
  try clear c4b1
  try clear p5
  try clear q5
  try clear hx5
  try clear qi5
  try clear p5
  try clear q5
  obtain ⟨kq,x14_1,rfl,HA,HJ1,⟨mc1,rfl⟩⟩:=hcut
  cases kq with
  | zero=>exact absurd HA.out (by simp [spec_l00Number.j0])
  | succ kj1 =>
   have H:=HA.out
   clear HA
   simp only [spec_l00Number.j0] at H
   have HC6:=A_ H
   clear H
   go_upto_if 14 with (fail)
   go_cut [0,4] (fun v0 v4 wc=>∃ (kq:Nat) (x0_5:ByteArray) (x4_5:Int),v0=.string x0_5∧v4=.int .i64 x4_5∧Aside0 (spec_l00Number.j1 kq x0_5 x4_5=some (r1,r2))∧Aside0 (kq≤kj1)∧Drawn0 w wc)
   case first =>
    have H:=HC6.out
    clear HC6
    by_cases c7:x14_1=true
    ·subst c7
     have H1:(if 1≤(a0.size:Int) then (spec_l00Number.j1 kj1 (a0.extract 1 a0.size) (-1)) else (none))=some (r1,r2):=by rw [if_pos rfl] at H;exact H
     clear H
     have H:=H1
     clear H1
     by_cases c8:1≤(a0.size:Int)
     ·rw [if_pos c8] at H
      have c8b0:=eq_true c8
      have c8b1:decide (1≤(a0.size:Int))=true:=dt_ c8
      clear c8
      have H':=A_ H
      clear H
      go_wp2
      go_meet
      case rel=>exact ⟨_,(a0.extract 1 a0.size),((-1)),rs_,rs_,H',⟨by have:=HJ1.out;first|omega|exact Nat.le_refl _⟩,by repeat (first|exact dr_ _|apply dp_)⟩
     ·rw [if_neg c8] at H
      exact absurd H (by simp)
    ·replace c7:=bm_ c7
     subst c7
     have H1:(spec_l00Number.j1 kj1 a0 1)=some (r1,r2):=by rw [if_neg (show ¬ (false=true) by decide)] at H;exact H
     clear H
     have H:=H1
     clear H1
     have H':=A_ H
     clear H
     go_wp2
     go_meet
     case rel=>exact ⟨_,(a0),(1),rs_,rs_,H',⟨by have:=HJ1.out;first|omega|exact Nat.le_refl _⟩,by repeat (first|exact dr_ _|apply dp_)⟩
   case rest =>
    clear HC6
    try clear c1
    try clear p2
    try clear c3
    try clear c3b0
    try clear c3b1
    try clear c4
    try clear c4b0
    try clear c4b1
    try clear p5
    try clear q5
    try clear hx5
    try clear qi5
    try clear c7
    try clear c8
    try clear c8b0
    try clear c8b1
    try clear p2
    try clear p5
    try clear q5
    obtain ⟨kq,x0_5,x4_5,rfl,rfl,HA,HJ5,⟨mc5,rfl⟩⟩:=hcut
    cases kq with
    | zero=>exact absurd HA.out (by simp [spec_l00Number.j1])
    | succ kj5 =>
     have H:=HA.out
     clear HA
     simp only [spec_l00Number.j1] at H
     have HC9:=A_ H
     clear H
     go_upto_region 5 with (fail)
     go_cut [38] (fun v38 wc=>∃ (kq:Nat) (x38_8:Bool),v38=.bool x38_8∧Aside0 (spec_l00Number.j2 kq x0_5 x4_5 x38_8=some (r1,r2))∧Aside0 (kq≤kj5)∧Drawn0 w wc)
     case first =>
      have H:=HC9.out
      clear HC9
      by_cases c10:(x0_5.size:Int)=0
      ·rw [if_pos c10] at H
       have c10b0:((x0_5.size:Int) == 0)=true:=beq_iff_eq.mpr c10
       have c10b1:((x0_5.size:Int) != 0)=false:=bne_eq_false_iff_eq.mpr c10
       clear c10
       (first|rw [c10b0]|(simp only [i64_w,i32_w];rw [c10b0])|skip)
       have H':=A_ H
       clear H
       go_wp2
       go_meet
       case rel=>exact ⟨_,(true),rs_,H',⟨by have:=HJ1.out;have:=HJ5.out;first|omega|exact Nat.le_refl _⟩,by repeat (first|exact dr_ _|apply dp_)⟩
      ·rw [if_neg c10] at H
       have c10b0:((x0_5.size:Int) == 0)=false:=beq_eq_false_iff_ne.mpr c10
       have c10b1:((x0_5.size:Int) != 0)=true:=bne_iff_ne.mpr c10
       (first|rw [c10b0]|(simp only [i64_w,i32_w];rw [c10b0])|skip)
       by_cases c11:(x0_5.size:Int)>18
       ·rw [if_pos c11] at H
        have c11b0:decide (18<(x0_5.size:Int))=true:=dt_ c11
        have c11b1:decide (18<x0_5.size)=true:=dt_ (by omega)
        clear c11
        have H':=A_ H
        clear H
        go_wp2
        go_meet
        case rel=>exact ⟨_,(true),rs_,H',⟨by have:=HJ1.out;have:=HJ5.out;first|omega|exact Nat.le_refl _⟩,by repeat (first|exact dr_ _|apply dp_)⟩
       ·rw [if_neg c11] at H
        have c11b0:decide (18<(x0_5.size:Int))=false:=df_ c11
        have c11b1:decide (18<x0_5.size)=false:=df_ (by omega)
        clear c11
        by_cases c12:0<(x0_5.size:Int)
        ·rw [if_pos c12] at H
         have c12b0:decide (0<(x0_5.size:Int))=true:=dt_ c12
         have c12b1:decide (0<x0_5.size)=true:=dt_ (by omega)
         clear c12
         by_cases c14:(bt x0_5 0)=48
         ·rw [if_pos c14] at H
          have c14b0:((bt x0_5 0) == 48)=true:=beq_iff_eq.mpr c14
          have c14b1:((bt x0_5 0) != 48)=false:=bne_eq_false_iff_eq.mpr c14
          clear c14
          by_cases c15:(x0_5.size:Int)>1
          ·rw [if_pos c15] at H
           have c15b0:decide (1<(x0_5.size:Int))=true:=dt_ c15
           have c15b1:decide (1<x0_5.size)=true:=dt_ (by omega)
           clear c15
           have H':=A_ H
           clear H
           have p13:0≤(0:Int):=(by omega)
           have q13:0<x0_5.size:=(by have:(0:Int)<(x0_5.size:Int):=oa_;omega)
           have hx13:∀ h:0<x0_5.size,((x0_5[0]'h).toNat:Int)=bt x0_5 0:=bt_at x0_5 0
           clear p13
           have qi13:(0<(x0_5.size:Int))=True:=eq_true (oa_)
           replace q13:=eq_true q13
           go_wp2
           go_meet
           case rel=>exact ⟨_,(true),rs_,H',⟨by have:=HJ1.out;have:=HJ5.out;first|omega|exact Nat.le_refl _⟩,by repeat (first|exact dr_ _|apply dp_)⟩
          ·rw [if_neg c15] at H
           have c15b0:decide (1<(x0_5.size:Int))=false:=df_ c15
           have c15b1:decide (1<x0_5.size)=false:=df_ (by omega)
           clear c15
           have H':=A_ H
           clear H
           have p13:0≤(0:Int):=(by omega)
           have q13:0<x0_5.size:=(by have:(0:Int)<(x0_5.size:Int):=oa_;omega)
           have hx13:∀ h:0<x0_5.size,((x0_5[0]'h).toNat:Int)=bt x0_5 0:=bt_at x0_5 0
           clear p13
           have qi13:(0<(x0_5.size:Int))=True:=eq_true (oa_)
           replace q13:=eq_true q13
           go_wp2
           go_meet
           case rel=>exact ⟨_,(decide (x4_5<0)),rs_,H',⟨by have:=HJ1.out;have:=HJ5.out;first|omega|exact Nat.le_refl _⟩,by repeat (first|exact dr_ _|apply dp_)⟩
         ·rw [if_neg c14] at H
          have c14b0:((bt x0_5 0) == 48)=false:=beq_eq_false_iff_ne.mpr c14
          have c14b1:((bt x0_5 0) != 48)=true:=bne_iff_ne.mpr c14
          have H':=A_ H
          clear H
          have p13:0≤(0:Int):=(by omega)
          have q13:0<x0_5.size:=(by have:(0:Int)<(x0_5.size:Int):=oa_;omega)
          have hx13:∀ h:0<x0_5.size,((x0_5[0]'h).toNat:Int)=bt x0_5 0:=bt_at x0_5 0
          clear p13
          have qi13:(0<(x0_5.size:Int))=True:=eq_true (oa_)
          replace q13:=eq_true q13
          go_wp2
          go_meet
          case rel=>exact ⟨_,(false),rs_,H',⟨by have:=HJ1.out;have:=HJ5.out;first|omega|exact Nat.le_refl _⟩,by repeat (first|exact dr_ _|apply dp_)⟩
        ·rw [if_neg c12] at H
         exact absurd H (by simp)
     case rest =>
      clear HC9
      try clear c1
      try clear p1
      try clear q1
      try clear hx1
      try clear qi1
      try clear p2
      try clear c3
      try clear c3b0
      try clear c3b1
      try clear c4
      try clear c4b0
      try clear c4b1
      try clear c5
      try clear p5
      try clear q5
      try clear hx5
      try clear qi5
      try clear c7
      try clear c8
      try clear c8b0
      try clear c8b1
      try clear c10
      try clear c10b0
      try clear c10b1
      try clear c11
      try clear c11b0
      try clear c11b1
      try clear c12
      try clear c12b0
      try clear c12b1
      try clear p13
      try clear q13
      try clear hx13
      try clear qi13
      try clear c14
      try clear c14b0
      try clear c14b1
      try clear c15
      try clear c15b0
      try clear c15b1
      try clear p13
      try clear p2
      try clear p5
      try clear q13
      try clear q5
      obtain ⟨kq,x38_8,rfl,HA,HJ8,⟨mc8,rfl⟩⟩:=hcut
      cases kq with
      | zero=>exact absurd HA.out (by simp [spec_l00Number.j2])
      | succ kj8 =>
       have H:=HA.out
       clear HA
       simp only [spec_l00Number.j2] at H
       by_cases c16:x38_8=true
       ·subst c16
        have H1:(some (0,false))=some (r1,r2):=by rw [if_pos rfl] at H;exact H
        clear H
        have H:=H1
        clear H1
        simp only [Option.some.injEq,Prod.mk.injEq] at H
        obtain ⟨rfl,rfl⟩:=H
        go_wp2
        go_ret2
        exact ⟨by first|rfl|(simp;done)|(simp [*];done),by repeat (first|exact dr_ _|apply dp_)⟩
       ·replace c16:=bm_ c16
        subst c16
        have H1:(spec_l00Number.l0 kj8 x0_5 x4_5 0 0)=some (r1,r2):=by rw [if_neg (show ¬ (false=true) by decide)] at H;exact H
        clear H
        have H:=H1
        clear H1
        have H':=A_ H
        clear H
        go_wp2
        go_loopg [5,6] kj8 (fun kq v5 v6 w'=>∃ (x5_4:Int) (x6_4:Int),v5=.int .i64 x5_4∧v6=.int .i64 x6_4∧Aside0 (spec_l00Number.l0 kq x0_5 x4_5 x5_4 x6_4=some (r1,r2))∧Aside0 (kq≤kj8)∧Drawn0 w w')
        case atStart=>exact ⟨(0),(0),rs_,rs_,H',⟨Nat.le_refl _⟩,by repeat (first|exact dr_ _|apply dp_)⟩
        case round =>
         clear H'
         try clear c1
         try clear p1
         try clear q1
         try clear hx1
         try clear qi1
         try clear p2
         try clear c3
         try clear c3b0
         try clear c3b1
         try clear c4
         try clear c4b0
         try clear c4b1
         try clear c5
         try clear p5
         try clear q5
         try clear hx5
         try clear qi5
         try clear c7
         try clear c8
         try clear c8b0
         try clear c8b1
         try clear c10
         try clear c10b0
         try clear c10b1
         try clear c11
         try clear c11b0
         try clear c11b1
         try clear c12
         try clear c12b0
         try clear c12b1
         try clear p13
         try clear q13
         try clear hx13
         try clear qi13
         try clear c14
         try clear c14b0
         try clear c14b1
         try clear c15
         try clear c15b0
         try clear c15b1
         try clear c16
         try clear p1
         try clear p13
         try clear p2
         try clear p5
         try clear q1
         try clear q13
         try clear q5
         obtain ⟨x5_4,x6_4,rfl,rfl,HA,HK4,⟨m4,rfl⟩⟩:=hrel
         cases gk with
         | zero=>exact absurd HA.out (by simp [spec_l00Number.l0])
         | succ k4 =>
          have H:=HA.out
          clear HA
          simp only [spec_l00Number.l0] at H
          by_cases c17:x6_4<(x0_5.size:Int)
          ·rw [if_pos c17] at H
           have c17b0:decide (x6_4<(x0_5.size:Int))=true:=dt_ c17
           clear c17
           by_cases c18:0≤x6_4
           ·rw [if_pos c18] at H
            have c18b0:decide (0≤x6_4)=true:=dt_ c18
            clear c18
            by_cases c20:(bt x0_5 x6_4)<48
            ·rw [if_pos c20] at H
             have c20b0:decide ((bt x0_5 x6_4)<48)=true:=dt_ c20
             clear c20
             simp only [Option.some.injEq,Prod.mk.injEq] at H
             obtain ⟨rfl,rfl⟩:=H
             have p19:0≤(x6_4:Int):=oa_
             have q19:x6_4<(x0_5.size:Int):=oa_
             have hx19:=bt_at x0_5 x6_4
             replace p19:=eq_true p19
             replace q19:=eq_true q19
             go_wp2
             go_ret2
             exact ⟨by first|rfl|(simp;done)|(simp [*];done),by repeat (first|exact dr_ _|apply dp_)⟩
            ·rw [if_neg c20] at H
             have c20b0:decide ((bt x0_5 x6_4)<48)=false:=df_ c20
             clear c20
             by_cases c22:(bt x0_5 x6_4)>57
             ·rw [if_pos c22] at H
              have c22b0:decide (57<(bt x0_5 x6_4))=true:=dt_ c22
              clear c22
              simp only [Option.some.injEq,Prod.mk.injEq] at H
              obtain ⟨rfl,rfl⟩:=H
              have p19:0≤(x6_4:Int):=oa_
              have q19:x6_4<(x0_5.size:Int):=oa_
              have hx19:=bt_at x0_5 x6_4
              replace p19:=eq_true p19
              replace q19:=eq_true q19
              have p21:0≤(x6_4:Int):=oa_
              have q21:x6_4<(x0_5.size:Int):=oa_
              have hx21:=bt_at x0_5 x6_4
              replace p21:=eq_true p21
              replace q21:=eq_true q21
              go_wp2
              go_ret2
              exact ⟨by first|rfl|(simp;done)|(simp [*];done),by repeat (first|exact dr_ _|apply dp_)⟩
             ·rw [if_neg c22] at H
              have c22b0:decide (57<(bt x0_5 x6_4))=false:=df_ c22
              clear c22
              have H':=A_ H
              clear H
              have p19:0≤(x6_4:Int):=oa_
              have q19:x6_4<(x0_5.size:Int):=oa_
              have hx19:=bt_at x0_5 x6_4
              replace p19:=eq_true p19
              replace q19:=eq_true q19
              have p21:0≤(x6_4:Int):=oa_
              have q21:x6_4<(x0_5.size:Int):=oa_
              have hx21:=bt_at x0_5 x6_4
              replace p21:=eq_true p21
              replace q21:=eq_true q21
              have p23:0≤(x6_4:Int):=oa_
              have q23:x6_4<(x0_5.size:Int):=oa_
              have hx23:=bt_at x0_5 x6_4
              replace p23:=eq_true p23
              replace q23:=eq_true q23
              go_wp2
              go_roundg k4
              case measure=>have:=HJ1.out;have:=HJ5.out;have:=HJ8.out;have:=HK4.out;omega
              case rel=>exact ⟨(wrap64 ((wrap64 ((wrap64 (x5_4 * 10))+(wrap64 (bt x0_5 x6_4)))) - 48)),(wrap64 (x6_4+1)),rs_,rs_,H',⟨by have:=HJ1.out;have:=HJ5.out;have:=HJ8.out;have:=HK4.out;omega⟩,by repeat (first|exact dr_ _|apply dp_)⟩
           ·rw [if_neg c18] at H
            exact absurd H (by simp)
          ·rw [if_neg c17] at H
           have c17b0:decide (x6_4<(x0_5.size:Int))=false:=df_ c17
           clear c17
           simp only [Option.some.injEq,Prod.mk.injEq] at H
           obtain ⟨rfl,rfl⟩:=H
           go_wp2
           go_ret2
           exact ⟨by first|rfl|(simp;done)|(simp [*];done),by repeat (first|exact dr_ _|apply dp_)⟩
end Go.Proofs.YtfkanlbmgbkniaaGreatDoor.PFnExactTokensOf
