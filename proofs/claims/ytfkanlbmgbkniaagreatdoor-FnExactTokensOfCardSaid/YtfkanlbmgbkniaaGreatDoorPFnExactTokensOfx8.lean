/- The machine side of a law, printed by a program. No conditions. -/
import Derived.Test.YtfkanlbmgbkniaaGreatDoorPFnExactTokensOfx0
import Derived.Test.YtfkanlbmgbkniaaGreatDoorPFnExactTokensOfx5
namespace Go.Proofs.YtfkanlbmgbkniaaGreatDoor.PFnExactTokensOf
open Go.RowKit Go.Proofs.YtfkanlbmgbkniaaGreatDoorW.PrintWords Go.Proofs.YtfkanlbmgbkniaaGreatDoorW.PrintLast Go.Proofs.YtfkanlbmgbkniaaGreatDoorW.PrintMore
attribute [local go_sem] max2_int min2_int max_two min_two max_three min_three max_four min_four
set_option linter.unusedVariables false
set_option linter.unusedSimpArgs false
mutual
def spec_l03Attrs.l0:Nat→List (S52)→Int→Option (Bool)
 | 0,_,_=>none
 | k+1,x0,x3=>if x3<(x0.length:Int) then (if 0≤x3 then ((spec_l01Tag.f k ((rd_T52 x0 x3).f0)).bind fun t160=>(if t160=true then (spec_l03Attrs.j1 k x0 x3 (decide ((((rd_T52 x0 x3).f1).size:Int)>40))) else (spec_l03Attrs.j1 k x0 x3 true))) else (none)) else (some true)
def spec_l03Attrs.j1:Nat→List (S52)→Int→Bool→Option (Bool)
 | 0,_,_,_=>none
 | k+1,x0,x3,x29=>if x29=true then (some false) else (spec_l03Attrs.l1 k x0 x3 0)
def spec_l03Attrs.l1:Nat→List (S52)→Int→Int→Option (Bool)
 | 0,_,_,_=>none
 | k+1,x0,x3,x4=>if x4<x3 then (if 0≤x4 then (if x4<(x0.length:Int) then (if 0≤x3 then (if x3<(x0.length:Int) then (if ((rd_T52 x0 x4).f0).toList=((rd_T52 x0 x3).f0).toList then (some false) else (spec_l03Attrs.l1 k x0 x3 (wrap64 (x4+1)))) else (none)) else (none)) else (none)) else (none)) else (spec_l03Attrs.l0 k x0 (wrap64 (x3+1)))
end
def spec_l03Attrs.f (k:Nat) (l0:List (S52)):Option (Bool):=if (l0.length:Int)>6 then (some false) else (spec_l03Attrs.l0 k l0 0)
theorem spec_l03Attrs.mono_l:∀ k,(∀ y0 y1,LeO (spec_l03Attrs.l0 k y0 y1) (spec_l03Attrs.l0 (k+1) y0 y1))∧(∀ y0 y1 y2,LeO (spec_l03Attrs.j1 k y0 y1 y2) (spec_l03Attrs.j1 (k+1) y0 y1 y2))∧(∀ y0 y1 y2,LeO (spec_l03Attrs.l1 k y0 y1 y2) (spec_l03Attrs.l1 (k+1) y0 y1 y2))
 | 0=>⟨fun _ _ r h=>by simp [spec_l03Attrs.l0] at h,fun _ _ _ r h=>by simp [spec_l03Attrs.j1] at h,fun _ _ _ r h=>by simp [spec_l03Attrs.l1] at h⟩
 | k+1=>by
  obtain ⟨ih0,ih1,ih2⟩:=spec_l03Attrs.mono_l k
  refine ⟨?_,?_,?_⟩
  ·intro y0 y1
   unfold spec_l03Attrs.l0
   repeat' first|(with_reducible first|exact ih0 ..|exact ih1 ..|exact ih2 ..|exact spec_l01Tag.mono ..|exact LeO.refl _|exact LeO.none _|refine LeO.ite ?_ ?_|refine LeO.bind ?_ (fun _=>?_))|exact ih0 ..|exact ih1 ..|exact ih2 ..|exact LeO.none _|refine LeO.ite ?_ ?_|refine LeO.bind ?_ (fun _=>?_)
  ·intro y0 y1 y2
   unfold spec_l03Attrs.j1
   repeat' first|(with_reducible first|exact ih0 ..|exact ih1 ..|exact ih2 ..|exact spec_l01Tag.mono ..|exact LeO.refl _|exact LeO.none _|refine LeO.ite ?_ ?_|refine LeO.bind ?_ (fun _=>?_))|exact ih0 ..|exact ih1 ..|exact ih2 ..|exact LeO.none _|refine LeO.ite ?_ ?_|refine LeO.bind ?_ (fun _=>?_)
  ·intro y0 y1 y2
   unfold spec_l03Attrs.l1
   repeat' first|(with_reducible first|exact ih0 ..|exact ih1 ..|exact ih2 ..|exact spec_l01Tag.mono ..|exact LeO.refl _|exact LeO.none _|refine LeO.ite ?_ ?_|refine LeO.bind ?_ (fun _=>?_))|exact ih0 ..|exact ih1 ..|exact ih2 ..|exact LeO.none _|refine LeO.ite ?_ ?_|refine LeO.bind ?_ (fun _=>?_)
theorem spec_l03Attrs.mono:∀ a0 k,LeO (spec_l03Attrs.f k a0) (spec_l03Attrs.f (k+1) a0):=by
 intro a0 k
 obtain ⟨ih0,ih1,ih2⟩:=spec_l03Attrs.mono_l k
 unfold spec_l03Attrs.f
 repeat' first|(with_reducible first|exact ih0 ..|exact ih1 ..|exact ih2 ..|exact spec_l01Tag.mono ..|exact LeO.refl _|exact LeO.none _|refine LeO.ite ?_ ?_|refine LeO.bind ?_ (fun _=>?_))|exact ih0 ..|exact ih1 ..|exact ih2 ..|exact LeO.none _|refine LeO.ite ?_ ?_|refine LeO.bind ?_ (fun _=>?_)
set_option maxHeartbeats 8000000 in
set_option maxRecDepth 100000 in
theorem spec_l03Attrs.calls (k:Nat) (A0:Option Addr) (c0:Nat) (l0:List (S52)) (r:Bool) (w:World) (hr0:Kd.C k52 w A0 l0.length l0) (hc0:l0.length≤c0) (h:spec_l03Attrs.f k l0=some r) :
 Calls Tryz.prog 71 #[.slice A0 l0.length c0] w fun e w'=>e=.returned (.bool r)∧Drawn0 w w':=by
 have HR0:=A_ hr0
 have HC0:=A_ hc0
 clear hr0 hc0
 have H:(if (l0.length:Int)>6 then (some false) else (spec_l03Attrs.l0 k l0 0))=some r:=h
 clear h
 by_cases c2:(l0.length:Int)>6
 ·rw [if_pos c2] at H
  have c2b0:decide (6<(l0.length:Int))=true:=dt_ c2
  have c2b1:decide (6<l0.length)=true:=dt_ (by omega)
  clear c2
  obtain rfl:=oi_ H
  go_enter Tryz.func71,Tryz.ntmps71
  go_wp2
  repeat (go_quiet (fail);try go_wp2)
  go_ret
  exact ⟨by first|rfl|(simp;done)|(simp [*];done),by repeat (first|exact dr_ _|apply dp_)⟩
 ·rw [if_neg c2] at H
  have c2b0:decide (6<(l0.length:Int))=false:=df_ c2
  have c2b1:decide (6<l0.length)=false:=df_ (by omega)
  clear c2
  have H':=A_ H
  clear H
  go_enter Tryz.func71,Tryz.ntmps71
  go_wp2
  repeat (go_quiet (fail);try go_wp2)
  go_loopg [3] k (fun kq v3 w'=>∃ (x3_1:Int),v3=.int .i64 x3_1∧Aside0 (spec_l03Attrs.l0 kq l0 x3_1=some r)∧Aside0 (kq≤k)∧Drawn0 w w')
  case atStart=>exact ⟨(0),rs_,H',⟨Nat.le_refl _⟩,by repeat (first|exact dr_ _|apply dp_)⟩
  case round =>
   clear H'
   try clear c2
   try clear c2b0
   try clear c2b1
   try clear p2
   obtain ⟨x3_1,rfl,HA,HK1,⟨m1,rfl⟩⟩:=hrel
   cases gk with
   | zero=>exact absurd HA.out (by simp [spec_l03Attrs.l0])
   | succ k1 =>
    have H:=HA.out
    clear HA
    simp only [spec_l03Attrs.l0] at H
    by_cases c3:x3_1<(l0.length:Int)
    ·rw [if_pos c3] at H
     have c3b0:decide (x3_1<(l0.length:Int))=true:=dt_ c3
     clear c3
     have HC4:=A_ H
     clear H
     go_upto_region 6 with (fail)
     repeat (go_quiet (fail);go_upto_region 6 with (fail))
     go_cut [29] (fun v29 wc=>∃ (kq:Nat) (x29_3:Bool),v29=.bool x29_3∧Aside0 (spec_l03Attrs.j1 kq l0 x3_1 x29_3=some r)∧Aside0 (kq≤k1)∧Drawn0 w wc)
     case first =>
      have H:=HC4.out
      clear HC4
      by_cases c5:0≤x3_1
      ·rw [if_pos c5] at H
       have c5b0:decide (0≤x3_1)=true:=dt_ c5
       clear c5
       (first|rw [c5b0]|(simp only [i64_w,i32_w];rw [c5b0])|skip)
       replace H:=ob_ H
       obtain ⟨t160,A60,H⟩:=H
       replace H:(if t160=true then (spec_l03Attrs.j1 k1 l0 x3_1 (decide ((((rd_T52 l0 x3_1).f1).size:Int)>40))) else (spec_l03Attrs.j1 k1 l0 x3_1 true))=some r:=H
       have A6:=A_ A60
       clear A60
       by_cases c7:t160=true
       ·subst c7
        have H1:(spec_l03Attrs.j1 k1 l0 x3_1 (decide ((((rd_T52 l0 x3_1).f1).size:Int)>40)))=some r:=by rw [if_pos rfl] at H;exact H
        clear H
        have H:=H1
        clear H1
        have H':=A_ H
        clear H
        have p159:0≤(x3_1:Int):=oa_
        have q159:x3_1<(l0.length:Int):=oa_
        obtain ⟨ad159,e159,hx159_0,hx159_1⟩:=at_T52 HR0.out x3_1 p159 q159
        cases e159
        replace p159:=eq_true p159
        replace q159:=eq_true q159
        go_wp2_with (first|(go_at_call 16;(with_reducible refine (spec_l01Tag.calls k1 ((rd_T52 l0 x3_1).f0) true _ A6.out).mono ?_);rintro e w' ⟨rfl,⟨nd,rfl⟩⟩;(try first|exact ⟨rfl,_,ww_ _ _ _⟩|exact ⟨rfl,_,Eq.trans (ww_ _ _ _) (congrArg (World.drewN _) (Nat.add_assoc _ _ _))⟩);have p161:0≤(x3_1:Int):=oa_;have q161:x3_1<(l0.length:Int):=oa_;obtain ⟨ad161,e161,hx161_0,hx161_1⟩:=at_T52 HR0.out x3_1 p161 q161;obtain rfl:ad159=ad161:=(by injection e161);replace p161:=eq_true p161;replace q161:=eq_true q161))
        repeat (go_quiet (first|(go_at_call 16;(with_reducible refine (spec_l01Tag.calls k1 ((rd_T52 l0 x3_1).f0) true _ A6.out).mono ?_);rintro e w' ⟨rfl,⟨nd,rfl⟩⟩;(try first|exact ⟨rfl,_,ww_ _ _ _⟩|exact ⟨rfl,_,Eq.trans (ww_ _ _ _) (congrArg (World.drewN _) (Nat.add_assoc _ _ _))⟩);have p161:0≤(x3_1:Int):=oa_;have q161:x3_1<(l0.length:Int):=oa_;obtain ⟨ad161,e161,hx161_0,hx161_1⟩:=at_T52 HR0.out x3_1 p161 q161;obtain rfl:ad159=ad161:=(by injection e161);replace p161:=eq_true p161;replace q161:=eq_true q161));try go_wp2_with (first|(go_at_call 16;(with_reducible refine (spec_l01Tag.calls k1 ((rd_T52 l0 x3_1).f0) true _ A6.out).mono ?_);rintro e w' ⟨rfl,⟨nd,rfl⟩⟩;(try first|exact ⟨rfl,_,ww_ _ _ _⟩|exact ⟨rfl,_,Eq.trans (ww_ _ _ _) (congrArg (World.drewN _) (Nat.add_assoc _ _ _))⟩);have p161:0≤(x3_1:Int):=oa_;have q161:x3_1<(l0.length:Int):=oa_;obtain ⟨ad161,e161,hx161_0,hx161_1⟩:=at_T52 HR0.out x3_1 p161 q161;obtain rfl:ad159=ad161:=(by injection e161);replace p161:=eq_true p161;replace q161:=eq_true q161)))
        go_meet
        case rel=>exact ⟨_,(decide ((((rd_T52 l0 x3_1).f1).size:Int)>40)),rs_,H',⟨by have:=HK1.out;first|omega|exact Nat.le_refl _⟩,by repeat (first|exact dr_ _|apply dp_)⟩
       ·replace c7:=bm_ c7
        subst c7
        have H1:(spec_l03Attrs.j1 k1 l0 x3_1 true)=some r:=by rw [if_neg (show ¬ (false=true) by decide)] at H;exact H
        clear H
        have H:=H1
        clear H1
        have H':=A_ H
        clear H
        have p159:0≤(x3_1:Int):=oa_
        have q159:x3_1<(l0.length:Int):=oa_
        obtain ⟨ad159,e159,hx159_0,hx159_1⟩:=at_T52 HR0.out x3_1 p159 q159
        cases e159
        replace p159:=eq_true p159
        replace q159:=eq_true q159
        go_wp2_with (first|(go_at_call 16;(with_reducible refine (spec_l01Tag.calls k1 ((rd_T52 l0 x3_1).f0) false _ A6.out).mono ?_);rintro e w' ⟨rfl,⟨nd,rfl⟩⟩;(try first|exact ⟨rfl,_,ww_ _ _ _⟩|exact ⟨rfl,_,Eq.trans (ww_ _ _ _) (congrArg (World.drewN _) (Nat.add_assoc _ _ _))⟩)))
        repeat (go_quiet (first|(go_at_call 16;(with_reducible refine (spec_l01Tag.calls k1 ((rd_T52 l0 x3_1).f0) false _ A6.out).mono ?_);rintro e w' ⟨rfl,⟨nd,rfl⟩⟩;(try first|exact ⟨rfl,_,ww_ _ _ _⟩|exact ⟨rfl,_,Eq.trans (ww_ _ _ _) (congrArg (World.drewN _) (Nat.add_assoc _ _ _))⟩)));try go_wp2_with (first|(go_at_call 16;(with_reducible refine (spec_l01Tag.calls k1 ((rd_T52 l0 x3_1).f0) false _ A6.out).mono ?_);rintro e w' ⟨rfl,⟨nd,rfl⟩⟩;(try first|exact ⟨rfl,_,ww_ _ _ _⟩|exact ⟨rfl,_,Eq.trans (ww_ _ _ _) (congrArg (World.drewN _) (Nat.add_assoc _ _ _))⟩))))
        go_meet
        case rel=>exact ⟨_,(true),rs_,H',⟨by have:=HK1.out;first|omega|exact Nat.le_refl _⟩,by repeat (first|exact dr_ _|apply dp_)⟩
      ·rw [if_neg c5] at H
       exact absurd H (by simp)
     case rest =>
      clear HC4
      try clear p1
      try clear q1
      try clear hx1
      try clear c2
      try clear c2b0
      try clear c2b1
      try clear p2
      try clear c3
      try clear c3b0
      try clear c5
      try clear c5b0
      try clear c7
      try clear hx159_0
      try clear hx159_1
      try clear hx161_0
      try clear hx161_1
      try clear p159
      try clear p161
      try clear p2
      try clear q159
      try clear q161
      obtain ⟨kq,x29_3,rfl,HA,HJ3,⟨mc3,rfl⟩⟩:=hcut
      cases kq with
      | zero=>exact absurd HA.out (by simp [spec_l03Attrs.j1])
      | succ kj3 =>
       have H:=HA.out
       clear HA
       simp only [spec_l03Attrs.j1] at H
       by_cases c8:x29_3=true
       ·subst c8
        have H1:(some false)=some r:=by rw [if_pos rfl] at H;exact H
        clear H
        have H:=H1
        clear H1
        obtain rfl:=oi_ H
        go_wp2
        repeat (go_quiet (fail);try go_wp2)
        go_ret
        exact ⟨by first|rfl|(simp;done)|(simp [*];done),by repeat (first|exact dr_ _|apply dp_)⟩
       ·replace c8:=bm_ c8
        subst c8
        have H1:(spec_l03Attrs.l1 kj3 l0 x3_1 0)=some r:=by rw [if_neg (show ¬ (false=true) by decide)] at H;exact H
        clear H
        have H:=H1
        clear H1
        have H':=A_ H
        clear H
        go_wp2
        repeat (go_quiet (fail);try go_wp2)
        go_loopg [4] kj3 (fun kq v4 w'=>∃ (x4_3:Int),v4=.int .i64 x4_3∧Aside0 (spec_l03Attrs.l1 kq l0 x3_1 x4_3=some r)∧Aside0 (kq≤kj3)∧Drawn0 w w')
        case atStart=>exact ⟨(0),rs_,H',⟨Nat.le_refl _⟩,by repeat (first|exact dr_ _|apply dp_)⟩
        case round =>
         clear H'
         try clear p1
         try clear q1
         try clear hx1
         try clear c2
         try clear c2b0
         try clear c2b1
         try clear p2
         try clear c3
         try clear c3b0
         try clear c5
         try clear c5b0
         try clear c7
         try clear c8
         try clear hx159_0
         try clear hx159_1
         try clear hx161_0
         try clear hx161_1
         try clear p1
         try clear p159
         try clear p161
         try clear p2
         try clear q1
         try clear q159
         try clear q161
         obtain ⟨x4_3,rfl,HA,HK3,⟨m3,rfl⟩⟩:=hrel
         cases gk with
         | zero=>exact absurd HA.out (by simp [spec_l03Attrs.l1])
         | succ k3 =>
          have H:=HA.out
          clear HA
          simp only [spec_l03Attrs.l1] at H
          by_cases c9:x4_3<x3_1
          ·rw [if_pos c9] at H
           have c9b0:decide (x4_3<x3_1)=true:=dt_ c9
           clear c9
           by_cases c10:0≤x4_3
           ·rw [if_pos c10] at H
            have c10b0:decide (0≤x4_3)=true:=dt_ c10
            clear c10
            by_cases c11:x4_3<(l0.length:Int)
            ·rw [if_pos c11] at H
             have c11b0:decide (x4_3<(l0.length:Int))=true:=dt_ c11
             clear c11
             by_cases c12:0≤x3_1
             ·rw [if_pos c12] at H
              have c12b0:decide (0≤x3_1)=true:=dt_ c12
              clear c12
              by_cases c13:x3_1<(l0.length:Int)
              ·rw [if_pos c13] at H
               have c13b0:decide (x3_1<(l0.length:Int))=true:=dt_ c13
               clear c13
               by_cases c14:((rd_T52 l0 x4_3).f0).toList=((rd_T52 l0 x3_1).f0).toList
               ·rw [if_pos c14] at H
                have c14b0:(((rd_T52 l0 x4_3).f0).toList == ((rd_T52 l0 x3_1).f0).toList)=true:=beq_iff_eq.mpr c14
                have c14b1:(((rd_T52 l0 x4_3).f0).toList != ((rd_T52 l0 x3_1).f0).toList)=false:=bne_eq_false_iff_eq.mpr c14
                clear c14
                obtain rfl:=oi_ H
                have p162:0≤(x4_3:Int):=oa_
                have q162:x4_3<(l0.length:Int):=oa_
                obtain ⟨ad162,e162,hx162_0,hx162_1⟩:=at_T52 HR0.out x4_3 p162 q162
                cases e162
                replace p162:=eq_true p162
                replace q162:=eq_true q162
                have p163:0≤(x3_1:Int):=oa_
                have q163:x3_1<(l0.length:Int):=oa_
                obtain ⟨ad163,e163,hx163_0,hx163_1⟩:=at_T52 HR0.out x3_1 p163 q163
                obtain rfl:ad162=ad163:=(by injection e163)
                replace p163:=eq_true p163
                replace q163:=eq_true q163
                go_wp2
                repeat (go_quiet (fail);try go_wp2)
                go_ret
                exact ⟨by first|rfl|(simp;done)|(simp [*];done),by repeat (first|exact dr_ _|apply dp_)⟩
               ·rw [if_neg c14] at H
                have c14b0:(((rd_T52 l0 x4_3).f0).toList == ((rd_T52 l0 x3_1).f0).toList)=false:=beq_eq_false_iff_ne.mpr c14
                have c14b1:(((rd_T52 l0 x4_3).f0).toList != ((rd_T52 l0 x3_1).f0).toList)=true:=bne_iff_ne.mpr c14
                have H':=A_ H
                clear H
                have p162:0≤(x4_3:Int):=oa_
                have q162:x4_3<(l0.length:Int):=oa_
                obtain ⟨ad162,e162,hx162_0,hx162_1⟩:=at_T52 HR0.out x4_3 p162 q162
                cases e162
                replace p162:=eq_true p162
                replace q162:=eq_true q162
                have p163:0≤(x3_1:Int):=oa_
                have q163:x3_1<(l0.length:Int):=oa_
                obtain ⟨ad163,e163,hx163_0,hx163_1⟩:=at_T52 HR0.out x3_1 p163 q163
                obtain rfl:ad162=ad163:=(by injection e163)
                replace p163:=eq_true p163
                replace q163:=eq_true q163
                go_wp2
                repeat (go_quiet (fail);try go_wp2)
                go_roundg k3
                case measure=>have:=HK1.out;have:=HJ3.out;have:=HK3.out;omega
                case rel=>exact ⟨(wrap64 (x4_3+1)),rs_,H',⟨by have:=HK1.out;have:=HJ3.out;have:=HK3.out;omega⟩,by repeat (first|exact dr_ _|apply dp_)⟩
              ·rw [if_neg c13] at H
               exact absurd H (by simp)
             ·rw [if_neg c12] at H
              exact absurd H (by simp)
            ·rw [if_neg c11] at H
             exact absurd H (by simp)
           ·rw [if_neg c10] at H
            exact absurd H (by simp)
          ·rw [if_neg c9] at H
           have c9b0:decide (x4_3<x3_1)=false:=df_ c9
           clear c9
           have H':=A_ H
           clear H
           go_wp2
           repeat (go_quiet (fail);try go_wp2)
           go_roundg k3
           case measure=>have:=HK1.out;have:=HJ3.out;have:=HK3.out;omega
           case rel=>exact ⟨(wrap64 (x3_1+1)),rs_,H',⟨by have:=HK1.out;have:=HJ3.out;have:=HK3.out;omega⟩,by repeat (first|exact dr_ _|apply dp_)⟩
    ·rw [if_neg c3] at H
     have c3b0:decide (x3_1<(l0.length:Int))=false:=df_ c3
     clear c3
     obtain rfl:=oi_ H
     go_wp2
     repeat (go_quiet (fail);try go_wp2)
     go_ret
     exact ⟨by first|rfl|(simp;done)|(simp [*];done),by repeat (first|exact dr_ _|apply dp_)⟩
def spec_l04Keep.f (k:Nat) (l0:List (S52)) (a1:ByteArray) (a2:ByteArray):Option ((List (S52))):=(some (([]:List (S52)):List (S52))).bind fun y164=>(if y164.length+l0.length<4398046511104 then ((some (y164++l0:List (S52))).bind fun y167=>(if y167.length<4398046511104 then ((some (y167++[(⟨a1,a2⟩:S52)]:List (S52))).bind fun y170=>((spec_l03Attrs.f k y170).bind fun t173=>(if t173=true then (some y170) else (some l0)))) else (none))) else (none))
theorem spec_l04Keep.mono:∀ a0 a1 a2 k,LeO (spec_l04Keep.f k a0 a1 a2) (spec_l04Keep.f (k+1) a0 a1 a2):=by
 intro a0 a1 a2 k
 unfold spec_l04Keep.f
 repeat' first|(with_reducible first|exact spec_l03Attrs.mono ..|exact LeO.refl _|exact LeO.none _|refine LeO.ite ?_ ?_|refine LeO.bind ?_ (fun _=>?_))|exact LeO.none _|refine LeO.ite ?_ ?_|refine LeO.bind ?_ (fun _=>?_)
set_option maxHeartbeats 8000000 in
set_option maxRecDepth 100000 in
theorem spec_l04Keep.calls (k:Nat) (P0_:Nat→Prop) (u9000_:Value) (l0:List (S52)) (a1:ByteArray) (a2:ByteArray) (r:List (S52)) (w0 w:World) (hB:Below w0.heap.size w0 w) (ho0:Kd.R k52 52 w w0.heap.size P0_ u9000_ l0) (h:spec_l04Keep.f k l0 a1 a2=some r) :
 Calls Tryz.prog 55 #[u9000_,.string a1,.string a2] w fun e w'=>∃ v0_:Value,e=.returned (v0_)∧Kd.R k52 52 w' w0.heap.size (fun k_=>(P0_ k_∨w.heap.size≤k_)) v0_ r∧Below w0.heap.size w0 w'∧Kept w w' (fun k_=>P0_ k_):=by
 have hu52:=Tryz.underlying52
 have HO0:=A_ (show Kd.R k52 52 w w0.heap.size (fun k_=>(P0_ k_∨w.heap.size≤k_)) u9000_ l0 from Kd.R_mono ho0 (fun k_ hk=>(.inl hk)))
 have HK:=A_ (Kept.refl w (fun k_=>P0_ k_))
 have HW0:=A_ hB.size
 have HB:=A_ hB
 clear hB
 have H:((some (([]:List (S52)):List (S52))).bind fun y164=>(if y164.length+l0.length<4398046511104 then ((some (y164++l0:List (S52))).bind fun y167=>(if y167.length<4398046511104 then ((some (y167++[(⟨a1,a2⟩:S52)]:List (S52))).bind fun y170=>((spec_l03Attrs.f k y170).bind fun t173=>(if t173=true then (some y170) else (some l0)))) else (none))) else (none)))=some r:=h
 clear h
 obtain ⟨y164,hy164⟩:∃ y_:List (S52),y_=(([]:List (S52))):=⟨_,rfl⟩
 replace H:(if y164.length+l0.length<4398046511104 then ((some (y164++l0:List (S52))).bind fun y167=>(if y167.length<4398046511104 then ((some (y167++[(⟨a1,a2⟩:S52)]:List (S52))).bind fun y170=>((spec_l03Attrs.f k y170).bind fun t173=>(if t173=true then (some y170) else (some l0)))) else (none))) else (none))=some r:=by first|(rw [hy164];with_reducible exact H)|(have H2_:=(Option.bind_some _ _).symm.trans H;rw [hy164];with_reducible exact H2_)|(have H2_:=(Option.bind_some _ _).symm.trans H;with_reducible exact H2_)|with_reducible exact H|(rw [hy164];exact H)|exact H
 have Ny164:=A_ hy164
 clear hy164
 by_cases c4:y164.length+l0.length<4398046511104
 ·rw [if_pos c4] at H
  have LMc4:=A_ c4
  clear c4
  obtain ⟨y167,hy167⟩:∃ y_:List (S52),y_=(y164++l0):=⟨_,rfl⟩
  replace H:(if y167.length<4398046511104 then ((some (y167++[(⟨a1,a2⟩:S52)]:List (S52))).bind fun y170=>((spec_l03Attrs.f k y170).bind fun t173=>(if t173=true then (some y170) else (some l0)))) else (none))=some r:=by first|(rw [hy167];with_reducible exact H)|(have H2_:=(Option.bind_some _ _).symm.trans H;rw [hy167];with_reducible exact H2_)|(have H2_:=(Option.bind_some _ _).symm.trans H;with_reducible exact H2_)|with_reducible exact H|(rw [hy167];exact H)|exact H
  have Ny167:=A_ hy167
  clear hy167
  by_cases c5:y167.length<4398046511104
  ·rw [if_pos c5] at H
   have LMc5:=A_ c5
   clear c5
   obtain ⟨y170,hy170⟩:∃ y_:List (S52),y_=(y167++[(⟨a1,a2⟩:S52)]):=⟨_,rfl⟩
   replace H:((spec_l03Attrs.f k y170).bind fun t173=>(if t173=true then (some y170) else (some l0)))=some r:=by first|(rw [hy170];with_reducible exact H)|(have H2_:=(Option.bind_some _ _).symm.trans H;rw [hy170];with_reducible exact H2_)|(have H2_:=(Option.bind_some _ _).symm.trans H;with_reducible exact H2_)|with_reducible exact H|(rw [hy170];exact H)|exact H
   have Ny170:=A_ hy170
   clear hy170
   replace H:=ob_ H
   obtain ⟨t173,A60,H⟩:=H
   replace H:(if t173=true then (some y170) else (some l0))=some r:=H
   have A6:=A_ A60
   clear A60
   by_cases c7:t173=true
   ·subst c7
    have H1:(some y170)=some r:=by rw [if_pos rfl] at H;exact H
    clear H
    have H:=H1
    clear H1
    obtain rfl:=oi_ H
    go_enter Tryz.func55,Tryz.ntmps55
    go_wp2_with (first|((with_reducible refine gate_dst (N:=8) rfl ?_);refine Kd.R_lit k52 _ 52 ?hg (N:=8) ?hd (xs:=([]:List (S52))) (inner:=[]) (ok:=fun _=>True) (okp:=fun _=>True) ?hr ?hp (fun _ hk=>hk) trivial (Below.refl _ _) (Nat.le_refl _) (by simp) ?_;(case hd=>rfl);(case hg=>rfl);(case hr=>first|(go_simp;done)|(go_simp;rfl)|((first|(obtain ⟨_,_,rfl⟩:=Kd.R_slice HO0.out)|(obtain ⟨_,_,rfl⟩:=Kd.S_slice HO0.out)|skip);first|(go_simp;done)|(go_simp;rfl)));(case hp=>exact (Reps.none _ _));intro v165 w8 ho9 hb hg_ hnew_;clear hg_ hnew_;(first|rw [←Ny164.out] at ho9|(simp only [Int.reduceToNat] at ho9;rw [←Ny164.out] at ho9));have n0_:=A_ (Kd.R_elder' (rq_ HO0.out) (Kd.R_base ho9) hb);have n1_:=A_ (Kd.R_lower (Kd.R_new' (Kd.R_newM (M:=fun k_=>(P0_ k_∨w.heap.size≤k_)) ho9 (by first|exact HK.out.1|exact (show Kept w _ (fun k_=>P0_ k_) from by repeat (first|(with_reducible first|exact HK.out|apply Kept.alloc|apply Kept.drewN|apply Kept.drew)|exact HK.out)).1) (fun k_ h_=>.inr h_)) (Kd.R_lt (rq_ HO0.out))) (bz_ (bq0_ HB.out)));have n2_:=A_ (Kept.below (S:=(fun k_=>P0_ k_)) (by repeat (first|(with_reducible first|exact HK.out|apply Kept.alloc|apply Kept.drewN|apply Kept.drew)|exact HK.out)) hb);have n3_:=A_ (bp_ (bq0_ HB.out) hb);clear HO0;clear HK;clear HB;have HO0:=n0_;have HO166:=n1_;have HK:=n2_;have HB:=n3_;clear n0_ n1_ n2_ n3_;clear hb ho9;obtain ⟨Ao11,co11,eo11⟩:=Kd.R_slice HO0.out;subst eo11)|((with_reducible refine gate_builtin (b:=.append) (xs:=#[.tmp 8,.tmp 9]) rfl ?_);at_builtin;refine Kd.R_append_rows k52 (w0:=w0) w0.heap.size rfl (.tmp 8) (.tmp 9) 22 52 (.agg #[(.string ⟨#[]⟩),(.string ⟨#[]⟩)]) 32 rfl Tryz.underlying22 info52 rfl (by decide) (by omega) v165 y164 l0 _ _ _ (fun k_=>(P0_ k_∨w.heap.size≤k_)∧some k_≠(.slice Ao11 l0.length co11:Value).ownBlock) (fun _=>False) rfl rfl ?aO ?aR (fun _ _ h=>h) (fun _ h=>h.elim) ?aF ?aB ?aS ?aL ?_;(case aR=>repeat (first|exact (Kd.R_reads' HO0.out).2.2|(with_reducible refine ca_ ?_ _)|(with_reducible refine cn_ ?_ _)|(with_reducible refine cd_ ?_)));(case aB=>exact (bq0_ HB.out));(case aF=>exact (fun k_ hk=>⟨(.inr (Nat.le_trans (by first|exact HK.out.1|exact (show Kept w _ (fun k_=>P0_ k_) from by repeat (first|(with_reducible first|exact HK.out|apply Kept.alloc|apply Kept.drewN|apply Kept.drew)|exact HK.out)).1) hk)),Kd.fresh' (Kd.R_lt (rq_ HO0.out)) k_ hk⟩));(case aO=>exact (by (with_reducible repeat first|apply ra_|apply rn_|apply rd_);exact Kd.R_mono HO166.out (fun _ hk=>⟨hk.1.1,hk.2⟩)));(case aS=>exact (bz_ (bq0_ HB.out)));(case aL=>have:=LMc4.out;omega);intro v168 w10 ho hb hg hat;rw [←Ny167.out] at ho;have n0_:=A_ (Kd.R_after (ok:=(fun k_=>(P0_ k_∨w.heap.size≤k_))) (rq_ HO0.out) hg hat);have n1_:=A_ (hb);have n2_:=A_ (Kept.of_grown (S:=(fun k_=>P0_ k_)) hg (by repeat (first|(with_reducible first|exact HK.out|apply Kept.alloc|apply Kept.drewN|apply Kept.drew)|exact HK.out)) (fun k_ e_=>(HO166.out.1 k_ e_).1.1));have n3_:=A_ (ho);clear HO0;clear HB;clear HK;clear HO166;have HO0:=n0_;have HB:=n1_;have HK:=n2_;have HO169:=n3_;clear n0_ n1_ n2_ n3_;clear ho hb hg hat)|((with_reducible refine gate_builtin (b:=.append) (xs:=#[.tmp 10,.tmp 14]) rfl ?_);at_builtin;refine Kd.R_append k52 (w0:=w0) w0.heap.size rfl (.tmp 10) (.tmp 14) 22 52 (.agg #[(.string ⟨#[]⟩),(.string ⟨#[]⟩)]) 32 rfl Tryz.underlying22 info52 rfl (by decide) (by omega) v168 y167 (⟨a1,a2⟩:S52) [.string a1,.string a2] (fun k_=>(P0_ k_∨w.heap.size≤k_)∧some k_≠(.slice Ao11 l0.length co11:Value).ownBlock) (fun _=>False) rfl rfl ?aP (fun _ hk=>hk.elim) ?aF ?aO ?aB ?aS ?aL ?_;(case aP=>exact k52_mkM _ _ _ (⟨a1,a2⟩:S52));(case aB=>exact (bq0_ HB.out));(case aF=>exact (fun k_ hk=>⟨(.inr (Nat.le_trans (by first|exact HK.out.1|exact (show Kept w _ (fun k_=>P0_ k_) from by repeat (first|(with_reducible first|exact HK.out|apply Kept.alloc|apply Kept.drewN|apply Kept.drew)|exact HK.out)).1) hk)),Kd.fresh' (Kd.R_lt (rq_ HO0.out)) k_ hk⟩));(case aO=>exact (rq_ HO169.out));(case aS=>exact (bz_ (bq0_ HB.out)));(case aL=>have:=LMc5.out;omega);intro v171 w12 ho hb hg hat;rw [←Ny170.out] at ho;have n0_:=A_ (Kd.R_after (ok:=(fun k_=>(P0_ k_∨w.heap.size≤k_))) (rq_ HO0.out) hg hat);have n1_:=A_ (hb);have n2_:=A_ (Kept.of_grown (S:=(fun k_=>P0_ k_)) hg (by repeat (first|(with_reducible first|exact HK.out|apply Kept.alloc|apply Kept.drewN|apply Kept.drew)|exact HK.out)) (fun k_ e_=>(HO169.out.1 k_ e_).1));have n3_:=A_ (ho);clear HO0;clear HB;clear HK;clear HO169;have HO0:=n0_;have HB:=n1_;have HK:=n2_;have HO172:=n3_;clear n0_ n1_ n2_ n3_;clear ho hb hg hat;obtain ⟨Ao13,co13,eo13⟩:=Kd.R_slice HO172.out;subst eo13)|((with_reducible refine gate_callee (f:=71) rfl ?_);refine gl_ (some 17) rfl rfl Tryz.func71 (by kernel_rfl) rfl #[.slice Ao13 y170.length co13] rfl  ?_;(with_reducible refine (spec_l03Attrs.calls k _ _ y170 true _ ?side1 ?side2 A6.out).mono ?_);(case side1=>repeat (first|exact (Kd.R_reads' HO172.out).2.2|(with_reducible refine ca_ ?_ _)|(with_reducible refine cn_ ?_ _)|(with_reducible refine cd_ ?_)));(case side2=>exact (Kd.R_reads' HO172.out).2.1);rintro e w' ⟨rfl,⟨nd,rfl⟩⟩;refine ⟨_,rfl,?_⟩))
    go_ret
    exact ⟨_,by first|rfl|(simp [errW_none,errW_some] <;> rfl)|(simp [*,errW_none,errW_some] <;> rfl),by (with_reducible repeat first|apply ra_|apply rn_|apply rd_);exact Kd.R_mono HO172.out (fun _ hk=>hk.1),bq0_ HB.out,by repeat (first|(with_reducible first|exact HK.out|apply Kept.alloc|apply Kept.drewN|apply Kept.drew)|exact HK.out)⟩
   ·replace c7:=bm_ c7
    subst c7
    have H1:(some l0)=some r:=by rw [if_neg (show ¬ (false=true) by decide)] at H;exact H
    clear H
    have H:=H1
    clear H1
    obtain rfl:=oi_ H
    go_enter Tryz.func55,Tryz.ntmps55
    go_wp2_with (first|((with_reducible refine gate_dst (N:=8) rfl ?_);refine Kd.R_lit k52 _ 52 ?hg (N:=8) ?hd (xs:=([]:List (S52))) (inner:=[]) (ok:=fun _=>True) (okp:=fun _=>True) ?hr ?hp (fun _ hk=>hk) trivial (Below.refl _ _) (Nat.le_refl _) (by simp) ?_;(case hd=>rfl);(case hg=>rfl);(case hr=>first|(go_simp;done)|(go_simp;rfl)|((first|(obtain ⟨_,_,rfl⟩:=Kd.R_slice HO0.out)|(obtain ⟨_,_,rfl⟩:=Kd.S_slice HO0.out)|skip);(first|(obtain ⟨_,_,rfl⟩:=Kd.R_slice HO166.out)|(obtain ⟨_,_,rfl⟩:=Kd.S_slice HO166.out)|skip);(first|(obtain ⟨_,_,rfl⟩:=Kd.R_slice HO169.out)|(obtain ⟨_,_,rfl⟩:=Kd.S_slice HO169.out)|skip);(first|(obtain ⟨_,_,rfl⟩:=Kd.R_slice HO172.out)|(obtain ⟨_,_,rfl⟩:=Kd.S_slice HO172.out)|skip);first|(go_simp;done)|(go_simp;rfl)));(case hp=>exact (Reps.none _ _));intro v165 w14 ho15 hb hg_ hnew_;clear hg_ hnew_;(first|rw [←Ny164.out] at ho15|(simp only [Int.reduceToNat] at ho15;rw [←Ny164.out] at ho15));have n0_:=A_ (Kd.R_elder' (rq_ HO0.out) (Kd.R_base ho15) hb);have n1_:=A_ (Kd.R_lower (Kd.R_new' (Kd.R_newM (M:=fun k_=>(P0_ k_∨w.heap.size≤k_)) ho15 (by first|exact HK.out.1|exact (show Kept w _ (fun k_=>P0_ k_) from by repeat (first|(with_reducible first|exact HK.out|apply Kept.alloc|apply Kept.drewN|apply Kept.drew)|exact HK.out)).1) (fun k_ h_=>.inr h_)) (Kd.R_lt (rq_ HO0.out))) (bz_ (bq0_ HB.out)));have n2_:=A_ (Kept.below (S:=(fun k_=>P0_ k_)) (by repeat (first|(with_reducible first|exact HK.out|apply Kept.alloc|apply Kept.drewN|apply Kept.drew)|exact HK.out)) hb);have n3_:=A_ (bp_ (bq0_ HB.out) hb);clear HO0;clear HK;clear HB;have HO0:=n0_;have HO166:=n1_;have HK:=n2_;have HB:=n3_;clear n0_ n1_ n2_ n3_;clear hb ho15;obtain ⟨Ao17,co17,eo17⟩:=Kd.R_slice HO0.out;subst eo17)|((with_reducible refine gate_builtin (b:=.append) (xs:=#[.tmp 8,.tmp 9]) rfl ?_);at_builtin;refine Kd.R_append_rows k52 (w0:=w0) w0.heap.size rfl (.tmp 8) (.tmp 9) 22 52 (.agg #[(.string ⟨#[]⟩),(.string ⟨#[]⟩)]) 32 rfl Tryz.underlying22 info52 rfl (by decide) (by omega) v165 y164 l0 _ _ _ (fun k_=>(P0_ k_∨w.heap.size≤k_)∧some k_≠(.slice Ao17 l0.length co17:Value).ownBlock) (fun _=>False) rfl rfl ?aO ?aR (fun _ _ h=>h) (fun _ h=>h.elim) ?aF ?aB ?aS ?aL ?_;(case aR=>repeat (first|exact (Kd.R_reads' HO0.out).2.2|(with_reducible refine ca_ ?_ _)|(with_reducible refine cn_ ?_ _)|(with_reducible refine cd_ ?_)));(case aB=>exact (bq0_ HB.out));(case aF=>exact (fun k_ hk=>⟨(.inr (Nat.le_trans (by first|exact HK.out.1|exact (show Kept w _ (fun k_=>P0_ k_) from by repeat (first|(with_reducible first|exact HK.out|apply Kept.alloc|apply Kept.drewN|apply Kept.drew)|exact HK.out)).1) hk)),Kd.fresh' (Kd.R_lt (rq_ HO0.out)) k_ hk⟩));(case aO=>exact (by (with_reducible repeat first|apply ra_|apply rn_|apply rd_);exact Kd.R_mono HO166.out (fun _ hk=>⟨hk.1.1,hk.2⟩)));(case aS=>exact (bz_ (bq0_ HB.out)));(case aL=>have:=LMc4.out;omega);intro v168 w16 ho hb hg hat;rw [←Ny167.out] at ho;have n0_:=A_ (Kd.R_after (ok:=(fun k_=>(P0_ k_∨w.heap.size≤k_))) (rq_ HO0.out) hg hat);have n1_:=A_ (hb);have n2_:=A_ (Kept.of_grown (S:=(fun k_=>P0_ k_)) hg (by repeat (first|(with_reducible first|exact HK.out|apply Kept.alloc|apply Kept.drewN|apply Kept.drew)|exact HK.out)) (fun k_ e_=>(HO166.out.1 k_ e_).1.1));have n3_:=A_ (ho);clear HO0;clear HB;clear HK;clear HO166;have HO0:=n0_;have HB:=n1_;have HK:=n2_;have HO169:=n3_;clear n0_ n1_ n2_ n3_;clear ho hb hg hat)|((with_reducible refine gate_builtin (b:=.append) (xs:=#[.tmp 10,.tmp 14]) rfl ?_);at_builtin;refine Kd.R_append k52 (w0:=w0) w0.heap.size rfl (.tmp 10) (.tmp 14) 22 52 (.agg #[(.string ⟨#[]⟩),(.string ⟨#[]⟩)]) 32 rfl Tryz.underlying22 info52 rfl (by decide) (by omega) v168 y167 (⟨a1,a2⟩:S52) [.string a1,.string a2] (fun k_=>(P0_ k_∨w.heap.size≤k_)∧some k_≠(.slice Ao17 l0.length co17:Value).ownBlock) (fun _=>False) rfl rfl ?aP (fun _ hk=>hk.elim) ?aF ?aO ?aB ?aS ?aL ?_;(case aP=>exact k52_mkM _ _ _ (⟨a1,a2⟩:S52));(case aB=>exact (bq0_ HB.out));(case aF=>exact (fun k_ hk=>⟨(.inr (Nat.le_trans (by first|exact HK.out.1|exact (show Kept w _ (fun k_=>P0_ k_) from by repeat (first|(with_reducible first|exact HK.out|apply Kept.alloc|apply Kept.drewN|apply Kept.drew)|exact HK.out)).1) hk)),Kd.fresh' (Kd.R_lt (rq_ HO0.out)) k_ hk⟩));(case aO=>exact (rq_ HO169.out));(case aS=>exact (bz_ (bq0_ HB.out)));(case aL=>have:=LMc5.out;omega);intro v171 w18 ho hb hg hat;rw [←Ny170.out] at ho;have n0_:=A_ (Kd.R_after (ok:=(fun k_=>(P0_ k_∨w.heap.size≤k_))) (rq_ HO0.out) hg hat);have n1_:=A_ (hb);have n2_:=A_ (Kept.of_grown (S:=(fun k_=>P0_ k_)) hg (by repeat (first|(with_reducible first|exact HK.out|apply Kept.alloc|apply Kept.drewN|apply Kept.drew)|exact HK.out)) (fun k_ e_=>(HO169.out.1 k_ e_).1));have n3_:=A_ (ho);clear HO0;clear HB;clear HK;clear HO169;have HO0:=n0_;have HB:=n1_;have HK:=n2_;have HO172:=n3_;clear n0_ n1_ n2_ n3_;clear ho hb hg hat;obtain ⟨Ao19,co19,eo19⟩:=Kd.R_slice HO172.out;subst eo19)|((with_reducible refine gate_callee (f:=71) rfl ?_);refine gl_ (some 17) rfl rfl Tryz.func71 (by kernel_rfl) rfl #[.slice Ao19 y170.length co19] rfl  ?_;(with_reducible refine (spec_l03Attrs.calls k _ _ y170 false _ ?side1 ?side2 A6.out).mono ?_);(case side1=>repeat (first|exact (Kd.R_reads' HO172.out).2.2|(with_reducible refine ca_ ?_ _)|(with_reducible refine cn_ ?_ _)|(with_reducible refine cd_ ?_)));(case side2=>exact (Kd.R_reads' HO172.out).2.1);rintro e w' ⟨rfl,⟨nd,rfl⟩⟩;refine ⟨_,rfl,?_⟩))
    go_ret
    exact ⟨_,by first|rfl|(simp [errW_none,errW_some] <;> rfl)|(simp [*,errW_none,errW_some] <;> rfl),by (with_reducible repeat first|apply ra_|apply rn_|apply rd_);exact Kd.R_mono HO0.out (fun _ hk=>hk.1),bq0_ HB.out,by repeat (first|(with_reducible first|exact HK.out|apply Kept.alloc|apply Kept.drewN|apply Kept.drew)|exact HK.out)⟩
  ·rw [if_neg c5] at H
   exact absurd H (by simp)
 ·rw [if_neg c4] at H
  exact absurd H (by simp)
end Go.Proofs.YtfkanlbmgbkniaaGreatDoor.PFnExactTokensOf
