/- By a program of this session, out of the kit's print and contracts made by hand: the machine side of a law; Lean checks it. No conditions. -/
import Derived.Test.YtfkanlbmgbkniaaGreatDoorPFnExactNextTokenx0
import Derived.Test.YtfkanlbmgbkniaaGreatDoorPFnExactNextTokenx1
namespace Go.Proofs.YtfkanlbmgbkniaaGreatDoor.PFnExactNextToken
open Go.RowKit Go.Proofs.YtfkanlbmgbkniaaGreatDoorW.PrintWords Go.Proofs.YtfkanlbmgbkniaaGreatDoorW.PrintLast Go.Proofs.YtfkanlbmgbkniaaGreatDoorW.PrintMore
attribute [local go_sem] max2_int min2_int max_two min_two max_three min_three max_four min_four
set_option linter.unusedVariables false
set_option linter.unusedSimpArgs false
/-! ### spec_l03Attrs: function 71 -/
mutual
def spec_l03Attrs.l0:Nat→List (S52)→Int→Option (Bool)
 | 0,_,_=>none
 | k+1,x0,x3=>if x3<(x0.length:Int) then (if 0≤x3 then ((spec_l01Tag.f k ((rd_T52 x0 x3).f0)).bind fun t160=>(if t160=true then (spec_l03Attrs.j1 k x0 x3 (decide ((((rd_T52 x0 x3).f1).size:Int)>40))) else (spec_l03Attrs.j1 k x0 x3 true))) else (none)) else (some true)
def spec_l03Attrs.j1:Nat→List (S52)→Int→Bool→Option (Bool)
 | 0,_,_,_=>none
 | k+1,x0,x3,x29=>if x29=true then (some false) else (spec_l03Attrs.l1 k x0 x3 0)
def spec_l03Attrs.l1:Nat→List (S52)→Int→Int→Option (Bool)
 | 0,_,_,_=>none
 | k+1,x0,x3,x4=>if x4<x3 then (if 0≤x4 then (if x4<(x0.length:Int) then (if 0≤x3 then (if x3<(x0.length:Int) then (if ((rd_T52 x0 x4).f0).toList=((rd_T52 x0 x3).f0).toList then (some false) else (spec_l03Attrs.l1 k x0 x3 (wrap64 (x4+1)))) else (none)) else (none)) else (none)) else (none)) else (spec_l03Attrs.l0 k x0 (wrap64 (x3+1)))
end
def spec_l03Attrs.f (k:Nat) (l0:List (S52)):Option (Bool):=if (l0.length:Int)>6 then (some false) else (spec_l03Attrs.l0 k l0 0)
theorem spec_l03Attrs.mono_l:∀ k,(∀ y0 y1,LeO (spec_l03Attrs.l0 k y0 y1) (spec_l03Attrs.l0 (k+1) y0 y1))∧(∀ y0 y1 y2,LeO (spec_l03Attrs.j1 k y0 y1 y2) (spec_l03Attrs.j1 (k+1) y0 y1 y2))∧(∀ y0 y1 y2,LeO (spec_l03Attrs.l1 k y0 y1 y2) (spec_l03Attrs.l1 (k+1) y0 y1 y2))
 | 0=>⟨fun _ _ r h=>by simp [spec_l03Attrs.l0] at h,fun _ _ _ r h=>by simp [spec_l03Attrs.j1] at h,fun _ _ _ r h=>by simp [spec_l03Attrs.l1] at h⟩
 | k+1=>by
  obtain ⟨ih0,ih1,ih2⟩:=spec_l03Attrs.mono_l k
  refine ⟨?_,?_,?_⟩
  ·intro y0 y1
   unfold spec_l03Attrs.l0
   repeat' first
   | (with_reducible exact ih0 _ _)
   | (with_reducible exact ih1 _ _ _)
   | (with_reducible exact ih2 _ _ _)
   | (with_reducible exact spec_l01Tag.mono _ _)
   | (with_reducible exact LeO.refl _)
   | (with_reducible exact LeO.none _)
   | (with_reducible refine LeO.ite ?_ ?_)
   | (with_reducible refine LeO.bind ?_ (fun _=>?_))
   | exact ih0 _ _
   | exact ih1 _ _ _
   | exact ih2 _ _ _
   | exact spec_l01Tag.mono _ _
   | exact LeO.none _
   | refine LeO.ite ?_ ?_
   | refine LeO.bind ?_ (fun _=>?_)
  ·intro y0 y1 y2
   unfold spec_l03Attrs.j1
   repeat' first
   | (with_reducible exact ih0 _ _)
   | (with_reducible exact ih1 _ _ _)
   | (with_reducible exact ih2 _ _ _)
   | (with_reducible exact spec_l01Tag.mono _ _)
   | (with_reducible exact LeO.refl _)
   | (with_reducible exact LeO.none _)
   | (with_reducible refine LeO.ite ?_ ?_)
   | (with_reducible refine LeO.bind ?_ (fun _=>?_))
   | exact ih0 _ _
   | exact ih1 _ _ _
   | exact ih2 _ _ _
   | exact spec_l01Tag.mono _ _
   | exact LeO.none _
   | refine LeO.ite ?_ ?_
   | refine LeO.bind ?_ (fun _=>?_)
  ·intro y0 y1 y2
   unfold spec_l03Attrs.l1
   repeat' first
   | (with_reducible exact ih0 _ _)
   | (with_reducible exact ih1 _ _ _)
   | (with_reducible exact ih2 _ _ _)
   | (with_reducible exact spec_l01Tag.mono _ _)
   | (with_reducible exact LeO.refl _)
   | (with_reducible exact LeO.none _)
   | (with_reducible refine LeO.ite ?_ ?_)
   | (with_reducible refine LeO.bind ?_ (fun _=>?_))
   | exact ih0 _ _
   | exact ih1 _ _ _
   | exact ih2 _ _ _
   | exact spec_l01Tag.mono _ _
   | exact LeO.none _
   | refine LeO.ite ?_ ?_
   | refine LeO.bind ?_ (fun _=>?_)
theorem spec_l03Attrs.mono:∀ a0 k,LeO (spec_l03Attrs.f k a0) (spec_l03Attrs.f (k+1) a0):=by
 intro a0 k
 obtain ⟨ih0,ih1,ih2⟩:=spec_l03Attrs.mono_l k
 unfold spec_l03Attrs.f
 repeat' first
  | (with_reducible exact ih0 _ _)
  | (with_reducible exact ih1 _ _ _)
  | (with_reducible exact ih2 _ _ _)
  | (with_reducible exact spec_l01Tag.mono _ _)
  | (with_reducible exact LeO.refl _)
  | (with_reducible exact LeO.none _)
  | (with_reducible refine LeO.ite ?_ ?_)
  | (with_reducible refine LeO.bind ?_ (fun _=>?_))
  | exact ih0 _ _
  | exact ih1 _ _ _
  | exact ih2 _ _ _
  | exact spec_l01Tag.mono _ _
  | exact LeO.none _
  | refine LeO.ite ?_ ?_
  | refine LeO.bind ?_ (fun _=>?_)
set_option maxHeartbeats 8000000 in
set_option maxRecDepth 100000 in
theorem spec_l03Attrs.calls (k:Nat) (A0:Option Addr) (c0:Nat) (l0:List (S52)) (r:Bool) (w:World) (hr0:Kd.C k52 w A0 l0.length l0) (hc0:l0.length≤c0) (h:spec_l03Attrs.f k l0=some r) :
 Calls Tryz.prog 71 #[.slice A0 l0.length c0] w fun e w'=>e=.returned (.bool r)∧Drawn0 w w':=by
 have HR0:=A_ hr0
 have HC0:=A_ hc0
 clear hr0 hc0
 have H:(if (l0.length:Int)>6 then (some false) else (spec_l03Attrs.l0 k l0 0))=some r:=h
 clear h
 by_cases c2:(l0.length:Int)>6
 ·rw [if_pos c2] at H
  have c2b0:decide (6<(l0.length:Int))=true:=dt_ c2
  have c2b1:decide (6<l0.length)=true:=dt_ (by omega)
  clear c2
  obtain rfl:=oi_ H
  go_enter Tryz.func71,Tryz.ntmps71
  go_wp2
  repeat (go_quiet (fail);try go_wp2)
  go_ret
  exact ⟨by first|rfl|(simp;done)|(simp [*];done),by repeat (first|exact dr_ _|apply dp_)⟩
 ·rw [if_neg c2] at H
  have c2b0:decide (6<(l0.length:Int))=false:=df_ c2
  have c2b1:decide (6<l0.length)=false:=df_ (by omega)
  clear c2
  have H':=A_ H
  clear H
  go_enter Tryz.func71,Tryz.ntmps71
  go_wp2
  repeat (go_quiet (fail);try go_wp2)
  go_loopg [3] k (fun kq v3 w'=>∃ (x3_1:Int),v3=.int .i64 x3_1∧Aside0 (spec_l03Attrs.l0 kq l0 x3_1=some r)∧Aside0 (kq≤k)∧Drawn0 w w')
  case atStart=>exact ⟨(0),(by first|rfl|(simp;done)|(simp [*];done)),H',⟨Nat.le_refl _⟩,by repeat (first|exact dr_ _|apply dp_)⟩
  case round =>
   clear H'
   try clear c2
   try clear c2b0
   try clear c2b1
   try clear p2
   obtain ⟨x3_1,rfl,HA,HK1,⟨m1,rfl⟩⟩:=hrel
   cases gk with
   | zero=>exact absurd HA.out (by simp [spec_l03Attrs.l0])
   | succ k1 =>
    have H:=HA.out
    clear HA
    simp only [spec_l03Attrs.l0] at H
    by_cases c3:x3_1<(l0.length:Int)
    ·rw [if_pos c3] at H
     have c3b0:decide (x3_1<(l0.length:Int))=true:=dt_ c3
     clear c3
     have HC4:=A_ H
     clear H
     go_upto_region 6 with (fail)
     repeat (go_quiet (fail);go_upto_region 6 with (fail))
     go_cut [29] (fun v29 wc=>∃ (kq:Nat) (x29_3:Bool),v29=.bool x29_3∧Aside0 (spec_l03Attrs.j1 kq l0 x3_1 x29_3=some r)∧Aside0 (kq≤k1)∧Drawn0 w wc)
     case first =>
      have H:=HC4.out
      clear HC4
      by_cases c5:0≤x3_1
      ·rw [if_pos c5] at H
       have c5b0:decide (0≤x3_1)=true:=dt_ c5
       clear c5
       (first|rw [c5b0]|(simp only [i64_w,i32_w];rw [c5b0])|skip)
       replace H:=ob_ H
       obtain ⟨t160,A60,H⟩:=H
       replace H:(if t160=true then (spec_l03Attrs.j1 k1 l0 x3_1 (decide ((((rd_T52 l0 x3_1).f1).size:Int)>40))) else (spec_l03Attrs.j1 k1 l0 x3_1 true))=some r:=H
       have A6:=A_ A60
       clear A60
       by_cases c7:t160=true
       ·subst c7
        have H1:(spec_l03Attrs.j1 k1 l0 x3_1 (decide ((((rd_T52 l0 x3_1).f1).size:Int)>40)))=some r:=by rw [if_pos rfl] at H;exact H
        clear H
        have H:=H1
        clear H1
        have H':=A_ H
        clear H
        have p159:0≤(x3_1:Int):=oa_
        have q159:x3_1<(l0.length:Int):=oa_
        obtain ⟨ad159,e159,hx159_0,hx159_1⟩:=at_T52 HR0.out x3_1 p159 q159
        cases e159
        replace p159:=eq_true p159
        replace q159:=eq_true q159
        go_wp2_with (first|(go_at_call 16;(with_reducible refine (spec_l01Tag.calls k1 ((rd_T52 l0 x3_1).f0) true _ A6.out).mono ?_);rintro e w' ⟨rfl,⟨nd,rfl⟩⟩;(try first|exact ⟨rfl,_,ww_ _ _ _⟩|exact ⟨rfl,_,Eq.trans (ww_ _ _ _) (congrArg (World.drewN _) (Nat.add_assoc _ _ _))⟩);have p161:0≤(x3_1:Int):=oa_;have q161:x3_1<(l0.length:Int):=oa_;obtain ⟨ad161,e161,hx161_0,hx161_1⟩:=at_T52 HR0.out x3_1 p161 q161;obtain rfl:ad159=ad161:=(by injection e161);replace p161:=eq_true p161;replace q161:=eq_true q161))
        repeat (go_quiet (first|(go_at_call 16;(with_reducible refine (spec_l01Tag.calls k1 ((rd_T52 l0 x3_1).f0) true _ A6.out).mono ?_);rintro e w' ⟨rfl,⟨nd,rfl⟩⟩;(try first|exact ⟨rfl,_,ww_ _ _ _⟩|exact ⟨rfl,_,Eq.trans (ww_ _ _ _) (congrArg (World.drewN _) (Nat.add_assoc _ _ _))⟩);have p161:0≤(x3_1:Int):=oa_;have q161:x3_1<(l0.length:Int):=oa_;obtain ⟨ad161,e161,hx161_0,hx161_1⟩:=at_T52 HR0.out x3_1 p161 q161;obtain rfl:ad159=ad161:=(by injection e161);replace p161:=eq_true p161;replace q161:=eq_true q161));try go_wp2_with (first|(go_at_call 16;(with_reducible refine (spec_l01Tag.calls k1 ((rd_T52 l0 x3_1).f0) true _ A6.out).mono ?_);rintro e w' ⟨rfl,⟨nd,rfl⟩⟩;(try first|exact ⟨rfl,_,ww_ _ _ _⟩|exact ⟨rfl,_,Eq.trans (ww_ _ _ _) (congrArg (World.drewN _) (Nat.add_assoc _ _ _))⟩);have p161:0≤(x3_1:Int):=oa_;have q161:x3_1<(l0.length:Int):=oa_;obtain ⟨ad161,e161,hx161_0,hx161_1⟩:=at_T52 HR0.out x3_1 p161 q161;obtain rfl:ad159=ad161:=(by injection e161);replace p161:=eq_true p161;replace q161:=eq_true q161)))
        go_meet
        case rel=>exact ⟨_,(decide ((((rd_T52 l0 x3_1).f1).size:Int)>40)),(by first|rfl|(simp;done)|(simp [*];done)),H',⟨by have:=HK1.out;first|omega|exact Nat.le_refl _⟩,by repeat (first|exact dr_ _|apply dp_)⟩
       ·replace c7:=bm_ c7
        subst c7
        have H1:(spec_l03Attrs.j1 k1 l0 x3_1 true)=some r:=by rw [if_neg (show ¬ (false=true) by decide)] at H;exact H
        clear H
        have H:=H1
        clear H1
        have H':=A_ H
        clear H
        have p159:0≤(x3_1:Int):=oa_
        have q159:x3_1<(l0.length:Int):=oa_
        obtain ⟨ad159,e159,hx159_0,hx159_1⟩:=at_T52 HR0.out x3_1 p159 q159
        cases e159
        replace p159:=eq_true p159
        replace q159:=eq_true q159
        go_wp2_with (first|(go_at_call 16;(with_reducible refine (spec_l01Tag.calls k1 ((rd_T52 l0 x3_1).f0) false _ A6.out).mono ?_);rintro e w' ⟨rfl,⟨nd,rfl⟩⟩;(try first|exact ⟨rfl,_,ww_ _ _ _⟩|exact ⟨rfl,_,Eq.trans (ww_ _ _ _) (congrArg (World.drewN _) (Nat.add_assoc _ _ _))⟩)))
        repeat (go_quiet (first|(go_at_call 16;(with_reducible refine (spec_l01Tag.calls k1 ((rd_T52 l0 x3_1).f0) false _ A6.out).mono ?_);rintro e w' ⟨rfl,⟨nd,rfl⟩⟩;(try first|exact ⟨rfl,_,ww_ _ _ _⟩|exact ⟨rfl,_,Eq.trans (ww_ _ _ _) (congrArg (World.drewN _) (Nat.add_assoc _ _ _))⟩)));try go_wp2_with (first|(go_at_call 16;(with_reducible refine (spec_l01Tag.calls k1 ((rd_T52 l0 x3_1).f0) false _ A6.out).mono ?_);rintro e w' ⟨rfl,⟨nd,rfl⟩⟩;(try first|exact ⟨rfl,_,ww_ _ _ _⟩|exact ⟨rfl,_,Eq.trans (ww_ _ _ _) (congrArg (World.drewN _) (Nat.add_assoc _ _ _))⟩))))
        go_meet
        case rel=>exact ⟨_,(true),(by first|rfl|(simp;done)|(simp [*];done)),H',⟨by have:=HK1.out;first|omega|exact Nat.le_refl _⟩,by repeat (first|exact dr_ _|apply dp_)⟩
      ·rw [if_neg c5] at H
       exact absurd H (by simp)
     case rest =>
      clear HC4
      try clear p1
      try clear q1
      try clear hx1
      try clear c2
      try clear c2b0
      try clear c2b1
      try clear p2
      try clear c3
      try clear c3b0
      try clear c5
      try clear c5b0
      try clear c7
      try clear hx159_0
      try clear hx159_1
      try clear hx161_0
      try clear hx161_1
      try clear p159
      try clear p161
      try clear p2
      try clear q159
      try clear q161
      obtain ⟨kq,x29_3,rfl,HA,HJ3,⟨mc3,rfl⟩⟩:=hcut
      cases kq with
      | zero=>exact absurd HA.out (by simp [spec_l03Attrs.j1])
      | succ kj3 =>
       have H:=HA.out
       clear HA
       simp only [spec_l03Attrs.j1] at H
       by_cases c8:x29_3=true
       ·subst c8
        have H1:(some false)=some r:=by rw [if_pos rfl] at H;exact H
        clear H
        have H:=H1
        clear H1
        obtain rfl:=oi_ H
        go_wp2
        repeat (go_quiet (fail);try go_wp2)
        go_ret
        exact ⟨by first|rfl|(simp;done)|(simp [*];done),by repeat (first|exact dr_ _|apply dp_)⟩
       ·replace c8:=bm_ c8
        subst c8
        have H1:(spec_l03Attrs.l1 kj3 l0 x3_1 0)=some r:=by rw [if_neg (show ¬ (false=true) by decide)] at H;exact H
        clear H
        have H:=H1
        clear H1
        have H':=A_ H
        clear H
        go_wp2
        repeat (go_quiet (fail);try go_wp2)
        go_loopg [4] kj3 (fun kq v4 w'=>∃ (x4_3:Int),v4=.int .i64 x4_3∧Aside0 (spec_l03Attrs.l1 kq l0 x3_1 x4_3=some r)∧Aside0 (kq≤kj3)∧Drawn0 w w')
        case atStart=>exact ⟨(0),(by first|rfl|(simp;done)|(simp [*];done)),H',⟨Nat.le_refl _⟩,by repeat (first|exact dr_ _|apply dp_)⟩
        case round =>
         clear H'
         try clear p1
         try clear q1
         try clear hx1
         try clear c2
         try clear c2b0
         try clear c2b1
         try clear p2
         try clear c3
         try clear c3b0
         try clear c5
         try clear c5b0
         try clear c7
         try clear c8
         try clear hx159_0
         try clear hx159_1
         try clear hx161_0
         try clear hx161_1
         try clear p1
         try clear p159
         try clear p161
         try clear p2
         try clear q1
         try clear q159
         try clear q161
         obtain ⟨x4_3,rfl,HA,HK3,⟨m3,rfl⟩⟩:=hrel
         cases gk with
         | zero=>exact absurd HA.out (by simp [spec_l03Attrs.l1])
         | succ k3 =>
          have H:=HA.out
          clear HA
          simp only [spec_l03Attrs.l1] at H
          by_cases c9:x4_3<x3_1
          ·rw [if_pos c9] at H
           have c9b0:decide (x4_3<x3_1)=true:=dt_ c9
           clear c9
           by_cases c10:0≤x4_3
           ·rw [if_pos c10] at H
            have c10b0:decide (0≤x4_3)=true:=dt_ c10
            clear c10
            by_cases c11:x4_3<(l0.length:Int)
            ·rw [if_pos c11] at H
             have c11b0:decide (x4_3<(l0.length:Int))=true:=dt_ c11
             clear c11
             by_cases c12:0≤x3_1
             ·rw [if_pos c12] at H
              have c12b0:decide (0≤x3_1)=true:=dt_ c12
              clear c12
              by_cases c13:x3_1<(l0.length:Int)
              ·rw [if_pos c13] at H
               have c13b0:decide (x3_1<(l0.length:Int))=true:=dt_ c13
               clear c13
               by_cases c14:((rd_T52 l0 x4_3).f0).toList=((rd_T52 l0 x3_1).f0).toList
               ·rw [if_pos c14] at H
                have c14b0:(((rd_T52 l0 x4_3).f0).toList == ((rd_T52 l0 x3_1).f0).toList)=true:=beq_iff_eq.mpr c14
                have c14b1:(((rd_T52 l0 x4_3).f0).toList != ((rd_T52 l0 x3_1).f0).toList)=false:=bne_eq_false_iff_eq.mpr c14
                clear c14
                obtain rfl:=oi_ H
                have p162:0≤(x4_3:Int):=oa_
                have q162:x4_3<(l0.length:Int):=oa_
                obtain ⟨ad162,e162,hx162_0,hx162_1⟩:=at_T52 HR0.out x4_3 p162 q162
                cases e162
                replace p162:=eq_true p162
                replace q162:=eq_true q162
                have p163:0≤(x3_1:Int):=oa_
                have q163:x3_1<(l0.length:Int):=oa_
                obtain ⟨ad163,e163,hx163_0,hx163_1⟩:=at_T52 HR0.out x3_1 p163 q163
                obtain rfl:ad162=ad163:=(by injection e163)
                replace p163:=eq_true p163
                replace q163:=eq_true q163
                go_wp2
                repeat (go_quiet (fail);try go_wp2)
                go_ret
                exact ⟨by first|rfl|(simp;done)|(simp [*];done),by repeat (first|exact dr_ _|apply dp_)⟩
               ·rw [if_neg c14] at H
                have c14b0:(((rd_T52 l0 x4_3).f0).toList == ((rd_T52 l0 x3_1).f0).toList)=false:=beq_eq_false_iff_ne.mpr c14
                have c14b1:(((rd_T52 l0 x4_3).f0).toList != ((rd_T52 l0 x3_1).f0).toList)=true:=bne_iff_ne.mpr c14
                have H':=A_ H
                clear H
                have p162:0≤(x4_3:Int):=oa_
                have q162:x4_3<(l0.length:Int):=oa_
                obtain ⟨ad162,e162,hx162_0,hx162_1⟩:=at_T52 HR0.out x4_3 p162 q162
                cases e162
                replace p162:=eq_true p162
                replace q162:=eq_true q162
                have p163:0≤(x3_1:Int):=oa_
                have q163:x3_1<(l0.length:Int):=oa_
                obtain ⟨ad163,e163,hx163_0,hx163_1⟩:=at_T52 HR0.out x3_1 p163 q163
                obtain rfl:ad162=ad163:=(by injection e163)
                replace p163:=eq_true p163
                replace q163:=eq_true q163
                go_wp2
                repeat (go_quiet (fail);try go_wp2)
                go_roundg k3
                case measure=>have:=HK1.out;have:=HJ3.out;have:=HK3.out;omega
                case rel=>exact ⟨(wrap64 (x4_3+1)),(by first|rfl|(simp;done)|(simp [*];done)),H',⟨by have:=HK1.out;have:=HJ3.out;have:=HK3.out;omega⟩,by repeat (first|exact dr_ _|apply dp_)⟩
              ·rw [if_neg c13] at H
               exact absurd H (by simp)
             ·rw [if_neg c12] at H
              exact absurd H (by simp)
            ·rw [if_neg c11] at H
             exact absurd H (by simp)
           ·rw [if_neg c10] at H
            exact absurd H (by simp)
          ·rw [if_neg c9] at H
           have c9b0:decide (x4_3<x3_1)=false:=df_ c9
           clear c9
           have H':=A_ H
           clear H
           go_wp2
           repeat (go_quiet (fail);try go_wp2)
           go_roundg k3
           case measure=>have:=HK1.out;have:=HJ3.out;have:=HK3.out;omega
           case rel=>exact ⟨(wrap64 (x3_1+1)),(by first|rfl|(simp;done)|(simp [*];done)),H',⟨by have:=HK1.out;have:=HJ3.out;have:=HK3.out;omega⟩,by repeat (first|exact dr_ _|apply dp_)⟩
    ·rw [if_neg c3] at H
     have c3b0:decide (x3_1<(l0.length:Int))=false:=df_ c3
     clear c3
     obtain rfl:=oi_ H
     go_wp2
     repeat (go_quiet (fail);try go_wp2)
     go_ret
     exact ⟨by first|rfl|(simp;done)|(simp [*];done),by repeat (first|exact dr_ _|apply dp_)⟩
end Go.Proofs.YtfkanlbmgbkniaaGreatDoor.PFnExactNextToken
