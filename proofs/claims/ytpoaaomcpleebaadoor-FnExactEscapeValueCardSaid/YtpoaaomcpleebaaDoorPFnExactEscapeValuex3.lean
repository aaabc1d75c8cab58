/- By a program of this session, out of the kit's print and contracts made by hand: the machine side of a law; Lean checks it. No conditions. -/
import Derived.Test.YtpoaaomcpleebaaDoorPFnExactEscapeValuex0
import Derived.Test.YtpoaaomcpleebaaDoorPFnExactEscapeValuex2
namespace Go.Proofs.YtpoaaomcpleebaaDoor.PFnExactEscapeValue
open Go.RowKit Go.Proofs.YtpoaaomcpleebaaDoorW.PrintWords Go.Proofs.YtpoaaomcpleebaaDoorW.PrintLast Go.Proofs.YtpoaaomcpleebaaDoorW.PrintMore
attribute [local go_sem] max2_int min2_int max_two min_two max_three min_three max_four min_four
set_option linter.unusedVariables false
set_option linter.unusedSimpArgs false
/-! ### strings_HasPrefix: function 63 -/
def strings_HasPrefix.f (a0:ByteArray) (a1:ByteArray):Option (Bool):=(stringslite_HasPrefix.f a0 a1).bind fun t103=>(some t103)
set_option maxHeartbeats 8000000 in
set_option maxRecDepth 100000 in
theorem strings_HasPrefix.calls (a0:ByteArray) (a1:ByteArray) (r:Bool) (w:World) (h:strings_HasPrefix.f a0 a1=some r) :
 Calls Tryd.prog 63 #[.string a0,.string a1] w fun e w'=>e=.returned (.bool r)∧Drawn0 w w':=by
 have H:((stringslite_HasPrefix.f a0 a1).bind fun t103=>(some t103))=some r:=h
 clear h
 replace H:=Option.bind_eq_some_iff.mp H
 obtain ⟨t103,A30,H⟩:=H
 replace H:(some t103)=some r:=H
 have A3:=A_ A30
 clear A30
 obtain rfl:=oi_ H
 go_enter Tryd.func63,Tryd.ntmps63
 go_wp2_with (first|((with_reducible refine gate_callee (f:=72) rfl ?_);refine goesL_ (some 7) rfl rfl Tryd.func72 (by kernel_rfl) rfl #[.string a0,.string a1] rfl (by (try simp only [List.map_toArray,List.map_cons,List.map_nil]);first|done|rfl|(simp only [List.length_drop,lt_];rfl)) ?_;(with_reducible refine (stringslite_HasPrefix.calls a0 a1 t103 _ A3.out).mono ?_);rintro e w' ⟨rfl,⟨nd,rfl⟩⟩;refine ⟨_,rfl,?_⟩))
 go_ret
 exact ⟨by first|rfl|(simp;done)|(simp [*];done),by repeat (first|exact dr_ _|apply dp_)⟩
/-! ### strings_longestCommonSuffix: function 64 -/
mutual
def strings_longestCommonSuffix.l0:Nat→ByteArray→ByteArray→Int→Option (Int)
 | 0,_,_,_=>none
 | k+1,x0,x1,x4=>if x4<(x0.size:Int) then (strings_longestCommonSuffix.j1 k x0 x1 x4 (decide (x4<(x1.size:Int)))) else (strings_longestCommonSuffix.j1 k x0 x1 x4 false)
def strings_longestCommonSuffix.j1:Nat→ByteArray→ByteArray→Int→Bool→Option (Int)
 | 0,_,_,_,_=>none
 | k+1,x0,x1,x4,x14=>if x14=true then (if 0≤(wrap64 ((wrap64 ((x0.size:Int) - 1)) - x4)) then (if (wrap64 ((wrap64 ((x0.size:Int) - 1)) - x4))<(x0.size:Int) then (if 0≤(wrap64 ((wrap64 ((x1.size:Int) - 1)) - x4)) then (if (wrap64 ((wrap64 ((x1.size:Int) - 1)) - x4))<(x1.size:Int) then (if (bt x0 (wrap64 ((wrap64 ((x0.size:Int) - 1)) - x4)))=(bt x1 (wrap64 ((wrap64 ((x1.size:Int) - 1)) - x4))) then (strings_longestCommonSuffix.l0 k x0 x1 (wrap64 (x4+1))) else (some x4)) else (none)) else (none)) else (none)) else (none)) else (some x4)
end
def strings_longestCommonSuffix.f (k:Nat) (a0:ByteArray) (a1:ByteArray):Option (Int):=strings_longestCommonSuffix.l0 k a0 a1 0
theorem strings_longestCommonSuffix.mono_l:∀ k,(∀ y0 y1 y2,LeO (strings_longestCommonSuffix.l0 k y0 y1 y2) (strings_longestCommonSuffix.l0 (k+1) y0 y1 y2))∧(∀ y0 y1 y2 y3,LeO (strings_longestCommonSuffix.j1 k y0 y1 y2 y3) (strings_longestCommonSuffix.j1 (k+1) y0 y1 y2 y3))
 | 0=>⟨fun _ _ _ r h=>by simp [strings_longestCommonSuffix.l0] at h,fun _ _ _ _ r h=>by simp [strings_longestCommonSuffix.j1] at h⟩
 | k+1=>by
  obtain ⟨ih0,ih1⟩:=strings_longestCommonSuffix.mono_l k
  refine ⟨?_,?_⟩
  ·intro y0 y1 y2
   unfold strings_longestCommonSuffix.l0
   repeat' first
   | (with_reducible exact ih0 _ _ _)
   | (with_reducible exact ih1 _ _ _ _)
   | (with_reducible exact LeO.refl _)
   | (with_reducible exact LeO.none _)
   | (with_reducible refine LeO.ite ?_ ?_)
   | (with_reducible refine LeO.bind ?_ (fun _=>?_))
   | exact ih0 _ _ _
   | exact ih1 _ _ _ _
   | exact LeO.none _
   | refine LeO.ite ?_ ?_
   | refine LeO.bind ?_ (fun _=>?_)
  ·intro y0 y1 y2 y3
   unfold strings_longestCommonSuffix.j1
   repeat' first
   | (with_reducible exact ih0 _ _ _)
   | (with_reducible exact ih1 _ _ _ _)
   | (with_reducible exact LeO.refl _)
   | (with_reducible exact LeO.none _)
   | (with_reducible refine LeO.ite ?_ ?_)
   | (with_reducible refine LeO.bind ?_ (fun _=>?_))
   | exact ih0 _ _ _
   | exact ih1 _ _ _ _
   | exact LeO.none _
   | refine LeO.ite ?_ ?_
   | refine LeO.bind ?_ (fun _=>?_)
theorem strings_longestCommonSuffix.mono:∀ a0 a1 k,LeO (strings_longestCommonSuffix.f k a0 a1) (strings_longestCommonSuffix.f (k+1) a0 a1):=by
 intro a0 a1 k
 obtain ⟨ih0,ih1⟩:=strings_longestCommonSuffix.mono_l k
 unfold strings_longestCommonSuffix.f
 repeat' first
  | (with_reducible exact ih0 _ _ _)
  | (with_reducible exact ih1 _ _ _ _)
  | (with_reducible exact LeO.refl _)
  | (with_reducible exact LeO.none _)
  | (with_reducible refine LeO.ite ?_ ?_)
  | (with_reducible refine LeO.bind ?_ (fun _=>?_))
  | exact ih0 _ _ _
  | exact ih1 _ _ _ _
  | exact LeO.none _
  | refine LeO.ite ?_ ?_
  | refine LeO.bind ?_ (fun _=>?_)
set_option maxHeartbeats 8000000 in
set_option maxRecDepth 100000 in
theorem strings_longestCommonSuffix.calls (k:Nat) (a0:ByteArray) (a1:ByteArray) (r:Int) (w:World) (h:strings_longestCommonSuffix.f k a0 a1=some r) :
 Calls Tryd.prog 64 #[.string a0,.string a1] w fun e w'=>e=.returned (.int .i64 r)∧Drawn0 w w':=by
 have H:(strings_longestCommonSuffix.l0 k a0 a1 0)=some r:=h
 clear h
 have H':=A_ H
 clear H
 go_enter Tryd.func64,Tryd.ntmps64
 go_wp2
 repeat (go_quiet (fail);try go_wp2)
 go_loopg [4] k (fun kq v4 w'=>∃ (x4_1:Int),v4=.int .i64 x4_1∧Aside0 (strings_longestCommonSuffix.l0 kq a0 a1 x4_1=some r)∧Aside0 (kq≤k)∧Drawn0 w w')
 case atStart=>exact ⟨(0),(by first|rfl|(simp;done)|(simp [*];done)),H',⟨Nat.le_refl _⟩,by repeat (first|exact dr_ _|apply dp_)⟩
 case round =>
  clear H'
  try clear p2
  obtain ⟨x4_1,rfl,HA,HK1,⟨m1,rfl⟩⟩:=hrel
  cases gk with
  | zero=>exact absurd HA.out (by simp [strings_longestCommonSuffix.l0])
  | succ k1 =>
   have H:=HA.out
   clear HA
   simp only [strings_longestCommonSuffix.l0] at H
   have HC3:=A_ H
   clear H
   go_upto_region 1 with (fail)
   repeat (go_quiet (fail);go_upto_region 1 with (fail))
   go_cut [14] (fun v14 wc=>∃ (kq:Nat) (x14_2:Bool),v14=.bool x14_2∧Aside0 (strings_longestCommonSuffix.j1 kq a0 a1 x4_1 x14_2=some r)∧Aside0 (kq≤k1)∧Drawn0 w wc)
   case first =>
    have H:=HC3.out
    clear HC3
    by_cases c4:x4_1<(a0.size:Int)
    ·rw [if_pos c4] at H
     have c4b0:decide (x4_1<(a0.size:Int))=true:=dt_ c4
     clear c4
     (first|rw [c4b0]|(simp only [i64_w,i32_w];rw [c4b0])|skip)
     have H':=A_ H
     clear H
     go_wp2
     repeat (go_quiet (fail);try go_wp2)
     go_meet
     case rel=>exact ⟨_,(decide (x4_1<(a1.size:Int))),(by first|rfl|(simp;done)|(simp [*];done)),H',⟨by have:=HK1.out;first|omega|exact Nat.le_refl _⟩,by repeat (first|exact dr_ _|apply dp_)⟩
    ·rw [if_neg c4] at H
     have c4b0:decide (x4_1<(a0.size:Int))=false:=df_ c4
     clear c4
     (first|rw [c4b0]|(simp only [i64_w,i32_w];rw [c4b0])|skip)
     have H':=A_ H
     clear H
     go_wp2
     repeat (go_quiet (fail);try go_wp2)
     go_meet
     case rel=>exact ⟨_,(false),(by first|rfl|(simp;done)|(simp [*];done)),H',⟨by have:=HK1.out;first|omega|exact Nat.le_refl _⟩,by repeat (first|exact dr_ _|apply dp_)⟩
   case rest =>
    clear HC3
    try clear p2
    try clear c4
    try clear c4b0
    try clear p2
    obtain ⟨kq,x14_2,rfl,HA,HJ2,⟨mc2,rfl⟩⟩:=hcut
    cases kq with
    | zero=>exact absurd HA.out (by simp [strings_longestCommonSuffix.j1])
    | succ kj2 =>
     have H:=HA.out
     clear HA
     simp only [strings_longestCommonSuffix.j1] at H
     by_cases c5:x14_2=true
     ·subst c5
      have H1:(if 0≤(wrap64 ((wrap64 ((a0.size:Int) - 1)) - x4_1)) then (if (wrap64 ((wrap64 ((a0.size:Int) - 1)) - x4_1))<(a0.size:Int) then (if 0≤(wrap64 ((wrap64 ((a1.size:Int) - 1)) - x4_1)) then (if (wrap64 ((wrap64 ((a1.size:Int) - 1)) - x4_1))<(a1.size:Int) then (if (bt a0 (wrap64 ((wrap64 ((a0.size:Int) - 1)) - x4_1)))=(bt a1 (wrap64 ((wrap64 ((a1.size:Int) - 1)) - x4_1))) then (strings_longestCommonSuffix.l0 kj2 a0 a1 (wrap64 (x4_1+1))) else (some x4_1)) else (none)) else (none)) else (none)) else (none))=some r:=by rw [if_pos rfl] at H;exact H
      clear H
      have H:=H1
      clear H1
      obtain ⟨ji6,hji6⟩:∃ j_:Int,(wrap64 ((wrap64 ((a0.size:Int) - 1)) - x4_1))=j_:=⟨_,rfl⟩
      replace H:(if 0≤(ji6) then (if (ji6)<(a0.size:Int) then (if 0≤(wrap64 ((wrap64 ((a1.size:Int) - 1)) - x4_1)) then (if (wrap64 ((wrap64 ((a1.size:Int) - 1)) - x4_1))<(a1.size:Int) then (if (bt a0 (ji6))=(bt a1 (wrap64 ((wrap64 ((a1.size:Int) - 1)) - x4_1))) then (strings_longestCommonSuffix.l0 kj2 a0 a1 (wrap64 (x4_1+1))) else (some x4_1)) else (none)) else (none)) else (none)) else (none))=some r:=by first|(rw [hji6] at H;exact H)|(simp only [hji6] at H ⊢;exact H)
      have hji6w:(IntKind.i64.wrap ((wrap64 ((a0.size:Int) - 1)) - x4_1))=ji6:=(i64_w _).trans hji6
      by_cases c7:0≤(ji6)
      ·rw [if_pos c7] at H
       have c7b0:decide (0≤(ji6))=true:=dt_ c7
       clear c7
       by_cases c8:(ji6)<(a0.size:Int)
       ·rw [if_pos c8] at H
        have c8b0:decide ((ji6)<(a0.size:Int))=true:=dt_ c8
        clear c8
        obtain ⟨ji10,hji10⟩:∃ j_:Int,(wrap64 ((wrap64 ((a1.size:Int) - 1)) - x4_1))=j_:=⟨_,rfl⟩
        replace H:(if 0≤(ji10) then (if (ji10)<(a1.size:Int) then (if (bt a0 (ji6))=(bt a1 (ji10)) then (strings_longestCommonSuffix.l0 kj2 a0 a1 (wrap64 (x4_1+1))) else (some x4_1)) else (none)) else (none))=some r:=by first|(rw [hji10] at H;exact H)|(simp only [hji10] at H ⊢;exact H)
        have hji10w:(IntKind.i64.wrap ((wrap64 ((a1.size:Int) - 1)) - x4_1))=ji10:=(i64_w _).trans hji10
        by_cases c11:0≤(ji10)
        ·rw [if_pos c11] at H
         have c11b0:decide (0≤(ji10))=true:=dt_ c11
         clear c11
         by_cases c12:(ji10)<(a1.size:Int)
         ·rw [if_pos c12] at H
          have c12b0:decide ((ji10)<(a1.size:Int))=true:=dt_ c12
          clear c12
          by_cases c14:(bt a0 (ji6))=(bt a1 (ji10))
          ·rw [if_pos c14] at H
           have c14b0:((bt a0 (ji6)) == (bt a1 (ji10)))=true:=beq_iff_eq.mpr c14
           have c14b1:((bt a0 (ji6)) != (bt a1 (ji10)))=false:=bne_eq_false_iff_eq.mpr c14
           clear c14
           have H':=A_ H
           clear H
           have p9:0≤((ji6):Int):=od_ (by first|(with_reducible assumption)|assumption)
           have q9:(ji6)<(a0.size:Int):=od_ (by first|(with_reducible assumption)|assumption)
           have hx9:=bt_at a0 (ji6)
           replace p9:=eq_true p9
           replace q9:=eq_true q9
           have p13:0≤((ji10):Int):=od_ (by first|(with_reducible assumption)|assumption)
           have q13:(ji10)<(a1.size:Int):=od_ (by first|(with_reducible assumption)|assumption)
           have hx13:=bt_at a1 (ji10)
           replace p13:=eq_true p13
           replace q13:=eq_true q13
           go_wp2
           repeat (go_quiet (fail);try go_wp2)
           go_roundg kj2
           case measure=>have:=HK1.out;have:=HJ2.out;omega
           case rel=>exact ⟨(wrap64 (x4_1+1)),(by first|rfl|(simp;done)|(simp [*];done)),H',⟨by have:=HK1.out;have:=HJ2.out;omega⟩,by repeat (first|exact dr_ _|apply dp_)⟩
          ·rw [if_neg c14] at H
           have c14b0:((bt a0 (ji6)) == (bt a1 (ji10)))=false:=beq_eq_false_iff_ne.mpr c14
           have c14b1:((bt a0 (ji6)) != (bt a1 (ji10)))=true:=bne_iff_ne.mpr c14
           obtain rfl:=oi_ H
           have p9:0≤((ji6):Int):=od_ (by first|(with_reducible assumption)|assumption)
           have q9:(ji6)<(a0.size:Int):=od_ (by first|(with_reducible assumption)|assumption)
           have hx9:=bt_at a0 (ji6)
           replace p9:=eq_true p9
           replace q9:=eq_true q9
           have p13:0≤((ji10):Int):=od_ (by first|(with_reducible assumption)|assumption)
           have q13:(ji10)<(a1.size:Int):=od_ (by first|(with_reducible assumption)|assumption)
           have hx13:=bt_at a1 (ji10)
           replace p13:=eq_true p13
           replace q13:=eq_true q13
           go_wp2
           repeat (go_quiet (fail);try go_wp2)
           go_ret
           exact ⟨by first|rfl|(simp;done)|(simp only [←hji6,←hji10] <;> (first|rfl|simp))|(simp [*];done),by repeat (first|exact dr_ _|apply dp_)⟩
         ·rw [if_neg c12] at H
          exact absurd H (by simp)
        ·rw [if_neg c11] at H
         exact absurd H (by simp)
       ·rw [if_neg c8] at H
        exact absurd H (by simp)
      ·rw [if_neg c7] at H
       exact absurd H (by simp)
     ·replace c5:=Bool.eq_false_iff.mpr c5
      subst c5
      have H1:(some x4_1)=some r:=by rw [if_neg (show ¬ (false=true) by decide)] at H;exact H
      clear H
      have H:=H1
      clear H1
      obtain rfl:=oi_ H
      go_wp2
      repeat (go_quiet (fail);try go_wp2)
      go_ret
      exact ⟨by first|rfl|(simp;done)|(simp [*];done),by repeat (first|exact dr_ _|apply dp_)⟩
end Go.Proofs.YtpoaaomcpleebaaDoor.PFnExactEscapeValue
