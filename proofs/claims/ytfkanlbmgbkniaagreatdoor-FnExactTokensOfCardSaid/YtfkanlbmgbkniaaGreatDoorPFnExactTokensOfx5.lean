/- The machine side of a law, printed by a program. No conditions. -/
import Derived.Test.YtfkanlbmgbkniaaGreatDoorPFnExactTokensOfx0
import Derived.Test.YtfkanlbmgbkniaaGreatDoorPFnExactTokensOfx2
import Derived.Test.YtfkanlbmgbkniaaGreatDoorPFnExactTokensOfx4
namespace Go.Proofs.YtfkanlbmgbkniaaGreatDoor.PFnExactTokensOf
open Go.RowKit Go.Proofs.YtfkanlbmgbkniaaGreatDoorW.PrintWords Go.Proofs.YtfkanlbmgbkniaaGreatDoorW.PrintLast Go.Proofs.YtfkanlbmgbkniaaGreatDoorW.PrintMore
attribute [local go_sem] max2_int min2_int max_two min_two max_three min_three max_four min_four
set_option linter.unusedVariables false
set_option linter.unusedSimpArgs false
def spec_l01Tag.l0:Nat→ByteArray→Int→Option (Bool)
 | 0,_,_=>none
 | k+1,x0,x3=>if x3<(x0.size:Int) then (if 0≤x3 then (if (bt x0 x3)≥97 then (if ((bt x0 x3)≤122) then (spec_l01Tag.l0 k x0 (wrap64 (x3+1))) else (if x3=0 then (some false) else ((spec_l00Digit.f (bt x0 x3)).bind fun t141=>(if t141=true then (spec_l01Tag.l0 k x0 (wrap64 (x3+1))) else (if (bt x0 x3)=45 then (spec_l01Tag.l0 k x0 (wrap64 (x3+1))) else (some false)))))) else (if x3=0 then (some false) else ((spec_l00Digit.f (bt x0 x3)).bind fun t142=>(if t142=true then (spec_l01Tag.l0 k x0 (wrap64 (x3+1))) else (if (bt x0 x3)=45 then (spec_l01Tag.l0 k x0 (wrap64 (x3+1))) else (some false)))))) else (none)) else (some true)
def spec_l01Tag.f (k:Nat) (a0:ByteArray):Option (Bool):=(spec_l01In.f (a0.size:Int) 1 12).bind fun t140=>(if t140=true then (spec_l01Tag.l0 k a0 0) else (some false))
theorem spec_l01Tag.mono_l:∀ k,(∀ y0 y1,LeO (spec_l01Tag.l0 k y0 y1) (spec_l01Tag.l0 (k+1) y0 y1))
 | 0=>fun _ _ r h=>by simp [spec_l01Tag.l0] at h
 | k+1=>by
  have ih0:=spec_l01Tag.mono_l k
  ·intro y0 y1
   unfold spec_l01Tag.l0
   repeat' first|(with_reducible first|exact ih0 ..|exact LeO.refl _|exact LeO.none _|refine LeO.ite ?_ ?_|refine LeO.bind ?_ (fun _=>?_))|exact ih0 ..|exact LeO.none _|refine LeO.ite ?_ ?_|refine LeO.bind ?_ (fun _=>?_)
theorem spec_l01Tag.mono:∀ a0 k,LeO (spec_l01Tag.f k a0) (spec_l01Tag.f (k+1) a0):=by
 intro a0 k
 have ih0:=spec_l01Tag.mono_l k
 unfold spec_l01Tag.f
 repeat' first|(with_reducible first|exact ih0 ..|exact LeO.refl _|exact LeO.none _|refine LeO.ite ?_ ?_|refine LeO.bind ?_ (fun _=>?_))|exact ih0 ..|exact LeO.none _|refine LeO.ite ?_ ?_|refine LeO.bind ?_ (fun _=>?_)
set_option maxHeartbeats 8000000 in
set_option maxRecDepth 100000 in
theorem spec_l01Tag.calls (k:Nat) (a0:ByteArray) (r:Bool) (w:World) (h:spec_l01Tag.f k a0=some r) :
 Calls Tryz.prog 16 #[.string a0] w fun e w'=>e=.returned (.bool r)∧Drawn0 w w':=by
 have H:((spec_l01In.f (a0.size:Int) 1 12).bind fun t140=>(if t140=true then (spec_l01Tag.l0 k a0 0) else (some false)))=some r:=h
 clear h
 replace H:=ob_ H
 obtain ⟨t140,A20,H⟩:=H
 replace H:(if t140=true then (spec_l01Tag.l0 k a0 0) else (some false))=some r:=H
 have A2:=A_ A20
 clear A20
 by_cases c3:t140=true
 ·subst c3
  have H1:(spec_l01Tag.l0 k a0 0)=some r:=by rw [if_pos rfl] at H;exact H
  clear H
  have H:=H1
  clear H1
  have H':=A_ H
  clear H
  go_enter Tryz.func16,Tryz.ntmps16
  go_wp2_with (first|((with_reducible refine gate_callee (f:=15) rfl ?_);refine gl_ (some 7) rfl rfl Tryz.func15 (by kernel_rfl) rfl #[.int .i64 (a0.size:Int),.int .i64 1,.int .i64 12] rfl  ?_;(with_reducible refine (spec_l01In.calls (a0.size:Int) 1 12 true _ A2.out).mono ?_);rintro e w' ⟨rfl,⟨nd,rfl⟩⟩;refine ⟨_,rfl,?_⟩))
  go_loopg [3] k (fun kq v3 w'=>∃ (x3_1:Int),v3=.int .i64 x3_1∧Aside0 (spec_l01Tag.l0 kq a0 x3_1=some r)∧Aside0 (kq≤k)∧Drawn0 w w')
  case atStart=>exact ⟨(0),rs_,H',⟨Nat.le_refl _⟩,by repeat (first|exact dr_ _|apply dp_)⟩
  case round =>
   clear H'
   try clear c1
   try clear p2
   try clear c3
   obtain ⟨x3_1,rfl,HA,HK1,⟨m1,rfl⟩⟩:=hrel
   cases gk with
   | zero=>exact absurd HA.out (by simp [spec_l01Tag.l0])
   | succ k1 =>
    have H:=HA.out
    clear HA
    simp only [spec_l01Tag.l0] at H
    by_cases c4:x3_1<(a0.size:Int)
    ·rw [if_pos c4] at H
     have c4b0:decide (x3_1<(a0.size:Int))=true:=dt_ c4
     clear c4
     by_cases c5:0≤x3_1
     ·rw [if_pos c5] at H
      have c5b0:decide (0≤x3_1)=true:=dt_ c5
      clear c5
      by_cases c7:(bt a0 x3_1)≥97
      ·rw [if_pos c7] at H
       have c7b0:decide (97≤(bt a0 x3_1))=true:=dt_ c7
       clear c7
       by_cases c9:((bt a0 x3_1)≤122)
       ·rw [if_pos c9] at H
        have c9b0:decide ((bt a0 x3_1)≤122)=true:=dt_ c9
        clear c9
        have H':=A_ H
        clear H
        have p6:0≤(x3_1:Int):=oa_
        have q6:x3_1<(a0.size:Int):=oa_
        have hx6:=bt_at a0 x3_1
        replace p6:=eq_true p6
        replace q6:=eq_true q6
        have p8:0≤(x3_1:Int):=oa_
        have q8:x3_1<(a0.size:Int):=oa_
        have hx8:=bt_at a0 x3_1
        replace p8:=eq_true p8
        replace q8:=eq_true q8
        go_wp2
        go_roundg k1
        case measure=>have:=HK1.out;omega
        case rel=>exact ⟨(wrap64 (x3_1+1)),rs_,H',⟨by have:=HK1.out;omega⟩,by repeat (first|exact dr_ _|apply dp_)⟩
       ·rw [if_neg c9] at H
        have c9b0:decide ((bt a0 x3_1)≤122)=false:=df_ c9
        clear c9
        by_cases c10:x3_1=0
        ·rw [if_pos c10] at H
         have c10b0:(x3_1 == 0)=true:=beq_iff_eq.mpr c10
         have c10b1:(x3_1 != 0)=false:=bne_eq_false_iff_eq.mpr c10
         clear c10
         obtain rfl:=oi_ H
         have p6:0≤(x3_1:Int):=oa_
         have q6:x3_1<(a0.size:Int):=oa_
         have hx6:=bt_at a0 x3_1
         replace p6:=eq_true p6
         replace q6:=eq_true q6
         have p8:0≤(x3_1:Int):=oa_
         have q8:x3_1<(a0.size:Int):=oa_
         have hx8:=bt_at a0 x3_1
         replace p8:=eq_true p8
         replace q8:=eq_true q8
         go_wp2
         go_ret
         exact ⟨by first|rfl|(simp;done)|(simp [*];done),by repeat (first|exact dr_ _|apply dp_)⟩
        ·rw [if_neg c10] at H
         have c10b0:(x3_1 == 0)=false:=beq_eq_false_iff_ne.mpr c10
         have c10b1:(x3_1 != 0)=true:=bne_iff_ne.mpr c10
         replace H:=ob_ H
         obtain ⟨t141,A120,H⟩:=H
         replace H:(if t141=true then (spec_l01Tag.l0 k1 a0 (wrap64 (x3_1+1))) else (if (bt a0 x3_1)=45 then (spec_l01Tag.l0 k1 a0 (wrap64 (x3_1+1))) else (some false)))=some r:=H
         have A12:=A_ A120
         clear A120
         by_cases c13:t141=true
         ·subst c13
          have H1:(spec_l01Tag.l0 k1 a0 (wrap64 (x3_1+1)))=some r:=by rw [if_pos rfl] at H;exact H
          clear H
          have H:=H1
          clear H1
          have H':=A_ H
          clear H
          have p6:0≤(x3_1:Int):=oa_
          have q6:x3_1<(a0.size:Int):=oa_
          have hx6:=bt_at a0 x3_1
          replace p6:=eq_true p6
          replace q6:=eq_true q6
          have p8:0≤(x3_1:Int):=oa_
          have q8:x3_1<(a0.size:Int):=oa_
          have hx8:=bt_at a0 x3_1
          replace p8:=eq_true p8
          replace q8:=eq_true q8
          have p11:0≤(x3_1:Int):=oa_
          have q11:x3_1<(a0.size:Int):=oa_
          have hx11:=bt_at a0 x3_1
          replace p11:=eq_true p11
          replace q11:=eq_true q11
          go_wp2_with (first|(go_at_call 28;(with_reducible refine (spec_l00Digit.calls (bt a0 x3_1) true _ A12.out).mono ?_);rintro e w' ⟨rfl,⟨nd,rfl⟩⟩))
          go_roundg k1
          case measure=>have:=HK1.out;omega
          case rel=>exact ⟨(wrap64 (x3_1+1)),rs_,H',⟨by have:=HK1.out;omega⟩,by repeat (first|exact dr_ _|apply dp_)⟩
         ·replace c13:=bm_ c13
          subst c13
          have H1:(if (bt a0 x3_1)=45 then (spec_l01Tag.l0 k1 a0 (wrap64 (x3_1+1))) else (some false))=some r:=by rw [if_neg (show ¬ (false=true) by decide)] at H;exact H
          clear H
          have H:=H1
          clear H1
          by_cases c15:(bt a0 x3_1)=45
          ·rw [if_pos c15] at H
           have c15b0:((bt a0 x3_1) == 45)=true:=beq_iff_eq.mpr c15
           have c15b1:((bt a0 x3_1) != 45)=false:=bne_eq_false_iff_eq.mpr c15
           clear c15
           have H':=A_ H
           clear H
           have p6:0≤(x3_1:Int):=oa_
           have q6:x3_1<(a0.size:Int):=oa_
           have hx6:=bt_at a0 x3_1
           replace p6:=eq_true p6
           replace q6:=eq_true q6
           have p8:0≤(x3_1:Int):=oa_
           have q8:x3_1<(a0.size:Int):=oa_
           have hx8:=bt_at a0 x3_1
           replace p8:=eq_true p8
           replace q8:=eq_true q8
           have p11:0≤(x3_1:Int):=oa_
           have q11:x3_1<(a0.size:Int):=oa_
           have hx11:=bt_at a0 x3_1
           replace p11:=eq_true p11
           replace q11:=eq_true q11
           go_wp2_with (first|(go_at_call 28;(with_reducible refine (spec_l00Digit.calls (bt a0 x3_1) false _ A12.out).mono ?_);rintro e w' ⟨rfl,⟨nd,rfl⟩⟩;have p14:0≤(x3_1:Int):=oa_;have q14:x3_1<(a0.size:Int):=oa_;have hx14:=bt_at a0 x3_1;replace p14:=eq_true p14;replace q14:=eq_true q14))
           go_roundg k1
           case measure=>have:=HK1.out;omega
           case rel=>exact ⟨(wrap64 (x3_1+1)),rs_,H',⟨by have:=HK1.out;omega⟩,by repeat (first|exact dr_ _|apply dp_)⟩
          ·rw [if_neg c15] at H
           have c15b0:((bt a0 x3_1) == 45)=false:=beq_eq_false_iff_ne.mpr c15
           have c15b1:((bt a0 x3_1) != 45)=true:=bne_iff_ne.mpr c15
           obtain rfl:=oi_ H
           have p6:0≤(x3_1:Int):=oa_
           have q6:x3_1<(a0.size:Int):=oa_
           have hx6:=bt_at a0 x3_1
           replace p6:=eq_true p6
           replace q6:=eq_true q6
           have p8:0≤(x3_1:Int):=oa_
           have q8:x3_1<(a0.size:Int):=oa_
           have hx8:=bt_at a0 x3_1
           replace p8:=eq_true p8
           replace q8:=eq_true q8
           have p11:0≤(x3_1:Int):=oa_
           have q11:x3_1<(a0.size:Int):=oa_
           have hx11:=bt_at a0 x3_1
           replace p11:=eq_true p11
           replace q11:=eq_true q11
           go_wp2_with (first|(go_at_call 28;(with_reducible refine (spec_l00Digit.calls (bt a0 x3_1) false _ A12.out).mono ?_);rintro e w' ⟨rfl,⟨nd,rfl⟩⟩;have p14:0≤(x3_1:Int):=oa_;have q14:x3_1<(a0.size:Int):=oa_;have hx14:=bt_at a0 x3_1;replace p14:=eq_true p14;replace q14:=eq_true q14))
           go_ret
           exact ⟨by first|rfl|(simp;done)|(simp [*];done),by repeat (first|exact dr_ _|apply dp_)⟩
      ·rw [if_neg c7] at H
       have c7b0:decide (97≤(bt a0 x3_1))=false:=df_ c7
       clear c7
       by_cases c16:x3_1=0
       ·rw [if_pos c16] at H
        have c16b0:(x3_1 == 0)=true:=beq_iff_eq.mpr c16
        have c16b1:(x3_1 != 0)=false:=bne_eq_false_iff_eq.mpr c16
        clear c16
        obtain rfl:=oi_ H
        have p6:0≤(x3_1:Int):=oa_
        have q6:x3_1<(a0.size:Int):=oa_
        have hx6:=bt_at a0 x3_1
        replace p6:=eq_true p6
        replace q6:=eq_true q6
        go_wp2
        go_ret
        exact ⟨by first|rfl|(simp;done)|(simp [*];done),by repeat (first|exact dr_ _|apply dp_)⟩
       ·rw [if_neg c16] at H
        have c16b0:(x3_1 == 0)=false:=beq_eq_false_iff_ne.mpr c16
        have c16b1:(x3_1 != 0)=true:=bne_iff_ne.mpr c16
        replace H:=ob_ H
        obtain ⟨t142,A180,H⟩:=H
        replace H:(if t142=true then (spec_l01Tag.l0 k1 a0 (wrap64 (x3_1+1))) else (if (bt a0 x3_1)=45 then (spec_l01Tag.l0 k1 a0 (wrap64 (x3_1+1))) else (some false)))=some r:=H
        have A18:=A_ A180
        clear A180
        by_cases c19:t142=true
        ·subst c19
         have H1:(spec_l01Tag.l0 k1 a0 (wrap64 (x3_1+1)))=some r:=by rw [if_pos rfl] at H;exact H
         clear H
         have H:=H1
         clear H1
         have H':=A_ H
         clear H
         have p6:0≤(x3_1:Int):=oa_
         have q6:x3_1<(a0.size:Int):=oa_
         have hx6:=bt_at a0 x3_1
         replace p6:=eq_true p6
         replace q6:=eq_true q6
         have p17:0≤(x3_1:Int):=oa_
         have q17:x3_1<(a0.size:Int):=oa_
         have hx17:=bt_at a0 x3_1
         replace p17:=eq_true p17
         replace q17:=eq_true q17
         go_wp2_with (first|(go_at_call 28;(with_reducible refine (spec_l00Digit.calls (bt a0 x3_1) true _ A18.out).mono ?_);rintro e w' ⟨rfl,⟨nd,rfl⟩⟩))
         go_roundg k1
         case measure=>have:=HK1.out;omega
         case rel=>exact ⟨(wrap64 (x3_1+1)),rs_,H',⟨by have:=HK1.out;omega⟩,by repeat (first|exact dr_ _|apply dp_)⟩
        ·replace c19:=bm_ c19
         subst c19
         have H1:(if (bt a0 x3_1)=45 then (spec_l01Tag.l0 k1 a0 (wrap64 (x3_1+1))) else (some false))=some r:=by rw [if_neg (show ¬ (false=true) by decide)] at H;exact H
         clear H
         have H:=H1
         clear H1
         by_cases c21:(bt a0 x3_1)=45
         ·rw [if_pos c21] at H
          have c21b0:((bt a0 x3_1) == 45)=true:=beq_iff_eq.mpr c21
          have c21b1:((bt a0 x3_1) != 45)=false:=bne_eq_false_iff_eq.mpr c21
          clear c21
          have H':=A_ H
          clear H
          have p6:0≤(x3_1:Int):=oa_
          have q6:x3_1<(a0.size:Int):=oa_
          have hx6:=bt_at a0 x3_1
          replace p6:=eq_true p6
          replace q6:=eq_true q6
          have p17:0≤(x3_1:Int):=oa_
          have q17:x3_1<(a0.size:Int):=oa_
          have hx17:=bt_at a0 x3_1
          replace p17:=eq_true p17
          replace q17:=eq_true q17
          go_wp2_with (first|(go_at_call 28;(with_reducible refine (spec_l00Digit.calls (bt a0 x3_1) false _ A18.out).mono ?_);rintro e w' ⟨rfl,⟨nd,rfl⟩⟩;have p20:0≤(x3_1:Int):=oa_;have q20:x3_1<(a0.size:Int):=oa_;have hx20:=bt_at a0 x3_1;replace p20:=eq_true p20;replace q20:=eq_true q20))
          go_roundg k1
          case measure=>have:=HK1.out;omega
          case rel=>exact ⟨(wrap64 (x3_1+1)),rs_,H',⟨by have:=HK1.out;omega⟩,by repeat (first|exact dr_ _|apply dp_)⟩
         ·rw [if_neg c21] at H
          have c21b0:((bt a0 x3_1) == 45)=false:=beq_eq_false_iff_ne.mpr c21
          have c21b1:((bt a0 x3_1) != 45)=true:=bne_iff_ne.mpr c21
          obtain rfl:=oi_ H
          have p6:0≤(x3_1:Int):=oa_
          have q6:x3_1<(a0.size:Int):=oa_
          have hx6:=bt_at a0 x3_1
          replace p6:=eq_true p6
          replace q6:=eq_true q6
          have p17:0≤(x3_1:Int):=oa_
          have q17:x3_1<(a0.size:Int):=oa_
          have hx17:=bt_at a0 x3_1
          replace p17:=eq_true p17
          replace q17:=eq_true q17
          go_wp2_with (first|(go_at_call 28;(with_reducible refine (spec_l00Digit.calls (bt a0 x3_1) false _ A18.out).mono ?_);rintro e w' ⟨rfl,⟨nd,rfl⟩⟩;have p20:0≤(x3_1:Int):=oa_;have q20:x3_1<(a0.size:Int):=oa_;have hx20:=bt_at a0 x3_1;replace p20:=eq_true p20;replace q20:=eq_true q20))
          go_ret
          exact ⟨by first|rfl|(simp;done)|(simp [*];done),by repeat (first|exact dr_ _|apply dp_)⟩
     ·rw [if_neg c5] at H
      exact absurd H (by simp)
    ·rw [if_neg c4] at H
     have c4b0:decide (x3_1<(a0.size:Int))=false:=df_ c4
     clear c4
     obtain rfl:=oi_ H
     go_wp2
     go_ret
     exact ⟨by first|rfl|(simp;done)|(simp [*];done),by repeat (first|exact dr_ _|apply dp_)⟩
 ·replace c3:=bm_ c3
  subst c3
  have H1:(some false)=some r:=by rw [if_neg (show ¬ (false=true) by decide)] at H;exact H
  clear H
  have H:=H1
  clear H1
  obtain rfl:=oi_ H
  go_enter Tryz.func16,Tryz.ntmps16
  go_wp2_with (first|((with_reducible refine gate_callee (f:=15) rfl ?_);refine gl_ (some 7) rfl rfl Tryz.func15 (by kernel_rfl) rfl #[.int .i64 (a0.size:Int),.int .i64 1,.int .i64 12] rfl  ?_;(with_reducible refine (spec_l01In.calls (a0.size:Int) 1 12 false _ A2.out).mono ?_);rintro e w' ⟨rfl,⟨nd,rfl⟩⟩;refine ⟨_,rfl,?_⟩))
  go_ret
  exact ⟨by first|rfl|(simp;done)|(simp [*];done),by repeat (first|exact dr_ _|apply dp_)⟩
open Go.Proofs.YtfkanlbmgbkniaaGreatDoor.Kit (small digit big pos_eq neg_eq tagB isTag nameB isName lowC lowS lowS_bytes handler wantJ wantJ_eq keepC badL badFrom badFrom_zero badFrom_full badFrom_nil badFrom_skip badFrom_take indexByte_any markB namesAt namesOK)
theorem l00Digit_eq (c:Int):spec_l00Digit.f c=some (digit c):=by
 unfold spec_l00Digit.f digit
 by_cases h:c≥48
 ·rw [if_pos h];simp [h]
 ·rw [if_neg h];simp;omega
theorem l01In_eq (n a b:Int):spec_l01In.f n a b=some (decide (a≤n∧n≤b)):=by
 unfold spec_l01In.f
 by_cases h:n≥a
 ·rw [if_pos h];simp [h]
 ·rw [if_neg h];simp;omega
theorem ev_tag_spec (s:ByteArray) (hn:s.size≤9223372036854775807):Ev (fun k=>spec_l01Tag.f k s) (isTag s):=by
 have key:∀ i:Nat,i≤s.size→Ev (fun k=>spec_l01Tag.l0 k s i) (Kit.allB (tagB s) i s.size):=by
  refine Kit.down ?_ ?_
  ·refine Ev.step (fun k=>rfl) ?_
   refine Kit.ev_neg (by omega) ?_
   rw [Kit.allB_end]
   exact Ev.now _
  ·intro i hi ih
   refine Ev.step (fun k=>rfl) ?_
   refine Kit.ev_pos (by omega) (Kit.ev_pos (by omega) ?_)
   rw [Kit.allB_step _ hi,Kit.wrap_nat hi hn]
   have yes:tagB s i=true→Ev (fun k=>spec_l01Tag.l0 k s ((i+1:Nat):Int)) (tagB s i && Kit.allB (tagB s) (i+1) s.size):=fun h=>by rw [h,Bool.true_and];exact ih
   have no:tagB s i=false→Ev (fun _:Nat=>some false) (tagB s i && Kit.allB (tagB s) (i+1) s.size):=fun h=>by rw [h,Bool.false_and];exact Ev.now _
   have rest:small (bt s i)=false→Ev (fun k=>if (i:Int)=0 then some false else (spec_l00Digit.f (bt s i)).bind fun t=>if t=true then spec_l01Tag.l0 k s ((i+1:Nat):Int) else if bt s i=45 then spec_l01Tag.l0 k s ((i+1:Nat):Int) else some false) (tagB s i && Kit.allB (tagB s) (i+1) s.size):=by
    intro h
    refine Kit.ev_if (fun h0=>no ?_) (fun h0=>?_)
    ·simp [tagB,h];intro h1;omega
    refine Kit.ev_some (l00Digit_eq _) (Kit.ev_if (fun h1=>yes ?_) (fun h1=>Kit.ev_if (fun h2=>yes ?_) (fun h2=>no ?_)))
    ·simp [tagB,h1];omega
    ·simp [tagB,h2];omega
    ·simp [tagB,h,h1,h2]
   refine Kit.ev_if (fun h=>Kit.ev_if (fun h'=>yes ?_) (fun h'=>rest ?_)) (fun h=>rest ?_)
   ·simp [tagB,small];left;omega
   ·simp [small];omega
   ·simp [small];omega
 unfold spec_l01Tag.f isTag
 refine Kit.ev_some (l01In_eq _ _ _) (Kit.ev_if (fun h=>?_) (fun h=>?_))
 ·rw [h,Bool.and_true];exact key 0 (by omega)
 ·rw [Bool.eq_false_iff.2 h,Bool.and_false];exact Ev.now _
theorem spec_l01Tag.pure (s:ByteArray) (hs:s.size≤9223372036854775807) (W:World):Calls Tryz.prog 16 #[.string s] W fun e w'=>e=.returned (.bool (isTag s))∧Drawn0 W w':=by
 obtain ⟨K,hK⟩:=ev_tag_spec s hs
 exact spec_l01Tag.calls K s _ W (hK K (Nat.le_refl _))
end Go.Proofs.YtfkanlbmgbkniaaGreatDoor.PFnExactTokensOf
