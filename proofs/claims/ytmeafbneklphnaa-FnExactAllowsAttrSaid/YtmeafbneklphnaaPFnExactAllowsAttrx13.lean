/- By a program of this session, out of the kit's print and contracts made by hand: the machine side of a law; Lean checks it. No conditions. -/
import Derived.Test.YtmeafbneklphnaaPFnExactAllowsAttrx0
import Derived.Test.YtmeafbneklphnaaPFnExactAllowsAttrx7
import Derived.Test.YtmeafbneklphnaaPFnExactAllowsAttrx12
namespace Go.Proofs.Ytmeafbneklphnaa.PFnExactAllowsAttr
open Go.RowKit Go.Proofs.YtmeafbneklphnaaW.PrintWords Go.Proofs.YtmeafbneklphnaaW.PrintLast Go.Proofs.YtmeafbneklphnaaW.PrintMore
attribute [local go_sem] max2_int min2_int max_two min_two max_three min_three max_four min_four
set_option linter.unusedVariables false
set_option linter.unusedSimpArgs false
/-! ### impl_isSmall: function 88 -/
def impl_isSmall.f (a0:Int):Option (Bool):=if a0≥97 then (some (decide (a0≤122))) else (some false)
set_option maxHeartbeats 8000000 in
set_option maxRecDepth 100000 in
theorem impl_isSmall.calls (a0:Int) (r:Bool) (w:World) (h:impl_isSmall.f a0=some r) :
 Calls Try.prog 88 #[.int .u8 a0] w fun e w'=>e=.returned (.bool r)∧Drawn0 w w':=by
 have H:(if a0≥97 then (some (decide (a0≤122))) else (some false))=some r:=h
 clear h
 by_cases c2:a0≥97
 ·rw [if_pos c2] at H
  have c2b0:decide (97≤a0)=true:=dt_ c2
  clear c2
  obtain rfl:=oi_ H
  go_enter Try.func88,Try.ntmps88
  go_wp2
  go_ret
  exact ⟨by first|rfl|(simp;done)|(simp [*];done),by repeat (first|exact dr_ _|apply dp_)⟩
 ·rw [if_neg c2] at H
  have c2b0:decide (97≤a0)=false:=df_ c2
  clear c2
  obtain rfl:=oi_ H
  go_enter Try.func88,Try.ntmps88
  go_wp2
  go_ret
  exact ⟨by first|rfl|(simp;done)|(simp [*];done),by repeat (first|exact dr_ _|apply dp_)⟩
/-! ### impl_isDigit: function 89 -/
def impl_isDigit.f (a0:Int):Option (Bool):=if a0≥48 then (some (decide (a0≤57))) else (some false)
set_option maxHeartbeats 8000000 in
set_option maxRecDepth 100000 in
theorem impl_isDigit.calls (a0:Int) (r:Bool) (w:World) (h:impl_isDigit.f a0=some r) :
 Calls Try.prog 89 #[.int .u8 a0] w fun e w'=>e=.returned (.bool r)∧Drawn0 w w':=by
 have H:(if a0≥48 then (some (decide (a0≤57))) else (some false))=some r:=h
 clear h
 by_cases c2:a0≥48
 ·rw [if_pos c2] at H
  have c2b0:decide (48≤a0)=true:=dt_ c2
  clear c2
  obtain rfl:=oi_ H
  go_enter Try.func89,Try.ntmps89
  go_wp2
  go_ret
  exact ⟨by first|rfl|(simp;done)|(simp [*];done),by repeat (first|exact dr_ _|apply dp_)⟩
 ·rw [if_neg c2] at H
  have c2b0:decide (48≤a0)=false:=df_ c2
  clear c2
  obtain rfl:=oi_ H
  go_enter Try.func89,Try.ntmps89
  go_wp2
  go_ret
  exact ⟨by first|rfl|(simp;done)|(simp [*];done),by repeat (first|exact dr_ _|apply dp_)⟩
/-! ### impl_TagOK: function 64 -/
def impl_TagOK.l0:Nat→ByteArray→Int→Int→Option (Bool)
 | 0,_,_,_=>none
 | k+1,x0,x6,x7=>if x7<x6 then (if 0≤x7 then (if x7<(x0.size:Int) then ((impl_isSmall.f (bt x0 x7)).bind fun t208=>(if t208=true then (impl_TagOK.l0 k x0 x6 (wrap64 (x7+1))) else (if x7=0 then (some false) else ((impl_isDigit.f (bt x0 x7)).bind fun t209=>(if t209=true then (impl_TagOK.l0 k x0 x6 (wrap64 (x7+1))) else (if (bt x0 x7)=45 then (impl_TagOK.l0 k x0 x6 (wrap64 (x7+1))) else (some false))))))) else (none)) else (none)) else ((impl_within.f (x0.size:Int) 1 12).bind fun t207=>(some t207))
def impl_TagOK.f (k:Nat) (a0:ByteArray):Option (Bool):=impl_TagOK.l0 k a0 (a0.size:Int) 0
theorem impl_TagOK.mono_l:∀ k,(∀ y0 y1 y2,LeO (impl_TagOK.l0 k y0 y1 y2) (impl_TagOK.l0 (k+1) y0 y1 y2))
 | 0=>fun _ _ _ r h=>by simp [impl_TagOK.l0] at h
 | k+1=>by
  have ih0:=impl_TagOK.mono_l k
  ·intro y0 y1 y2
   unfold impl_TagOK.l0
   repeat' first
   | (with_reducible exact ih0 _ _ _)
   | (with_reducible exact LeO.refl _)
   | (with_reducible exact LeO.none _)
   | (with_reducible refine LeO.ite ?_ ?_)
   | (with_reducible refine LeO.bind ?_ (fun _=>?_))
   | exact ih0 _ _ _
   | exact LeO.none _
   | refine LeO.ite ?_ ?_
   | refine LeO.bind ?_ (fun _=>?_)
theorem impl_TagOK.mono:∀ a0 k,LeO (impl_TagOK.f k a0) (impl_TagOK.f (k+1) a0):=by
 intro a0 k
 have ih0:=impl_TagOK.mono_l k
 unfold impl_TagOK.f
 repeat' first
  | (with_reducible exact ih0 _ _ _)
  | (with_reducible exact LeO.refl _)
  | (with_reducible exact LeO.none _)
  | (with_reducible refine LeO.ite ?_ ?_)
  | (with_reducible refine LeO.bind ?_ (fun _=>?_))
  | exact ih0 _ _ _
  | exact LeO.none _
  | refine LeO.ite ?_ ?_
  | refine LeO.bind ?_ (fun _=>?_)
set_option maxHeartbeats 8000000 in
set_option maxRecDepth 100000 in
theorem impl_TagOK.calls (k:Nat) (a0:ByteArray) (r:Bool) (w:World) (h:impl_TagOK.f k a0=some r) :
 Calls Try.prog 64 #[.string a0] w fun e w'=>e=.returned (.bool r)∧Drawn0 w w':=by
 have H:(impl_TagOK.l0 k a0 (a0.size:Int) 0)=some r:=h
 clear h
 have H':=A_ H
 clear H
 go_enter Try.func64,Try.ntmps64
 go_wp2
 go_loopg [7] k (fun kq v7 w'=>∃ (x7_1:Int),v7=.int .i64 x7_1∧Aside0 (impl_TagOK.l0 kq a0 (a0.size:Int) x7_1=some r)∧Aside0 (kq≤k)∧Drawn0 w w')
 case atStart=>exact ⟨(0),(by first|rfl|(simp;done)|(simp [*];done)),H',⟨Nat.le_refl _⟩,by repeat (first|exact dr_ _|apply dp_)⟩
 case round =>
  clear H'
  obtain ⟨x7_1,rfl,HA,HK1,⟨m1,rfl⟩⟩:=hrel
  cases gk with
  | zero=>exact absurd HA.out (by simp [impl_TagOK.l0])
  | succ k1 =>
   have H:=HA.out
   clear HA
   simp only [impl_TagOK.l0] at H
   by_cases c2:x7_1<(a0.size:Int)
   ·rw [if_pos c2] at H
    have c2b0:decide (x7_1<(a0.size:Int))=true:=dt_ c2
    clear c2
    by_cases c3:0≤x7_1
    ·rw [if_pos c3] at H
     have c3b0:decide (0≤x7_1)=true:=dt_ c3
     clear c3
     by_cases c4:x7_1<(a0.size:Int)
     ·rw [if_pos c4] at H
      have c4b0:decide (x7_1<(a0.size:Int))=true:=dt_ c4
      clear c4
      replace H:=ob_ H
      obtain ⟨t208,A60,H⟩:=H
      replace H:(if t208=true then (impl_TagOK.l0 k1 a0 (a0.size:Int) (wrap64 (x7_1+1))) else (if x7_1=0 then (some false) else ((impl_isDigit.f (bt a0 x7_1)).bind fun t209=>(if t209=true then (impl_TagOK.l0 k1 a0 (a0.size:Int) (wrap64 (x7_1+1))) else (if (bt a0 x7_1)=45 then (impl_TagOK.l0 k1 a0 (a0.size:Int) (wrap64 (x7_1+1))) else (some false))))))=some r:=H
      have A6:=A_ A60
      clear A60
      by_cases c7:t208=true
      ·subst c7
       have H1:(impl_TagOK.l0 k1 a0 (a0.size:Int) (wrap64 (x7_1+1)))=some r:=by rw [if_pos rfl] at H;exact H
       clear H
       have H:=H1
       clear H1
       have H':=A_ H
       clear H
       have p5:0≤(x7_1:Int):=od_ (by first|(with_reducible assumption)|assumption)
       have q5:x7_1<(a0.size:Int):=od_ (by first|(with_reducible assumption)|assumption)
       have hx5:=bt_at a0 x7_1
       replace p5:=eq_true p5
       replace q5:=eq_true q5
       go_wp2_with (first|((with_reducible refine gate_callee (f:=88) rfl ?_);refine goesL_ (some 14) rfl rfl Try.func88 (by kernel_rfl) rfl #[.int .u8 (bt a0 x7_1)] rfl (by (try simp only [List.map_toArray,List.map_cons,List.map_nil]);first|done|rfl|(simp only [ld_,lt_];rfl)) ?_;(with_reducible refine (impl_isSmall.calls (bt a0 x7_1) true _ A6.out).mono ?_);rintro e w' ⟨rfl,⟨nd,rfl⟩⟩;refine ⟨_,rfl,?_⟩))
       go_roundg k1
       case measure=>have:=HK1.out;omega
       case rel=>exact ⟨(wrap64 (x7_1+1)),(by first|rfl|(simp;done)|(simp [*];done)),H',⟨by have:=HK1.out;omega⟩,by repeat (first|exact dr_ _|apply dp_)⟩
      ·replace c7:=bm_ c7
       subst c7
       have H1:(if x7_1=0 then (some false) else ((impl_isDigit.f (bt a0 x7_1)).bind fun t209=>(if t209=true then (impl_TagOK.l0 k1 a0 (a0.size:Int) (wrap64 (x7_1+1))) else (if (bt a0 x7_1)=45 then (impl_TagOK.l0 k1 a0 (a0.size:Int) (wrap64 (x7_1+1))) else (some false)))))=some r:=by rw [if_neg (show ¬ (false=true) by decide)] at H;exact H
       clear H
       have H:=H1
       clear H1
       by_cases c8:x7_1=0
       ·rw [if_pos c8] at H
        have c8b0:(x7_1 == 0)=true:=beq_iff_eq.mpr c8
        have c8b1:(x7_1 != 0)=false:=bne_eq_false_iff_eq.mpr c8
        clear c8
        obtain rfl:=oi_ H
        have p5:0≤(x7_1:Int):=od_ (by first|(with_reducible assumption)|assumption)
        have q5:x7_1<(a0.size:Int):=od_ (by first|(with_reducible assumption)|assumption)
        have hx5:=bt_at a0 x7_1
        replace p5:=eq_true p5
        replace q5:=eq_true q5
        go_wp2_with (first|((with_reducible refine gate_callee (f:=88) rfl ?_);refine goesL_ (some 14) rfl rfl Try.func88 (by kernel_rfl) rfl #[.int .u8 (bt a0 x7_1)] rfl (by (try simp only [List.map_toArray,List.map_cons,List.map_nil]);first|done|rfl|(simp only [ld_,lt_];rfl)) ?_;(with_reducible refine (impl_isSmall.calls (bt a0 x7_1) false _ A6.out).mono ?_);rintro e w' ⟨rfl,⟨nd,rfl⟩⟩;refine ⟨_,rfl,?_⟩))
        go_ret
        exact ⟨by first|rfl|(simp;done)|(simp [*];done),by repeat (first|exact dr_ _|apply dp_)⟩
       ·rw [if_neg c8] at H
        have c8b0:(x7_1 == 0)=false:=beq_eq_false_iff_ne.mpr c8
        have c8b1:(x7_1 != 0)=true:=bne_iff_ne.mpr c8
        replace H:=ob_ H
        obtain ⟨t209,A90,H⟩:=H
        replace H:(if t209=true then (impl_TagOK.l0 k1 a0 (a0.size:Int) (wrap64 (x7_1+1))) else (if (bt a0 x7_1)=45 then (impl_TagOK.l0 k1 a0 (a0.size:Int) (wrap64 (x7_1+1))) else (some false)))=some r:=H
        have A9:=A_ A90
        clear A90
        by_cases c10:t209=true
        ·subst c10
         have H1:(impl_TagOK.l0 k1 a0 (a0.size:Int) (wrap64 (x7_1+1)))=some r:=by rw [if_pos rfl] at H;exact H
         clear H
         have H:=H1
         clear H1
         have H':=A_ H
         clear H
         have p5:0≤(x7_1:Int):=od_ (by first|(with_reducible assumption)|assumption)
         have q5:x7_1<(a0.size:Int):=od_ (by first|(with_reducible assumption)|assumption)
         have hx5:=bt_at a0 x7_1
         replace p5:=eq_true p5
         replace q5:=eq_true q5
         go_wp2_with (first|((with_reducible refine gate_callee (f:=88) rfl ?_);refine goesL_ (some 14) rfl rfl Try.func88 (by kernel_rfl) rfl #[.int .u8 (bt a0 x7_1)] rfl (by (try simp only [List.map_toArray,List.map_cons,List.map_nil]);first|done|rfl|(simp only [ld_,lt_];rfl)) ?_;(with_reducible refine (impl_isSmall.calls (bt a0 x7_1) false _ A6.out).mono ?_);rintro e w' ⟨rfl,⟨nd,rfl⟩⟩;refine ⟨_,rfl,?_⟩)|(go_at_call 89;(with_reducible refine (impl_isDigit.calls (bt a0 x7_1) true _ A9.out).mono ?_);rintro e w' ⟨rfl,⟨nd,rfl⟩⟩))
         go_roundg k1
         case measure=>have:=HK1.out;omega
         case rel=>exact ⟨(wrap64 (x7_1+1)),(by first|rfl|(simp;done)|(simp [*];done)),H',⟨by have:=HK1.out;omega⟩,by repeat (first|exact dr_ _|apply dp_)⟩
        ·replace c10:=bm_ c10
         subst c10
         have H1:(if (bt a0 x7_1)=45 then (impl_TagOK.l0 k1 a0 (a0.size:Int) (wrap64 (x7_1+1))) else (some false))=some r:=by rw [if_neg (show ¬ (false=true) by decide)] at H;exact H
         clear H
         have H:=H1
         clear H1
         by_cases c11:(bt a0 x7_1)=45
         ·rw [if_pos c11] at H
          have c11b0:((bt a0 x7_1) == 45)=true:=beq_iff_eq.mpr c11
          have c11b1:((bt a0 x7_1) != 45)=false:=bne_eq_false_iff_eq.mpr c11
          clear c11
          have H':=A_ H
          clear H
          have p5:0≤(x7_1:Int):=od_ (by first|(with_reducible assumption)|assumption)
          have q5:x7_1<(a0.size:Int):=od_ (by first|(with_reducible assumption)|assumption)
          have hx5:=bt_at a0 x7_1
          replace p5:=eq_true p5
          replace q5:=eq_true q5
          go_wp2_with (first|((with_reducible refine gate_callee (f:=88) rfl ?_);refine goesL_ (some 14) rfl rfl Try.func88 (by kernel_rfl) rfl #[.int .u8 (bt a0 x7_1)] rfl (by (try simp only [List.map_toArray,List.map_cons,List.map_nil]);first|done|rfl|(simp only [ld_,lt_];rfl)) ?_;(with_reducible refine (impl_isSmall.calls (bt a0 x7_1) false _ A6.out).mono ?_);rintro e w' ⟨rfl,⟨nd,rfl⟩⟩;refine ⟨_,rfl,?_⟩)|(go_at_call 89;(with_reducible refine (impl_isDigit.calls (bt a0 x7_1) false _ A9.out).mono ?_);rintro e w' ⟨rfl,⟨nd,rfl⟩⟩))
          go_roundg k1
          case measure=>have:=HK1.out;omega
          case rel=>exact ⟨(wrap64 (x7_1+1)),(by first|rfl|(simp;done)|(simp [*];done)),H',⟨by have:=HK1.out;omega⟩,by repeat (first|exact dr_ _|apply dp_)⟩
         ·rw [if_neg c11] at H
          have c11b0:((bt a0 x7_1) == 45)=false:=beq_eq_false_iff_ne.mpr c11
          have c11b1:((bt a0 x7_1) != 45)=true:=bne_iff_ne.mpr c11
          obtain rfl:=oi_ H
          have p5:0≤(x7_1:Int):=od_ (by first|(with_reducible assumption)|assumption)
          have q5:x7_1<(a0.size:Int):=od_ (by first|(with_reducible assumption)|assumption)
          have hx5:=bt_at a0 x7_1
          replace p5:=eq_true p5
          replace q5:=eq_true q5
          go_wp2_with (first|((with_reducible refine gate_callee (f:=88) rfl ?_);refine goesL_ (some 14) rfl rfl Try.func88 (by kernel_rfl) rfl #[.int .u8 (bt a0 x7_1)] rfl (by (try simp only [List.map_toArray,List.map_cons,List.map_nil]);first|done|rfl|(simp only [ld_,lt_];rfl)) ?_;(with_reducible refine (impl_isSmall.calls (bt a0 x7_1) false _ A6.out).mono ?_);rintro e w' ⟨rfl,⟨nd,rfl⟩⟩;refine ⟨_,rfl,?_⟩)|(go_at_call 89;(with_reducible refine (impl_isDigit.calls (bt a0 x7_1) false _ A9.out).mono ?_);rintro e w' ⟨rfl,⟨nd,rfl⟩⟩))
          go_ret
          exact ⟨by first|rfl|(simp;done)|(simp [*];done),by repeat (first|exact dr_ _|apply dp_)⟩
     ·rw [if_neg c4] at H
      exact absurd H (by simp)
    ·rw [if_neg c3] at H
     exact absurd H (by simp)
   ·rw [if_neg c2] at H
    have c2b0:decide (x7_1<(a0.size:Int))=false:=df_ c2
    clear c2
    replace H:=ob_ H
    obtain ⟨t207,A120,H⟩:=H
    replace H:(some t207)=some r:=H
    have A12:=A_ A120
    clear A120
    obtain rfl:=oi_ H
    go_wp2_with (first|((with_reducible refine gate_callee (f:=65) rfl ?_);refine goesL_ (some 32) rfl rfl Try.func65 (by kernel_rfl) rfl #[.int .i64 (a0.size:Int),.int .i64 1,.int .i64 12] rfl (by (try simp only [List.map_toArray,List.map_cons,List.map_nil]);first|done|rfl|(simp only [ld_,lt_];rfl)) ?_;(with_reducible refine (impl_within.calls (a0.size:Int) 1 12 t207 _ A12.out).mono ?_);rintro e w' ⟨rfl,⟨nd,rfl⟩⟩;refine ⟨_,rfl,?_⟩))
    go_ret
    exact ⟨by first|rfl|(simp;done)|(simp [*];done),by repeat (first|exact dr_ _|apply dp_)⟩
open Go.Proofs.Ytmeafbneklphnaa.Kit (small digit big pos_eq neg_eq tagB isTag nameB isName lowC lowS lowS_bytes handler wantJ wantJ_eq keepC badL badFrom badFrom_zero badFrom_full badFrom_nil badFrom_skip badFrom_take indexByte_any markB namesAt namesOK)
theorem isSmall_eq (c:Int):impl_isSmall.f c=some (small c):=by
 unfold impl_isSmall.f small
 by_cases h:c≥97
 ·rw [if_pos h];simp [h]
 ·rw [if_neg h];simp;omega
theorem isDigit_eq (c:Int):impl_isDigit.f c=some (digit c):=by
 unfold impl_isDigit.f digit
 by_cases h:c≥48
 ·rw [if_pos h];simp [h]
 ·rw [if_neg h];simp;omega
theorem within_eq (n a b:Int):impl_within.f n a b=some (decide (a≤n∧n≤b)):=by
 unfold impl_within.f
 by_cases h:n≥a
 ·rw [if_pos h];simp [h]
 ·rw [if_neg h];simp;omega
theorem ev_tag_impl (s:ByteArray) (hn:s.size≤9223372036854775807):Ev (fun k=>impl_TagOK.f k s) (isTag s):=by
 have key:∀ i:Nat,i≤s.size→Ev (fun k=>impl_TagOK.l0 k s s.size i) (Kit.allB (tagB s) i s.size && decide ((1:Int)≤(s.size:Int)∧(s.size:Int)≤12)):=by
  refine Kit.down ?_ ?_
  ·refine Ev.step (fun k=>rfl) ?_
   refine Kit.ev_neg (by omega) ?_
   refine Kit.ev_some (within_eq _ _ _) ?_
   rw [Kit.allB_end,Bool.true_and]
   exact Ev.now _
  ·intro i hi ih
   refine Ev.step (fun k=>rfl) ?_
   refine Kit.ev_pos (by omega) (Kit.ev_pos (by omega) (Kit.ev_pos (by omega) ?_))
   rw [Kit.allB_step _ hi,Kit.wrap_nat hi hn]
   have yes:tagB s i=true→Ev (fun k=>impl_TagOK.l0 k s s.size ((i+1:Nat):Int)) (tagB s i && Kit.allB (tagB s) (i+1) s.size && decide ((1:Int)≤(s.size:Int)∧(s.size:Int)≤12)):=fun h=>by rw [h,Bool.true_and];exact ih
   have no:tagB s i=false→Ev (fun _:Nat=>some false) (tagB s i && Kit.allB (tagB s) (i+1) s.size && decide ((1:Int)≤(s.size:Int)∧(s.size:Int)≤12)):=fun h=>by rw [h,Bool.false_and,Bool.false_and];exact Ev.now _
   refine Kit.ev_some (isSmall_eq _) (Kit.ev_if (fun h=>yes (by simp [tagB,h])) (fun h=>?_))
   refine Kit.ev_if (fun h0=>no ?_) (fun h0=>?_)
   ·simp [tagB,h];intro h1;omega
   refine Kit.ev_some (isDigit_eq _) (Kit.ev_if (fun h1=>yes ?_) (fun h1=>Kit.ev_if (fun h2=>yes ?_) (fun h2=>no ?_)))
   ·simp [tagB,h1];omega
   ·simp [tagB,h2];omega
   ·simp [tagB,h,h1,h2]
 exact key 0 (by omega)
theorem impl_TagOK.pure (s:ByteArray) (hs:s.size≤9223372036854775807) (W:World):Calls Try.prog 64 #[.string s] W fun e w'=>e=.returned (.bool (isTag s))∧Drawn0 W w':=by
 obtain ⟨K,hK⟩:=ev_tag_impl s hs
 exact impl_TagOK.calls K s _ W (hK K (Nat.le_refl _))
/-! ### impl_areNames: function 96, by hand -/
open Go.Proofs.Ytmeafbneklphnaa.Kit (small digit big pos_eq neg_eq tagB isTag nameB isName lowC lowS lowS_bytes handler wantJ wantJ_eq keepC badL badFrom badFrom_zero badFrom_full badFrom_nil badFrom_skip badFrom_take indexByte_any markB namesAt namesOK)
def impl_areNames.f (l0:List ByteArray):Option Bool:=if ∀ x∈l0,x.size≤9223372036854775807 then some (namesOK l0) else none
theorem impl_areNames.calls (A0:Option Addr) (c0:Nat) (l0:List ByteArray) (r:Bool) (w:World) (hr0:Kd.C Kd.string w A0 l0.length l0) (hc0:l0.length≤c0) (h:impl_areNames.f l0=some r) :
 Calls Try.prog 96 #[.slice A0 l0.length c0] w fun e w'=>e=.returned (.bool r)∧Drawn0 w w':=by
 unfold impl_areNames.f at h
 obtain ⟨hsz,h⟩:=Option.ite_none_right_eq_some.mp h
 obtain rfl:=oi_ h
 have HS:=A_ hsz
 have hn:l0.length≤9223372036854775807:=hr0.2.1
 have HR:=A_ hr0
 have HC:=A_ hc0
 clear hr0 hc0 hsz
 go_enter Try.func96,Try.ntmps96
 go_wp2
 go_loopg [7] l0.length (fun gg s7 wr=>∃ kk:Nat,kk≤l0.length∧l0.length - kk≤gg∧s7=.int .i64 kk∧Aside0 (∀ j,j<kk→namesAt l0 j=true)∧Drawn0 w wr)
 case atStart=>exact ⟨0,Nat.zero_le _,by omega,rfl,⟨fun j hj=>absurd hj (Nat.not_lt_zero _)⟩,dr_ _⟩
 case round =>
  obtain ⟨kk,hkk,hg,rfl,AA,⟨m1,rfl⟩⟩:=hrel
  by_cases hlt:kk<l0.length
  ·have hltz:(kk:Int)<(l0.length:Int):=by omega
   obtain ⟨ad,e,l1⟩:=Kd.at_string HR.out (kk:Int) (by omega) hltz
   cases e
   rw [Kit.rdOf_nat,Int.toNat_natCast] at l1
   have hs:=HS.out (l0.getD kk ByteArray.empty) (by rw [List.getD_eq_getElem?_getD,List.getElem?_eq_getElem hlt];exact List.getElem_mem hlt)
   obtain ⟨K,hK⟩:=ev_tag_impl _ hs
   have hK:=hK K (Nat.le_refl _)
   have hat:namesAt l0 kk=(isTag (l0.getD kk ByteArray.empty) && !Kit.hasT (l0.take kk) (l0.getD kk ByteArray.empty)):=rfl
   obtain ⟨i0,hi,_,hz1,_⟩:=info_parts info9
   obtain ⟨hcut,hA,hC⟩:=print_take_of (P:=Try.prog) Value.string (⟨#[]⟩:ByteArray) 23 9 .i64 Try.underlying23 hi hz1 (some ad) c0 l0 (kk:Int) (by omega) (by omega) HC.out
   have HR1:=A_ (Kd.C_of_reads (h1:=fun _=>rfl) (hA _ (Kd.reads_of_C HR.out)))
   have HC1:=A_ hC
   have q1:=fun W=>(impl_TagOK.calls K (l0.getD kk ByteArray.empty) _ W hK)
   obtain ⟨K2,hK2⟩:=ev_slices_Contains (l0.take kk) (l0.getD kk ByteArray.empty) (by rw [lt_];omega)
   have hK2:=hK2 K2 (Nat.le_refl _)
   rw [Int.toNat_natCast] at hcut HR1 HC1
   have q2:=fun m=>(slices_Contains_string_string.calls K2 (some ad) c0 (l0.take kk) (l0.getD kk ByteArray.empty) _ (w.drewN m) (cn_ HR1.out m) HC1.out hK2)
   clear hK hK2 hC hA
   generalize l0.getD kk ByteArray.empty=y at *
   generalize l0.take kk=T at *
   cases ht:isTag y with
   | false =>
    rw [ht] at q1 hat
    rw [Bool.false_and] at hat
    clear ht q2
    have hall:namesOK l0=false:=by
     unfold namesOK
     rw [Bool.and_eq_false_iff]
     refine .inr (Bool.eq_false_iff.2 fun h=>?_)
     have:=(Kit.allB_iff _ _ _).1 h kk (Nat.zero_le _) hlt
     rw [hat] at this
     cases this
    have HALL:=A_ hall
    clear hall hat
    go_wp2_with (go_at_call 64;(with_reducible refine (q1 _).mono ?_);rintro e w' ⟨rfl,⟨nd,rfl⟩⟩)
    go_ret
    exact ⟨by rw [HALL.out];rfl,(by first|exact ⟨⟨_,rfl⟩⟩|exact (dr_ _).step _|exact ((dr_ _).step _).step _)⟩
   | true =>
    rw [ht] at q1 hat
    rw [Bool.true_and] at hat
    clear ht
    cases hh:Kit.hasT T y with
    | true =>
     rw [hh] at q2 hat
     have hall:namesOK l0=false:=by
      unfold namesOK
      rw [Bool.and_eq_false_iff]
      refine .inr (Bool.eq_false_iff.2 fun h=>?_)
      have:=(Kit.allB_iff _ _ _).1 h kk (Nat.zero_le _) hlt
      rw [hat] at this
      cases this
     have HALL:=A_ hall
     clear hall hat hh
     go_wp2_with (first|(go_at_call 64;(with_reducible refine (q1 _).mono ?_);rintro e w' ⟨rfl,⟨nd,rfl⟩⟩)|(go_at_call 67;(first|(with_reducible refine (q2 _).mono ?_)|(rw [ww_];with_reducible refine (q2 _).mono ?_));rintro e w' ⟨rfl,⟨nd2,rfl⟩⟩))
     go_ret
     exact ⟨by rw [HALL.out];rfl,(by first|exact ⟨⟨_,rfl⟩⟩|exact (dr_ _).step _|exact ((dr_ _).step _).step _|exact (((dr_ _).step _).step _).step _)⟩
    | false =>
     rw [hh] at q2 hat
     have HAT:=A_ hat
     clear hat hh
     go_wp2_with (first|(go_at_call 64;(with_reducible refine (q1 _).mono ?_);rintro e w' ⟨rfl,⟨nd,rfl⟩⟩)|(go_at_call 67;(first|(with_reducible refine (q2 _).mono ?_)|(rw [ww_];with_reducible refine (q2 _).mono ?_));rintro e w' ⟨rfl,⟨nd2,rfl⟩⟩))
     go_roundg (l0.length - (kk+1))
     case measure=>omega
     case rel =>
      refine ⟨kk+1,by omega,by omega,by go_num,⟨fun j hj=>?_⟩,(by first|exact ⟨⟨_,rfl⟩⟩|exact (dr_ _).step _|exact ((dr_ _).step _).step _|exact (((dr_ _).step _).step _).step _)⟩
      by_cases e:j=kk
      ·subst e;exact HAT.out
      ·exact AA.out j (by omega)
  ·have hltz:¬ (kk:Int)<(l0.length:Int):=by omega
   have hke:kk=l0.length:=by omega
   have hall:namesOK l0=decide ((l0.length:Int)≤10):=by
    unfold namesOK
    rw [(Kit.allB_iff _ _ _).2 fun j _ hj=>AA.out j (by omega),Bool.and_true,decide_eq_decide]
    omega
   have HALL:=A_ hall
   clear hall hke
   go_wp2
   go_ret
   exact ⟨by rw [HALL.out];rfl,(by first|exact ⟨⟨_,rfl⟩⟩|exact (dr_ _).step _)⟩
/-! ### impl_RuleOK: function 106 -/
def impl_RuleOK.f (k:Nat) (a0_0:Int) (a0_1:ByteArray) (l0_2:List ByteArray):Option (Bool):=(impl_within.f a0_0 0 2).bind fun t211=>(if t211=true then ((impl_TagOK.f k a0_1).bind fun t212=>(if t212=true then ((impl_areNames.f l0_2).bind fun t213=>(some t213)) else (some false))) else (some false))
theorem impl_RuleOK.mono:∀ a0 a1 a2 k,LeO (impl_RuleOK.f k a0 a1 a2) (impl_RuleOK.f (k+1) a0 a1 a2):=by
 intro a0 a1 a2 k
 unfold impl_RuleOK.f
 repeat' first
  | (with_reducible exact impl_TagOK.mono _ _)
  | (with_reducible exact LeO.refl _)
  | (with_reducible exact LeO.none _)
  | (with_reducible refine LeO.ite ?_ ?_)
  | (with_reducible refine LeO.bind ?_ (fun _=>?_))
  | exact impl_TagOK.mono _ _
  | exact LeO.none _
  | refine LeO.ite ?_ ?_
  | refine LeO.bind ?_ (fun _=>?_)
set_option maxHeartbeats 8000000 in
set_option maxRecDepth 100000 in
theorem impl_RuleOK.calls (k:Nat) (a0_0:Int) (a0_1:ByteArray) (A0_2:Option Addr) (c0_2:Nat) (l0_2:List ByteArray) (r:Bool) (w:World) (hr0_2:Kd.C Kd.string w A0_2 l0_2.length l0_2) (hc0_2:l0_2.length≤c0_2) (h:impl_RuleOK.f k a0_0 a0_1 l0_2=some r) :
 Calls Try.prog 106 #[.agg #[.int .i64 a0_0,.string a0_1,.slice A0_2 l0_2.length c0_2]] w fun e w'=>e=.returned (.bool r)∧Below w.heap.size w w':=by
 have hu56:=Try.underlying56
 have HR0_2:=A_ hr0_2
 have HC0_2:=A_ hc0_2
 clear hr0_2 hc0_2
 have HB:=A_ (Below.refl w.heap.size w)
 have H:((impl_within.f a0_0 0 2).bind fun t211=>(if t211=true then ((impl_TagOK.f k a0_1).bind fun t212=>(if t212=true then ((impl_areNames.f l0_2).bind fun t213=>(some t213)) else (some false))) else (some false)))=some r:=h
 clear h
 replace H:=ob_ H
 obtain ⟨t211,A20,H⟩:=H
 replace H:(if t211=true then ((impl_TagOK.f k a0_1).bind fun t212=>(if t212=true then ((impl_areNames.f l0_2).bind fun t213=>(some t213)) else (some false))) else (some false))=some r:=H
 have A2:=A_ A20
 clear A20
 by_cases c3:t211=true
 ·subst c3
  have H1:((impl_TagOK.f k a0_1).bind fun t212=>(if t212=true then ((impl_areNames.f l0_2).bind fun t213=>(some t213)) else (some false)))=some r:=by rw [if_pos rfl] at H;exact H
  clear H
  have H:=H1
  clear H1
  replace H:=ob_ H
  obtain ⟨t212,A40,H⟩:=H
  replace H:(if t212=true then ((impl_areNames.f l0_2).bind fun t213=>(some t213)) else (some false))=some r:=H
  have A4:=A_ A40
  clear A40
  by_cases c5:t212=true
  ·subst c5
   have H1:((impl_areNames.f l0_2).bind fun t213=>(some t213))=some r:=by rw [if_pos rfl] at H;exact H
   clear H
   have H:=H1
   clear H1
   replace H:=ob_ H
   obtain ⟨t213,A60,H⟩:=H
   replace H:(some t213)=some r:=H
   have A6:=A_ A60
   clear A60
   obtain rfl:=oi_ H
   go_enter Try.func106,Try.ntmps106
   go_wp2_with (first|((with_reducible refine gate_dst (N:=1) rfl ?_);refine box_event ?hg (N:=1) ?hd (cs:=#[.int .i64 a0_0,.string a0_1,.slice A0_2 l0_2.length c0_2]) (t:=56) ?hr ?_;(case hd=>rfl);(case hg=>rfl);(case hr=>first|(go_simp;done)|(go_simp;rfl));intro gb210 hg w7 hbox hb;have n0_:=A_ (bp_ (by repeat (first|(with_reducible first|exact HB.out|apply ba_|apply pd_|apply b1_)|exact HB.out)) hb);have n1_:=A_ (hbox);have n2_:=A_ ((by rw [hg];exact (bz_ (by repeat (first|(with_reducible first|exact HB.out|apply ba_|apply pd_|apply b1_)|exact HB.out))):w.heap.size≤gb210));have n3_:=A_ ((by rw [hg];exact (bz_ (by repeat (first|(with_reducible first|exact HB.out|apply ba_|apply pd_|apply b1_)|exact HB.out))):w.heap.size≤gb210));clear HB;have HB:=n0_;have BK210:=n1_;have GW210:=n2_;have GE210:=n3_;clear n0_ n1_ n2_ n3_;clear hb hbox hg;have hcz8_0:w7.cell? ⟨gb210,0,none⟩=some (.int .i64 a0_0):=(bc_ BK210.out 0).trans rfl;have hcz8_1:w7.cell? ⟨gb210,1,none⟩=some (.string a0_1):=(bc_ BK210.out 1).trans rfl;have hcz8_2:w7.cell? ⟨gb210,2,none⟩=some (.slice A0_2 l0_2.length c0_2):=(bc_ BK210.out 2).trans rfl;have hfz8_0:=bf_ BK210.out 0;have hfz8_1:=bf_ BK210.out 1;have hfz8_2:=bf_ BK210.out 2)|((with_reducible refine gate_callee (f:=65) rfl ?_);refine goesL_ (some 5) rfl rfl Try.func65 (by kernel_rfl) rfl #[.int .i64 a0_0,.int .i64 0,.int .i64 2] rfl (by (try simp only [List.map_toArray,List.map_cons,List.map_nil]);first|done|rfl|(simp only [ld_,lt_];rfl)) ?_;(with_reducible refine (impl_within.calls a0_0 0 2 true _ A2.out).mono ?_);rintro e w' ⟨rfl,⟨nd,rfl⟩⟩;refine ⟨_,rfl,?_⟩)|(go_at_call 64;(with_reducible refine (impl_TagOK.calls k a0_1 true _ A4.out).mono ?_);rintro e w' ⟨rfl,⟨nd,rfl⟩⟩)|(go_at_call 96;(with_reducible refine (impl_areNames.calls _ _ l0_2 t213 _ ?side1 ?side2 A6.out).mono ?_);(case side1=>repeat (first|exact (cb_ HR0_2.out (by repeat (first|(with_reducible first|exact HB.out|apply ba_|apply pd_|apply b1_|refine bs_ ?_ GE210.out)|exact HB.out)))|(with_reducible refine ca_ ?_ _)|(with_reducible refine cn_ ?_ _)|(with_reducible refine cd_ ?_)));(case side2=>exact HC0_2.out);rintro e w' ⟨rfl,⟨nd,rfl⟩⟩))
   go_ret
   exact ⟨by first|rfl|(simp [errW_none,errW_some] <;> rfl)|(simp [*,errW_none,errW_some] <;> rfl),by repeat (first|(with_reducible first|exact HB.out|apply ba_|apply pd_|apply b1_|refine bs_ ?_ GE210.out)|exact HB.out)⟩
  ·replace c5:=bm_ c5
   subst c5
   have H1:(some false)=some r:=by rw [if_neg (show ¬ (false=true) by decide)] at H;exact H
   clear H
   have H:=H1
   clear H1
   obtain rfl:=oi_ H
   go_enter Try.func106,Try.ntmps106
   go_wp2_with (first|((with_reducible refine gate_dst (N:=1) rfl ?_);refine box_event ?hg (N:=1) ?hd (cs:=#[.int .i64 a0_0,.string a0_1,.slice A0_2 l0_2.length c0_2]) (t:=56) ?hr ?_;(case hd=>rfl);(case hg=>rfl);(case hr=>first|(go_simp;done)|(go_simp;rfl));intro gb210 hg w9 hbox hb;have n0_:=A_ (bp_ (by repeat (first|(with_reducible first|exact HB.out|apply ba_|apply pd_|apply b1_)|exact HB.out)) hb);have n1_:=A_ (hbox);have n2_:=A_ ((by rw [hg];exact (bz_ (by repeat (first|(with_reducible first|exact HB.out|apply ba_|apply pd_|apply b1_)|exact HB.out))):w.heap.size≤gb210));have n3_:=A_ ((by rw [hg];exact (bz_ (by repeat (first|(with_reducible first|exact HB.out|apply ba_|apply pd_|apply b1_)|exact HB.out))):w.heap.size≤gb210));clear HB;have HB:=n0_;have BK210:=n1_;have GW210:=n2_;have GE210:=n3_;clear n0_ n1_ n2_ n3_;clear hb hbox hg;have hcz10_0:w9.cell? ⟨gb210,0,none⟩=some (.int .i64 a0_0):=(bc_ BK210.out 0).trans rfl;have hcz10_1:w9.cell? ⟨gb210,1,none⟩=some (.string a0_1):=(bc_ BK210.out 1).trans rfl;have hcz10_2:w9.cell? ⟨gb210,2,none⟩=some (.slice A0_2 l0_2.length c0_2):=(bc_ BK210.out 2).trans rfl;have hfz10_0:=bf_ BK210.out 0;have hfz10_1:=bf_ BK210.out 1;have hfz10_2:=bf_ BK210.out 2)|((with_reducible refine gate_callee (f:=65) rfl ?_);refine goesL_ (some 5) rfl rfl Try.func65 (by kernel_rfl) rfl #[.int .i64 a0_0,.int .i64 0,.int .i64 2] rfl (by (try simp only [List.map_toArray,List.map_cons,List.map_nil]);first|done|rfl|(simp only [ld_,lt_];rfl)) ?_;(with_reducible refine (impl_within.calls a0_0 0 2 true _ A2.out).mono ?_);rintro e w' ⟨rfl,⟨nd,rfl⟩⟩;refine ⟨_,rfl,?_⟩)|(go_at_call 64;(with_reducible refine (impl_TagOK.calls k a0_1 false _ A4.out).mono ?_);rintro e w' ⟨rfl,⟨nd,rfl⟩⟩))
   go_ret
   exact ⟨by first|rfl|(simp [errW_none,errW_some] <;> rfl)|(simp [*,errW_none,errW_some] <;> rfl),by repeat (first|(with_reducible first|exact HB.out|apply ba_|apply pd_|apply b1_|refine bs_ ?_ GE210.out)|exact HB.out)⟩
 ·replace c3:=bm_ c3
  subst c3
  have H1:(some false)=some r:=by rw [if_neg (show ¬ (false=true) by decide)] at H;exact H
  clear H
  have H:=H1
  clear H1
  obtain rfl:=oi_ H
  go_enter Try.func106,Try.ntmps106
  go_wp2_with (first|((with_reducible refine gate_dst (N:=1) rfl ?_);refine box_event ?hg (N:=1) ?hd (cs:=#[.int .i64 a0_0,.string a0_1,.slice A0_2 l0_2.length c0_2]) (t:=56) ?hr ?_;(case hd=>rfl);(case hg=>rfl);(case hr=>first|(go_simp;done)|(go_simp;rfl));intro gb210 hg w11 hbox hb;have n0_:=A_ (bp_ (by repeat (first|(with_reducible first|exact HB.out|apply ba_|apply pd_|apply b1_)|exact HB.out)) hb);have n1_:=A_ (hbox);have n2_:=A_ ((by rw [hg];exact (bz_ (by repeat (first|(with_reducible first|exact HB.out|apply ba_|apply pd_|apply b1_)|exact HB.out))):w.heap.size≤gb210));have n3_:=A_ ((by rw [hg];exact (bz_ (by repeat (first|(with_reducible first|exact HB.out|apply ba_|apply pd_|apply b1_)|exact HB.out))):w.heap.size≤gb210));clear HB;have HB:=n0_;have BK210:=n1_;have GW210:=n2_;have GE210:=n3_;clear n0_ n1_ n2_ n3_;clear hb hbox hg;have hcz12_0:w11.cell? ⟨gb210,0,none⟩=some (.int .i64 a0_0):=(bc_ BK210.out 0).trans rfl;have hcz12_1:w11.cell? ⟨gb210,1,none⟩=some (.string a0_1):=(bc_ BK210.out 1).trans rfl;have hcz12_2:w11.cell? ⟨gb210,2,none⟩=some (.slice A0_2 l0_2.length c0_2):=(bc_ BK210.out 2).trans rfl;have hfz12_0:=bf_ BK210.out 0;have hfz12_1:=bf_ BK210.out 1;have hfz12_2:=bf_ BK210.out 2)|((with_reducible refine gate_callee (f:=65) rfl ?_);refine goesL_ (some 5) rfl rfl Try.func65 (by kernel_rfl) rfl #[.int .i64 a0_0,.int .i64 0,.int .i64 2] rfl (by (try simp only [List.map_toArray,List.map_cons,List.map_nil]);first|done|rfl|(simp only [ld_,lt_];rfl)) ?_;(with_reducible refine (impl_within.calls a0_0 0 2 false _ A2.out).mono ?_);rintro e w' ⟨rfl,⟨nd,rfl⟩⟩;refine ⟨_,rfl,?_⟩))
  go_ret
  exact ⟨by first|rfl|(simp [errW_none,errW_some] <;> rfl)|(simp [*,errW_none,errW_some] <;> rfl),by repeat (first|(with_reducible first|exact HB.out|apply ba_|apply pd_|apply b1_|refine bs_ ?_ GE210.out)|exact HB.out)⟩
end Go.Proofs.Ytmeafbneklphnaa.PFnExactAllowsAttr
