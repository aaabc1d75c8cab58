/- By a program of this session, out of the kit's print and contracts made by hand: the machine side of a law; Lean checks it. No conditions. -/
import Derived.Test.YtlpncjeahdfolaaGreatDoorPFnExactSerializex0
import Derived.Test.YtlpncjeahdfolaaGreatDoorPFnExactSerializex14
namespace Go.Proofs.YtlpncjeahdfolaaGreatDoor.PFnExactSerialize
open Go.RowKit Go.Proofs.YtlpncjeahdfolaaGreatDoorW.PrintWords Go.Proofs.YtlpncjeahdfolaaGreatDoorW.PrintLast Go.Proofs.YtlpncjeahdfolaaGreatDoorW.PrintMore
attribute [local go_sem] max2_int min2_int max_two min_two max_three min_three max_four min_four
set_option linter.unusedVariables false
set_option linter.unusedSimpArgs false
/-! ### impl_TagOK: function 56 -/
def impl_TagOK.l0:Nat→ByteArray→Int→Int→Option (Bool)
 | 0,_,_,_=>none
 | k+1,x0,x6,x7=>if x7<x6 then (if 0≤x7 then (if x7<(x0.size:Int) then ((impl_isSmall.f (bt x0 x7)).bind fun t218=>(if t218=true then (impl_TagOK.l0 k x0 x6 (wrap64 (x7+1))) else (if x7=0 then (some false) else ((impl_isDigit.f (bt x0 x7)).bind fun t219=>(if t219=true then (impl_TagOK.l0 k x0 x6 (wrap64 (x7+1))) else (if (bt x0 x7)=45 then (impl_TagOK.l0 k x0 x6 (wrap64 (x7+1))) else (some false))))))) else (none)) else (none)) else ((impl_within.f (x0.size:Int) 1 12).bind fun t217=>(some t217))
def impl_TagOK.f (k:Nat) (a0:ByteArray):Option (Bool):=impl_TagOK.l0 k a0 (a0.size:Int) 0
theorem impl_TagOK.mono_l:∀ k,(∀ y0 y1 y2,LeO (impl_TagOK.l0 k y0 y1 y2) (impl_TagOK.l0 (k+1) y0 y1 y2))
 | 0=>fun _ _ _ r h=>by simp [impl_TagOK.l0] at h
 | k+1=>by
  have ih0:=impl_TagOK.mono_l k
  ·intro y0 y1 y2
   unfold impl_TagOK.l0
   repeat' first
   | (with_reducible exact ih0 _ _ _)
   | (with_reducible exact LeO.refl _)
   | (with_reducible exact LeO.none _)
   | (with_reducible refine LeO.ite ?_ ?_)
   | (with_reducible refine LeO.bind ?_ (fun _=>?_))
   | exact ih0 _ _ _
   | exact LeO.none _
   | refine LeO.ite ?_ ?_
   | refine LeO.bind ?_ (fun _=>?_)
theorem impl_TagOK.mono:∀ a0 k,LeO (impl_TagOK.f k a0) (impl_TagOK.f (k+1) a0):=by
 intro a0 k
 have ih0:=impl_TagOK.mono_l k
 unfold impl_TagOK.f
 repeat' first
  | (with_reducible exact ih0 _ _ _)
  | (with_reducible exact LeO.refl _)
  | (with_reducible exact LeO.none _)
  | (with_reducible refine LeO.ite ?_ ?_)
  | (with_reducible refine LeO.bind ?_ (fun _=>?_))
  | exact ih0 _ _ _
  | exact LeO.none _
  | refine LeO.ite ?_ ?_
  | refine LeO.bind ?_ (fun _=>?_)
set_option maxHeartbeats 8000000 in
set_option maxRecDepth 100000 in
theorem impl_TagOK.calls (k:Nat) (a0:ByteArray) (r:Bool) (w:World) (h:impl_TagOK.f k a0=some r) :
 Calls Tryz.prog 56 #[.string a0] w fun e w'=>e=.returned (.bool r)∧Drawn0 w w':=by
 have H:(impl_TagOK.l0 k a0 (a0.size:Int) 0)=some r:=h
 clear h
 have H':=A_ H
 clear H
 go_enter Tryz.func56,Tryz.ntmps56
 go_wp2
 go_loopg [7] k (fun kq v7 w'=>∃ (x7_1:Int),v7=.int .i64 x7_1∧Aside0 (impl_TagOK.l0 kq a0 (a0.size:Int) x7_1=some r)∧Aside0 (kq≤k)∧Drawn0 w w')
 case atStart=>exact ⟨(0),(by first|rfl|(simp;done)|(simp [*];done)),H',⟨Nat.le_refl _⟩,by repeat (first|exact dr_ _|apply dp_)⟩
 case round =>
  clear H'
  obtain ⟨x7_1,rfl,HA,HK1,⟨m1,rfl⟩⟩:=hrel
  cases gk with
  | zero=>exact absurd HA.out (by simp [impl_TagOK.l0])
  | succ k1 =>
   have H:=HA.out
   clear HA
   simp only [impl_TagOK.l0] at H
   by_cases c2:x7_1<(a0.size:Int)
   ·rw [if_pos c2] at H
    have c2b0:decide (x7_1<(a0.size:Int))=true:=dt_ c2
    clear c2
    by_cases c3:0≤x7_1
    ·rw [if_pos c3] at H
     have c3b0:decide (0≤x7_1)=true:=dt_ c3
     clear c3
     by_cases c4:x7_1<(a0.size:Int)
     ·rw [if_pos c4] at H
      have c4b0:decide (x7_1<(a0.size:Int))=true:=dt_ c4
      clear c4
      replace H:=ob_ H
      obtain ⟨t218,A60,H⟩:=H
      replace H:(if t218=true then (impl_TagOK.l0 k1 a0 (a0.size:Int) (wrap64 (x7_1+1))) else (if x7_1=0 then (some false) else ((impl_isDigit.f (bt a0 x7_1)).bind fun t219=>(if t219=true then (impl_TagOK.l0 k1 a0 (a0.size:Int) (wrap64 (x7_1+1))) else (if (bt a0 x7_1)=45 then (impl_TagOK.l0 k1 a0 (a0.size:Int) (wrap64 (x7_1+1))) else (some false))))))=some r:=H
      have A6:=A_ A60
      clear A60
      by_cases c7:t218=true
      ·subst c7
       have H1:(impl_TagOK.l0 k1 a0 (a0.size:Int) (wrap64 (x7_1+1)))=some r:=by rw [if_pos rfl] at H;exact H
       clear H
       have H:=H1
       clear H1
       have H':=A_ H
       clear H
       have p5:0≤(x7_1:Int):=od_ (by first|(with_reducible assumption)|assumption)
       have q5:x7_1<(a0.size:Int):=od_ (by first|(with_reducible assumption)|assumption)
       have hx5:=bt_at a0 x7_1
       replace p5:=eq_true p5
       replace q5:=eq_true q5
       go_wp2_with (first|((with_reducible refine gate_callee (f:=67) rfl ?_);refine goesL_ (some 14) rfl rfl Tryz.func67 (by kernel_rfl) rfl #[.int .u8 (bt a0 x7_1)] rfl (by (try simp only [List.map_toArray,List.map_cons,List.map_nil]);first|done|rfl|(simp only [ld_,lt_];rfl)) ?_;(with_reducible refine (impl_isSmall.calls (bt a0 x7_1) true _ A6.out).mono ?_);rintro e w' ⟨rfl,⟨nd,rfl⟩⟩;refine ⟨_,rfl,?_⟩))
       go_roundg k1
       case measure=>have:=HK1.out;omega
       case rel=>exact ⟨(wrap64 (x7_1+1)),(by first|rfl|(simp;done)|(simp [*];done)),H',⟨by have:=HK1.out;omega⟩,by repeat (first|exact dr_ _|apply dp_)⟩
      ·replace c7:=bm_ c7
       subst c7
       have H1:(if x7_1=0 then (some false) else ((impl_isDigit.f (bt a0 x7_1)).bind fun t219=>(if t219=true then (impl_TagOK.l0 k1 a0 (a0.size:Int) (wrap64 (x7_1+1))) else (if (bt a0 x7_1)=45 then (impl_TagOK.l0 k1 a0 (a0.size:Int) (wrap64 (x7_1+1))) else (some false)))))=some r:=by rw [if_neg (show ¬ (false=true) by decide)] at H;exact H
       clear H
       have H:=H1
       clear H1
       by_cases c8:x7_1=0
       ·rw [if_pos c8] at H
        have c8b0:(x7_1 == 0)=true:=beq_iff_eq.mpr c8
        have c8b1:(x7_1 != 0)=false:=bne_eq_false_iff_eq.mpr c8
        clear c8
        obtain rfl:=oi_ H
        have p5:0≤(x7_1:Int):=od_ (by first|(with_reducible assumption)|assumption)
        have q5:x7_1<(a0.size:Int):=od_ (by first|(with_reducible assumption)|assumption)
        have hx5:=bt_at a0 x7_1
        replace p5:=eq_true p5
        replace q5:=eq_true q5
        go_wp2_with (first|((with_reducible refine gate_callee (f:=67) rfl ?_);refine goesL_ (some 14) rfl rfl Tryz.func67 (by kernel_rfl) rfl #[.int .u8 (bt a0 x7_1)] rfl (by (try simp only [List.map_toArray,List.map_cons,List.map_nil]);first|done|rfl|(simp only [ld_,lt_];rfl)) ?_;(with_reducible refine (impl_isSmall.calls (bt a0 x7_1) false _ A6.out).mono ?_);rintro e w' ⟨rfl,⟨nd,rfl⟩⟩;refine ⟨_,rfl,?_⟩))
        go_ret
        exact ⟨by first|rfl|(simp;done)|(simp [*];done),by repeat (first|exact dr_ _|apply dp_)⟩
       ·rw [if_neg c8] at H
        have c8b0:(x7_1 == 0)=false:=beq_eq_false_iff_ne.mpr c8
        have c8b1:(x7_1 != 0)=true:=bne_iff_ne.mpr c8
        replace H:=ob_ H
        obtain ⟨t219,A90,H⟩:=H
        replace H:(if t219=true then (impl_TagOK.l0 k1 a0 (a0.size:Int) (wrap64 (x7_1+1))) else (if (bt a0 x7_1)=45 then (impl_TagOK.l0 k1 a0 (a0.size:Int) (wrap64 (x7_1+1))) else (some false)))=some r:=H
        have A9:=A_ A90
        clear A90
        by_cases c10:t219=true
        ·subst c10
         have H1:(impl_TagOK.l0 k1 a0 (a0.size:Int) (wrap64 (x7_1+1)))=some r:=by rw [if_pos rfl] at H;exact H
         clear H
         have H:=H1
         clear H1
         have H':=A_ H
         clear H
         have p5:0≤(x7_1:Int):=od_ (by first|(with_reducible assumption)|assumption)
         have q5:x7_1<(a0.size:Int):=od_ (by first|(with_reducible assumption)|assumption)
         have hx5:=bt_at a0 x7_1
         replace p5:=eq_true p5
         replace q5:=eq_true q5
         go_wp2_with (first|((with_reducible refine gate_callee (f:=67) rfl ?_);refine goesL_ (some 14) rfl rfl Tryz.func67 (by kernel_rfl) rfl #[.int .u8 (bt a0 x7_1)] rfl (by (try simp only [List.map_toArray,List.map_cons,List.map_nil]);first|done|rfl|(simp only [ld_,lt_];rfl)) ?_;(with_reducible refine (impl_isSmall.calls (bt a0 x7_1) false _ A6.out).mono ?_);rintro e w' ⟨rfl,⟨nd,rfl⟩⟩;refine ⟨_,rfl,?_⟩)|(go_at_call 68;(with_reducible refine (impl_isDigit.calls (bt a0 x7_1) true _ A9.out).mono ?_);rintro e w' ⟨rfl,⟨nd,rfl⟩⟩))
         go_roundg k1
         case measure=>have:=HK1.out;omega
         case rel=>exact ⟨(wrap64 (x7_1+1)),(by first|rfl|(simp;done)|(simp [*];done)),H',⟨by have:=HK1.out;omega⟩,by repeat (first|exact dr_ _|apply dp_)⟩
        ·replace c10:=bm_ c10
         subst c10
         have H1:(if (bt a0 x7_1)=45 then (impl_TagOK.l0 k1 a0 (a0.size:Int) (wrap64 (x7_1+1))) else (some false))=some r:=by rw [if_neg (show ¬ (false=true) by decide)] at H;exact H
         clear H
         have H:=H1
         clear H1
         by_cases c11:(bt a0 x7_1)=45
         ·rw [if_pos c11] at H
          have c11b0:((bt a0 x7_1) == 45)=true:=beq_iff_eq.mpr c11
          have c11b1:((bt a0 x7_1) != 45)=false:=bne_eq_false_iff_eq.mpr c11
          clear c11
          have H':=A_ H
          clear H
          have p5:0≤(x7_1:Int):=od_ (by first|(with_reducible assumption)|assumption)
          have q5:x7_1<(a0.size:Int):=od_ (by first|(with_reducible assumption)|assumption)
          have hx5:=bt_at a0 x7_1
          replace p5:=eq_true p5
          replace q5:=eq_true q5
          go_wp2_with (first|((with_reducible refine gate_callee (f:=67) rfl ?_);refine goesL_ (some 14) rfl rfl Tryz.func67 (by kernel_rfl) rfl #[.int .u8 (bt a0 x7_1)] rfl (by (try simp only [List.map_toArray,List.map_cons,List.map_nil]);first|done|rfl|(simp only [ld_,lt_];rfl)) ?_;(with_reducible refine (impl_isSmall.calls (bt a0 x7_1) false _ A6.out).mono ?_);rintro e w' ⟨rfl,⟨nd,rfl⟩⟩;refine ⟨_,rfl,?_⟩)|(go_at_call 68;(with_reducible refine (impl_isDigit.calls (bt a0 x7_1) false _ A9.out).mono ?_);rintro e w' ⟨rfl,⟨nd,rfl⟩⟩))
          go_roundg k1
          case measure=>have:=HK1.out;omega
          case rel=>exact ⟨(wrap64 (x7_1+1)),(by first|rfl|(simp;done)|(simp [*];done)),H',⟨by have:=HK1.out;omega⟩,by repeat (first|exact dr_ _|apply dp_)⟩
         ·rw [if_neg c11] at H
          have c11b0:((bt a0 x7_1) == 45)=false:=beq_eq_false_iff_ne.mpr c11
          have c11b1:((bt a0 x7_1) != 45)=true:=bne_iff_ne.mpr c11
          obtain rfl:=oi_ H
          have p5:0≤(x7_1:Int):=od_ (by first|(with_reducible assumption)|assumption)
          have q5:x7_1<(a0.size:Int):=od_ (by first|(with_reducible assumption)|assumption)
          have hx5:=bt_at a0 x7_1
          replace p5:=eq_true p5
          replace q5:=eq_true q5
          go_wp2_with (first|((with_reducible refine gate_callee (f:=67) rfl ?_);refine goesL_ (some 14) rfl rfl Tryz.func67 (by kernel_rfl) rfl #[.int .u8 (bt a0 x7_1)] rfl (by (try simp only [List.map_toArray,List.map_cons,List.map_nil]);first|done|rfl|(simp only [ld_,lt_];rfl)) ?_;(with_reducible refine (impl_isSmall.calls (bt a0 x7_1) false _ A6.out).mono ?_);rintro e w' ⟨rfl,⟨nd,rfl⟩⟩;refine ⟨_,rfl,?_⟩)|(go_at_call 68;(with_reducible refine (impl_isDigit.calls (bt a0 x7_1) false _ A9.out).mono ?_);rintro e w' ⟨rfl,⟨nd,rfl⟩⟩))
          go_ret
          exact ⟨by first|rfl|(simp;done)|(simp [*];done),by repeat (first|exact dr_ _|apply dp_)⟩
     ·rw [if_neg c4] at H
      exact absurd H (by simp)
    ·rw [if_neg c3] at H
     exact absurd H (by simp)
   ·rw [if_neg c2] at H
    have c2b0:decide (x7_1<(a0.size:Int))=false:=df_ c2
    clear c2
    replace H:=ob_ H
    obtain ⟨t217,A120,H⟩:=H
    replace H:(some t217)=some r:=H
    have A12:=A_ A120
    clear A120
    obtain rfl:=oi_ H
    go_wp2_with (first|((with_reducible refine gate_callee (f:=57) rfl ?_);refine goesL_ (some 32) rfl rfl Tryz.func57 (by kernel_rfl) rfl #[.int .i64 (a0.size:Int),.int .i64 1,.int .i64 12] rfl (by (try simp only [List.map_toArray,List.map_cons,List.map_nil]);first|done|rfl|(simp only [ld_,lt_];rfl)) ?_;(with_reducible refine (impl_within.calls (a0.size:Int) 1 12 t217 _ A12.out).mono ?_);rintro e w' ⟨rfl,⟨nd,rfl⟩⟩;refine ⟨_,rfl,?_⟩))
    go_ret
    exact ⟨by first|rfl|(simp;done)|(simp [*];done),by repeat (first|exact dr_ _|apply dp_)⟩
open Go.Proofs.YtlpncjeahdfolaaGreatDoor.Kit (small digit big pos_eq neg_eq tagB isTag nameB isName lowC lowS lowS_bytes handler wantJ wantJ_eq keepC badL badFrom badFrom_zero badFrom_full badFrom_nil badFrom_skip badFrom_take indexByte_any markB namesAt namesOK)
theorem isSmall_eq (c:Int):impl_isSmall.f c=some (small c):=by
 unfold impl_isSmall.f small
 by_cases h:c≥97
 ·rw [if_pos h];simp [h]
 ·rw [if_neg h];simp;omega
theorem isDigit_eq (c:Int):impl_isDigit.f c=some (digit c):=by
 unfold impl_isDigit.f digit
 by_cases h:c≥48
 ·rw [if_pos h];simp [h]
 ·rw [if_neg h];simp;omega
theorem within_eq (n a b:Int):impl_within.f n a b=some (decide (a≤n∧n≤b)):=by
 unfold impl_within.f
 by_cases h:n≥a
 ·rw [if_pos h];simp [h]
 ·rw [if_neg h];simp;omega
theorem ev_tag_impl (s:ByteArray) (hn:s.size≤9223372036854775807):Ev (fun k=>impl_TagOK.f k s) (isTag s):=by
 have key:∀ i:Nat,i≤s.size→Ev (fun k=>impl_TagOK.l0 k s s.size i) (Kit.allB (tagB s) i s.size && decide ((1:Int)≤(s.size:Int)∧(s.size:Int)≤12)):=by
  refine Kit.down ?_ ?_
  ·refine Ev.step (fun k=>rfl) ?_
   refine Kit.ev_neg (by omega) ?_
   refine Kit.ev_some (within_eq _ _ _) ?_
   rw [Kit.allB_end,Bool.true_and]
   exact Ev.now _
  ·intro i hi ih
   refine Ev.step (fun k=>rfl) ?_
   refine Kit.ev_pos (by omega) (Kit.ev_pos (by omega) (Kit.ev_pos (by omega) ?_))
   rw [Kit.allB_step _ hi,Kit.wrap_nat hi hn]
   have yes:tagB s i=true→Ev (fun k=>impl_TagOK.l0 k s s.size ((i+1:Nat):Int)) (tagB s i && Kit.allB (tagB s) (i+1) s.size && decide ((1:Int)≤(s.size:Int)∧(s.size:Int)≤12)):=fun h=>by rw [h,Bool.true_and];exact ih
   have no:tagB s i=false→Ev (fun _:Nat=>some false) (tagB s i && Kit.allB (tagB s) (i+1) s.size && decide ((1:Int)≤(s.size:Int)∧(s.size:Int)≤12)):=fun h=>by rw [h,Bool.false_and,Bool.false_and];exact Ev.now _
   refine Kit.ev_some (isSmall_eq _) (Kit.ev_if (fun h=>yes (by simp [tagB,h])) (fun h=>?_))
   refine Kit.ev_if (fun h0=>no ?_) (fun h0=>?_)
   ·simp [tagB,h];intro h1;omega
   refine Kit.ev_some (isDigit_eq _) (Kit.ev_if (fun h1=>yes ?_) (fun h1=>Kit.ev_if (fun h2=>yes ?_) (fun h2=>no ?_)))
   ·simp [tagB,h1];omega
   ·simp [tagB,h2];omega
   ·simp [tagB,h,h1,h2]
 exact key 0 (by omega)
theorem impl_TagOK.pure (s:ByteArray) (hs:s.size≤9223372036854775807) (W:World):Calls Tryz.prog 56 #[.string s] W fun e w'=>e=.returned (.bool (isTag s))∧Drawn0 W w':=by
 obtain ⟨K,hK⟩:=ev_tag_impl s hs
 exact impl_TagOK.calls K s _ W (hK K (Nat.le_refl _))
/-! ### impl_isAttr: function 69 -/
def impl_isAttr.f (k:Nat) (a0_0:ByteArray) (a0_1:ByteArray):Option (Bool):=(impl_TagOK.f k a0_0).bind fun t221=>(if t221=true then (some (decide ((a0_1.size:Int)≤40))) else (some false))
theorem impl_isAttr.mono:∀ a0 a1 k,LeO (impl_isAttr.f k a0 a1) (impl_isAttr.f (k+1) a0 a1):=by
 intro a0 a1 k
 unfold impl_isAttr.f
 repeat' first
  | (with_reducible exact impl_TagOK.mono _ _)
  | (with_reducible exact LeO.refl _)
  | (with_reducible exact LeO.none _)
  | (with_reducible refine LeO.ite ?_ ?_)
  | (with_reducible refine LeO.bind ?_ (fun _=>?_))
  | exact impl_TagOK.mono _ _
  | exact LeO.none _
  | refine LeO.ite ?_ ?_
  | refine LeO.bind ?_ (fun _=>?_)
set_option maxHeartbeats 8000000 in
set_option maxRecDepth 100000 in
theorem impl_isAttr.calls (k:Nat) (a0_0:ByteArray) (a0_1:ByteArray) (r:Bool) (w:World) (h:impl_isAttr.f k a0_0 a0_1=some r) :
 Calls Tryz.prog 69 #[.agg #[.string a0_0,.string a0_1]] w fun e w'=>e=.returned (.bool r)∧Below w.heap.size w w':=by
 have hu63:=Tryz.underlying63
 have HB:=A_ (Below.refl w.heap.size w)
 have H:((impl_TagOK.f k a0_0).bind fun t221=>(if t221=true then (some (decide ((a0_1.size:Int)≤40))) else (some false)))=some r:=h
 clear h
 replace H:=ob_ H
 obtain ⟨t221,A20,H⟩:=H
 replace H:(if t221=true then (some (decide ((a0_1.size:Int)≤40))) else (some false))=some r:=H
 have A2:=A_ A20
 clear A20
 by_cases c3:t221=true
 ·subst c3
  have H1:(some (decide ((a0_1.size:Int)≤40)))=some r:=by rw [if_pos rfl] at H;exact H
  clear H
  have H:=H1
  clear H1
  obtain rfl:=oi_ H
  go_enter Tryz.func69,Tryz.ntmps69
  go_wp2_with (first|((with_reducible refine gate_dst (N:=1) rfl ?_);(try (refine gate_guard (by rfl) ?_;dsimp only));refine box_event ?hg (N:=1) ?hd (cs:=#[.string a0_0,.string a0_1]) (t:=63) ?hr ?_;(case hd=>rfl);(case hg=>rfl);(case hr=>first|(go_simp;done)|(go_simp;rfl));intro gb220 hg w4 hbox hb;have n0_:=A_ (bp_ (by repeat (first|(with_reducible first|exact HB.out|apply ba_|apply pd_|apply b1_)|exact HB.out)) hb);have n1_:=A_ (hbox);have n2_:=A_ ((by rw [hg];exact (bz_ (by repeat (first|(with_reducible first|exact HB.out|apply ba_|apply pd_|apply b1_)|exact HB.out))):w.heap.size≤gb220));have n3_:=A_ ((by rw [hg];exact (bz_ (by repeat (first|(with_reducible first|exact HB.out|apply ba_|apply pd_|apply b1_)|exact HB.out))):w.heap.size≤gb220));clear HB;have HB:=n0_;have BK220:=n1_;have GW220:=n2_;have GE220:=n3_;clear n0_ n1_ n2_ n3_;clear hb hbox hg;have hcz5_0:w4.cell? ⟨gb220,0,none⟩=some (.string a0_0):=(bc_ BK220.out 0).trans rfl;have hcz5_1:w4.cell? ⟨gb220,1,none⟩=some (.string a0_1):=(bc_ BK220.out 1).trans rfl;have hfz5_0:=bf_ BK220.out 0;have hfz5_1:=bf_ BK220.out 1)|((with_reducible refine gate_callee (f:=56) rfl ?_);refine goesL_ (some 5) rfl rfl Tryz.func56 (by kernel_rfl) rfl #[.string a0_0] rfl (by (try simp only [List.map_toArray,List.map_cons,List.map_nil]);first|done|rfl|(simp only [ld_,lt_];rfl)) ?_;(with_reducible refine (impl_TagOK.calls k a0_0 true _ A2.out).mono ?_);rintro e w' ⟨rfl,⟨nd,rfl⟩⟩;refine ⟨_,rfl,?_⟩))
  go_ret
  exact ⟨by first|rfl|(simp [errW_none,errW_some] <;> rfl)|(simp [*,errW_none,errW_some] <;> rfl),by repeat (first|(with_reducible first|exact HB.out|apply ba_|apply pd_|apply b1_|refine bs_ ?_ GE220.out)|exact HB.out)⟩
 ·replace c3:=bm_ c3
  subst c3
  have H1:(some false)=some r:=by rw [if_neg (show ¬ (false=true) by decide)] at H;exact H
  clear H
  have H:=H1
  clear H1
  obtain rfl:=oi_ H
  go_enter Tryz.func69,Tryz.ntmps69
  go_wp2_with (first|((with_reducible refine gate_dst (N:=1) rfl ?_);(try (refine gate_guard (by rfl) ?_;dsimp only));refine box_event ?hg (N:=1) ?hd (cs:=#[.string a0_0,.string a0_1]) (t:=63) ?hr ?_;(case hd=>rfl);(case hg=>rfl);(case hr=>first|(go_simp;done)|(go_simp;rfl));intro gb220 hg w6 hbox hb;have n0_:=A_ (bp_ (by repeat (first|(with_reducible first|exact HB.out|apply ba_|apply pd_|apply b1_)|exact HB.out)) hb);have n1_:=A_ (hbox);have n2_:=A_ ((by rw [hg];exact (bz_ (by repeat (first|(with_reducible first|exact HB.out|apply ba_|apply pd_|apply b1_)|exact HB.out))):w.heap.size≤gb220));have n3_:=A_ ((by rw [hg];exact (bz_ (by repeat (first|(with_reducible first|exact HB.out|apply ba_|apply pd_|apply b1_)|exact HB.out))):w.heap.size≤gb220));clear HB;have HB:=n0_;have BK220:=n1_;have GW220:=n2_;have GE220:=n3_;clear n0_ n1_ n2_ n3_;clear hb hbox hg;have hcz7_0:w6.cell? ⟨gb220,0,none⟩=some (.string a0_0):=(bc_ BK220.out 0).trans rfl;have hcz7_1:w6.cell? ⟨gb220,1,none⟩=some (.string a0_1):=(bc_ BK220.out 1).trans rfl;have hfz7_0:=bf_ BK220.out 0;have hfz7_1:=bf_ BK220.out 1)|((with_reducible refine gate_callee (f:=56) rfl ?_);refine goesL_ (some 5) rfl rfl Tryz.func56 (by kernel_rfl) rfl #[.string a0_0] rfl (by (try simp only [List.map_toArray,List.map_cons,List.map_nil]);first|done|rfl|(simp only [ld_,lt_];rfl)) ?_;(with_reducible refine (impl_TagOK.calls k a0_0 false _ A2.out).mono ?_);rintro e w' ⟨rfl,⟨nd,rfl⟩⟩;refine ⟨_,rfl,?_⟩))
  go_ret
  exact ⟨by first|rfl|(simp [errW_none,errW_some] <;> rfl)|(simp [*,errW_none,errW_some] <;> rfl),by repeat (first|(with_reducible first|exact HB.out|apply ba_|apply pd_|apply b1_|refine bs_ ?_ GE220.out)|exact HB.out)⟩
def isAttrB (a:S63):Bool:=Kit.isTag a.f0 && decide (a.f1.size≤40)
theorem impl_isAttr.pure (a:S63) (hs:a.f0.size≤9223372036854775807) (W:World):Calls Tryz.prog 69 #[.agg #[.string a.f0,.string a.f1]] W fun e w'=>e=.returned (.bool (isAttrB a))∧Below W.heap.size W w':=by
 obtain ⟨K,hK⟩:=ev_tag_impl a.f0 hs
 refine impl_isAttr.calls K a.f0 a.f1 _ W ?_
 unfold impl_isAttr.f isAttrB
 have hK1:impl_TagOK.f K a.f0=some (Kit.isTag a.f0):=hK K (Nat.le_refl _)
 rw [hK1,Option.bind_some]
 cases Kit.isTag a.f0 with
 | false=>rfl
 | true =>
  rw [if_pos rfl,Bool.true_and]
  congr 1
  rw [decide_eq_decide]
  omega
/-! ### IndexFunc_Attr: function 83, by hand -/
set_option maxHeartbeats 1000000 in
/-- slices.IndexFunc at this type, whatever the predicate: the first place at which it holds. -/
theorem IndexFunc_Attr.holds (A:Option Addr) (n c:Nat) (v:Nat→List Value) (p:Nat→Bool) (g:Nat) (lb:Array Value) (eg:∀ args w,(callFunc g args).run Tryz.prog w=.ok (.enter g args) w) (w:World)
 (hp:∀ j,j<n→∀ W,Below w.heap.size w W→Calls Tryz.prog g (#[.agg (v j).toArray]++lb) W fun e w'=>e=.returned (.bool (p j))∧Below w.heap.size w w')
 (hbig:n≤9223372036854775807) (hc:∀ j,j<n→∃ ad,A=some ad∧(v j).length=2∧∀ i u,(v j)[i]? = some u→w.cell? (ad.add (j * 2+i))=some u) :
 Calls Tryz.prog 83 #[.slice A n c,.func (.func g) #[] lb] w fun e w'=>e=.returned (.int .i64 (Mach.idxP p n))∧Below w.heap.size w w':=by
 have HC:=A_ hc
 have HP:=A_ hp
 clear hc hp
 go_enter Tryz.func83,Tryz.ntmps83
 go_wp2
 go_loopg [5,8] n (fun gg _ s8 wr=>∃ kk:Nat,kk≤n∧n - kk≤gg∧s8=.int .i64 kk∧Aside0 (Below w.heap.size w wr)∧Aside0 (∀ j,j<kk→p j=false))
 case atStart=>exact ⟨0,Nat.zero_le _,by omega,rfl,⟨Below.refl _ w⟩,⟨fun j hj=>absurd hj (Nat.not_lt_zero _)⟩⟩
 case round =>
  obtain ⟨kk,hkk,hg,rfl,BW,AA⟩:=hrel
  by_cases hlt:kk<n
  ·have hltz:(kk:Int)<(n:Int):=by omega
   obtain ⟨ad,e,hl,l1⟩:=HC.out kk hlt
   cases e
   obtain ⟨x0,x1,hv⟩:∃ x0 x1,v kk=[x0,x1]:=by
    match v kk,hl with
    | [x0,x1],_=>exact ⟨x0,x1,rfl⟩
   have m0:=pc_ BW.out (l1 0 x0 (by rw [hv];rfl))
   rw [Nat.add_zero] at m0
   have m1:=pc_ BW.out (l1 1 x1 (by rw [hv];rfl))
   rw [add_field _ _ 1 (by omega)] at m1
   clear l1
   have hcall:=HP.out kk hlt wr BW.out
   rw [hv] at hcall
   clear hv
   cases hq:p kk with
   | true =>
    rw [hq] at hcall
    go_wp2_with ((with_reducible refine hcall.mono ?_);rintro e w' ⟨rfl,hb'⟩)
    go_ret
    refine ⟨?_,hb'⟩
    rw [Mach.idxP_hit p n kk hlt hq AA.out]
    rfl
   | false =>
    rw [hq] at hcall
    go_wp2_with ((with_reducible refine hcall.mono ?_);rintro e w' ⟨rfl,hb'⟩)
    go_roundg (n - (kk+1))
    case measure=>omega
    case rel =>
     refine ⟨kk+1,by omega,by omega,by go_num,⟨hb'⟩,⟨fun j hj=>?_⟩⟩
     by_cases e:j=kk
     ·subst e;exact hq
     ·exact AA.out j (by omega)
  ·have hltz:¬ (kk:Int)<(n:Int):=by omega
   have:kk=n:=by omega
   subst this
   go_wp2
   go_ret
   refine ⟨?_,BW.out⟩
   rw [Mach.idxP_miss p kk AA.out]
   rfl
/-! ### ContainsFunc_Attr: function 70, by hand -/
/-- slices.ContainsFunc at this type, whatever the predicate. -/
theorem ContainsFunc_Attr.holds (A:Option Addr) (n c:Nat) (v:Nat→List Value) (p:Nat→Bool) (g:Nat) (lb:Array Value) (eg:∀ args w,(callFunc g args).run Tryz.prog w=.ok (.enter g args) w) (w:World)
 (hp:∀ j,j<n→∀ W,Below w.heap.size w W→Calls Tryz.prog g (#[.agg (v j).toArray]++lb) W fun e w'=>e=.returned (.bool (p j))∧Below w.heap.size w w')
 (hbig:n≤9223372036854775807) (hc:∀ j,j<n→∃ ad,A=some ad∧(v j).length=2∧∀ i u,(v j)[i]? = some u→w.cell? (ad.add (j * 2+i))=some u) :
 Calls Tryz.prog 70 #[.slice A n c,.func (.func g) #[] lb] w fun e w'=>e=.returned (.bool (Mach.anyP p n))∧Below w.heap.size w w':=by
 rw [←Mach.idxP_any]
 have hcall:=IndexFunc_Attr.holds A n c v p g lb eg w hp hbig hc
 clear hc hp
 go_enter Tryz.func70,Tryz.ntmps70
 go_wp2_with (go_at_call 83;refine hcall.mono ?_;rintro e w' ⟨rfl,hb'⟩)
 go_ret
 exact ⟨rfl,hb'⟩
end Go.Proofs.YtlpncjeahdfolaaGreatDoor.PFnExactSerialize
