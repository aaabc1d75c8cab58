/- By a program of this session, out of the kit's print and contracts made by hand: the machine side of a law; Lean checks it. No conditions. -/
import Derived.Test.YtfkanlbmgbkniaaGreatDoorPFnExactNextTokenx0
import Derived.Test.YtfkanlbmgbkniaaGreatDoorPFnExactNextTokenx14
namespace Go.Proofs.YtfkanlbmgbkniaaGreatDoor.PFnExactNextToken
open Go.RowKit Go.Proofs.YtfkanlbmgbkniaaGreatDoorW.PrintWords Go.Proofs.YtfkanlbmgbkniaaGreatDoorW.PrintLast Go.Proofs.YtfkanlbmgbkniaaGreatDoorW.PrintMore
attribute [local go_sem] max2_int min2_int max_two min_two max_three min_three max_four min_four
set_option linter.unusedVariables false
set_option linter.unusedSimpArgs false
/-! ### impl_TagOK: function 20 -/
def impl_TagOK.l0:Nat→ByteArray→Int→Int→Option (Bool)
 | 0,_,_,_=>none
 | k+1,x0,x6,x7=>if x7<x6 then (if 0≤x7 then (if x7<(x0.size:Int) then ((impl_isSmall.f (bt x0 x7)).bind fun t278=>(if t278=true then (impl_TagOK.l0 k x0 x6 (wrap64 (x7+1))) else (if x7=0 then (some false) else ((impl_isDigit.f (bt x0 x7)).bind fun t279=>(if t279=true then (impl_TagOK.l0 k x0 x6 (wrap64 (x7+1))) else (if (bt x0 x7)=45 then (impl_TagOK.l0 k x0 x6 (wrap64 (x7+1))) else (some false))))))) else (none)) else (none)) else ((impl_within.f (x0.size:Int) 1 12).bind fun t277=>(some t277))
def impl_TagOK.f (k:Nat) (a0:ByteArray):Option (Bool):=impl_TagOK.l0 k a0 (a0.size:Int) 0
theorem impl_TagOK.mono_l:∀ k,(∀ y0 y1 y2,LeO (impl_TagOK.l0 k y0 y1 y2) (impl_TagOK.l0 (k+1) y0 y1 y2))
 | 0=>fun _ _ _ r h=>by simp [impl_TagOK.l0] at h
 | k+1=>by
  have ih0:=impl_TagOK.mono_l k
  ·intro y0 y1 y2
   unfold impl_TagOK.l0
   repeat' first
   | (with_reducible exact ih0 _ _ _)
   | (with_reducible exact LeO.refl _)
   | (with_reducible exact LeO.none _)
   | (with_reducible refine LeO.ite ?_ ?_)
   | (with_reducible refine LeO.bind ?_ (fun _=>?_))
   | exact ih0 _ _ _
   | exact LeO.none _
   | refine LeO.ite ?_ ?_
   | refine LeO.bind ?_ (fun _=>?_)
theorem impl_TagOK.mono:∀ a0 k,LeO (impl_TagOK.f k a0) (impl_TagOK.f (k+1) a0):=by
 intro a0 k
 have ih0:=impl_TagOK.mono_l k
 unfold impl_TagOK.f
 repeat' first
  | (with_reducible exact ih0 _ _ _)
  | (with_reducible exact LeO.refl _)
  | (with_reducible exact LeO.none _)
  | (with_reducible refine LeO.ite ?_ ?_)
  | (with_reducible refine LeO.bind ?_ (fun _=>?_))
  | exact ih0 _ _ _
  | exact LeO.none _
  | refine LeO.ite ?_ ?_
  | refine LeO.bind ?_ (fun _=>?_)
set_option maxHeartbeats 8000000 in
set_option maxRecDepth 100000 in
theorem impl_TagOK.calls (k:Nat) (a0:ByteArray) (r:Bool) (w:World) (h:impl_TagOK.f k a0=some r) :
 Calls Tryz.prog 20 #[.string a0] w fun e w'=>e=.returned (.bool r)∧Drawn0 w w':=by
 have H:(impl_TagOK.l0 k a0 (a0.size:Int) 0)=some r:=h
 clear h
 have H':=A_ H
 clear H
 go_enter Tryz.func20,Tryz.ntmps20
 go_wp2
 go_loopg [7] k (fun kq v7 w'=>∃ (x7_1:Int),v7=.int .i64 x7_1∧Aside0 (impl_TagOK.l0 kq a0 (a0.size:Int) x7_1=some r)∧Aside0 (kq≤k)∧Drawn0 w w')
 case atStart=>exact ⟨(0),(by first|rfl|(simp;done)|(simp [*];done)),H',⟨Nat.le_refl _⟩,by repeat (first|exact dr_ _|apply dp_)⟩
 case round =>
  clear H'
  obtain ⟨x7_1,rfl,HA,HK1,⟨m1,rfl⟩⟩:=hrel
  cases gk with
  | zero=>exact absurd HA.out (by simp [impl_TagOK.l0])
  | succ k1 =>
   have H:=HA.out
   clear HA
   simp only [impl_TagOK.l0] at H
   by_cases c2:x7_1<(a0.size:Int)
   ·rw [if_pos c2] at H
    have c2b0:decide (x7_1<(a0.size:Int))=true:=dt_ c2
    clear c2
    by_cases c3:0≤x7_1
    ·rw [if_pos c3] at H
     have c3b0:decide (0≤x7_1)=true:=dt_ c3
     clear c3
     by_cases c4:x7_1<(a0.size:Int)
     ·rw [if_pos c4] at H
      have c4b0:decide (x7_1<(a0.size:Int))=true:=dt_ c4
      clear c4
      replace H:=ob_ H
      obtain ⟨t278,A60,H⟩:=H
      replace H:(if t278=true then (impl_TagOK.l0 k1 a0 (a0.size:Int) (wrap64 (x7_1+1))) else (if x7_1=0 then (some false) else ((impl_isDigit.f (bt a0 x7_1)).bind fun t279=>(if t279=true then (impl_TagOK.l0 k1 a0 (a0.size:Int) (wrap64 (x7_1+1))) else (if (bt a0 x7_1)=45 then (impl_TagOK.l0 k1 a0 (a0.size:Int) (wrap64 (x7_1+1))) else (some false))))))=some r:=H
      have A6:=A_ A60
      clear A60
      by_cases c7:t278=true
      ·subst c7
       have H1:(impl_TagOK.l0 k1 a0 (a0.size:Int) (wrap64 (x7_1+1)))=some r:=by rw [if_pos rfl] at H;exact H
       clear H
       have H:=H1
       clear H1
       have H':=A_ H
       clear H
       have p5:0≤(x7_1:Int):=oa_
       have q5:x7_1<(a0.size:Int):=oa_
       have hx5:=bt_at a0 x7_1
       replace p5:=eq_true p5
       replace q5:=eq_true q5
       go_wp2_with (first|((with_reducible refine gate_callee (f:=37) rfl ?_);refine gl_ (some 14) rfl rfl Tryz.func37 (by kernel_rfl) rfl #[.int .u8 (bt a0 x7_1)] rfl  ?_;(with_reducible refine (impl_isSmall.calls (bt a0 x7_1) true _ A6.out).mono ?_);rintro e w' ⟨rfl,⟨nd,rfl⟩⟩;refine ⟨_,rfl,?_⟩))
       go_roundg k1
       case measure=>have:=HK1.out;omega
       case rel=>exact ⟨(wrap64 (x7_1+1)),(by first|rfl|(simp;done)|(simp [*];done)),H',⟨by have:=HK1.out;omega⟩,by repeat (first|exact dr_ _|apply dp_)⟩
      ·replace c7:=bm_ c7
       subst c7
       have H1:(if x7_1=0 then (some false) else ((impl_isDigit.f (bt a0 x7_1)).bind fun t279=>(if t279=true then (impl_TagOK.l0 k1 a0 (a0.size:Int) (wrap64 (x7_1+1))) else (if (bt a0 x7_1)=45 then (impl_TagOK.l0 k1 a0 (a0.size:Int) (wrap64 (x7_1+1))) else (some false)))))=some r:=by rw [if_neg (show ¬ (false=true) by decide)] at H;exact H
       clear H
       have H:=H1
       clear H1
       by_cases c8:x7_1=0
       ·rw [if_pos c8] at H
        have c8b0:(x7_1 == 0)=true:=beq_iff_eq.mpr c8
        have c8b1:(x7_1 != 0)=false:=bne_eq_false_iff_eq.mpr c8
        clear c8
        obtain rfl:=oi_ H
        have p5:0≤(x7_1:Int):=oa_
        have q5:x7_1<(a0.size:Int):=oa_
        have hx5:=bt_at a0 x7_1
        replace p5:=eq_true p5
        replace q5:=eq_true q5
        go_wp2_with (first|((with_reducible refine gate_callee (f:=37) rfl ?_);refine gl_ (some 14) rfl rfl Tryz.func37 (by kernel_rfl) rfl #[.int .u8 (bt a0 x7_1)] rfl  ?_;(with_reducible refine (impl_isSmall.calls (bt a0 x7_1) false _ A6.out).mono ?_);rintro e w' ⟨rfl,⟨nd,rfl⟩⟩;refine ⟨_,rfl,?_⟩))
        go_ret
        exact ⟨by first|rfl|(simp;done)|(simp [*];done),by repeat (first|exact dr_ _|apply dp_)⟩
       ·rw [if_neg c8] at H
        have c8b0:(x7_1 == 0)=false:=beq_eq_false_iff_ne.mpr c8
        have c8b1:(x7_1 != 0)=true:=bne_iff_ne.mpr c8
        replace H:=ob_ H
        obtain ⟨t279,A90,H⟩:=H
        replace H:(if t279=true then (impl_TagOK.l0 k1 a0 (a0.size:Int) (wrap64 (x7_1+1))) else (if (bt a0 x7_1)=45 then (impl_TagOK.l0 k1 a0 (a0.size:Int) (wrap64 (x7_1+1))) else (some false)))=some r:=H
        have A9:=A_ A90
        clear A90
        by_cases c10:t279=true
        ·subst c10
         have H1:(impl_TagOK.l0 k1 a0 (a0.size:Int) (wrap64 (x7_1+1)))=some r:=by rw [if_pos rfl] at H;exact H
         clear H
         have H:=H1
         clear H1
         have H':=A_ H
         clear H
         have p5:0≤(x7_1:Int):=oa_
         have q5:x7_1<(a0.size:Int):=oa_
         have hx5:=bt_at a0 x7_1
         replace p5:=eq_true p5
         replace q5:=eq_true q5
         go_wp2_with (first|((with_reducible refine gate_callee (f:=37) rfl ?_);refine gl_ (some 14) rfl rfl Tryz.func37 (by kernel_rfl) rfl #[.int .u8 (bt a0 x7_1)] rfl  ?_;(with_reducible refine (impl_isSmall.calls (bt a0 x7_1) false _ A6.out).mono ?_);rintro e w' ⟨rfl,⟨nd,rfl⟩⟩;refine ⟨_,rfl,?_⟩)|(go_at_call 38;(with_reducible refine (impl_isDigit.calls (bt a0 x7_1) true _ A9.out).mono ?_);rintro e w' ⟨rfl,⟨nd,rfl⟩⟩))
         go_roundg k1
         case measure=>have:=HK1.out;omega
         case rel=>exact ⟨(wrap64 (x7_1+1)),(by first|rfl|(simp;done)|(simp [*];done)),H',⟨by have:=HK1.out;omega⟩,by repeat (first|exact dr_ _|apply dp_)⟩
        ·replace c10:=bm_ c10
         subst c10
         have H1:(if (bt a0 x7_1)=45 then (impl_TagOK.l0 k1 a0 (a0.size:Int) (wrap64 (x7_1+1))) else (some false))=some r:=by rw [if_neg (show ¬ (false=true) by decide)] at H;exact H
         clear H
         have H:=H1
         clear H1
         by_cases c11:(bt a0 x7_1)=45
         ·rw [if_pos c11] at H
          have c11b0:((bt a0 x7_1) == 45)=true:=beq_iff_eq.mpr c11
          have c11b1:((bt a0 x7_1) != 45)=false:=bne_eq_false_iff_eq.mpr c11
          clear c11
          have H':=A_ H
          clear H
          have p5:0≤(x7_1:Int):=oa_
          have q5:x7_1<(a0.size:Int):=oa_
          have hx5:=bt_at a0 x7_1
          replace p5:=eq_true p5
          replace q5:=eq_true q5
          go_wp2_with (first|((with_reducible refine gate_callee (f:=37) rfl ?_);refine gl_ (some 14) rfl rfl Tryz.func37 (by kernel_rfl) rfl #[.int .u8 (bt a0 x7_1)] rfl  ?_;(with_reducible refine (impl_isSmall.calls (bt a0 x7_1) false _ A6.out).mono ?_);rintro e w' ⟨rfl,⟨nd,rfl⟩⟩;refine ⟨_,rfl,?_⟩)|(go_at_call 38;(with_reducible refine (impl_isDigit.calls (bt a0 x7_1) false _ A9.out).mono ?_);rintro e w' ⟨rfl,⟨nd,rfl⟩⟩))
          go_roundg k1
          case measure=>have:=HK1.out;omega
          case rel=>exact ⟨(wrap64 (x7_1+1)),(by first|rfl|(simp;done)|(simp [*];done)),H',⟨by have:=HK1.out;omega⟩,by repeat (first|exact dr_ _|apply dp_)⟩
         ·rw [if_neg c11] at H
          have c11b0:((bt a0 x7_1) == 45)=false:=beq_eq_false_iff_ne.mpr c11
          have c11b1:((bt a0 x7_1) != 45)=true:=bne_iff_ne.mpr c11
          obtain rfl:=oi_ H
          have p5:0≤(x7_1:Int):=oa_
          have q5:x7_1<(a0.size:Int):=oa_
          have hx5:=bt_at a0 x7_1
          replace p5:=eq_true p5
          replace q5:=eq_true q5
          go_wp2_with (first|((with_reducible refine gate_callee (f:=37) rfl ?_);refine gl_ (some 14) rfl rfl Tryz.func37 (by kernel_rfl) rfl #[.int .u8 (bt a0 x7_1)] rfl  ?_;(with_reducible refine (impl_isSmall.calls (bt a0 x7_1) false _ A6.out).mono ?_);rintro e w' ⟨rfl,⟨nd,rfl⟩⟩;refine ⟨_,rfl,?_⟩)|(go_at_call 38;(with_reducible refine (impl_isDigit.calls (bt a0 x7_1) false _ A9.out).mono ?_);rintro e w' ⟨rfl,⟨nd,rfl⟩⟩))
          go_ret
          exact ⟨by first|rfl|(simp;done)|(simp [*];done),by repeat (first|exact dr_ _|apply dp_)⟩
     ·rw [if_neg c4] at H
      exact absurd H (by simp)
    ·rw [if_neg c3] at H
     exact absurd H (by simp)
   ·rw [if_neg c2] at H
    have c2b0:decide (x7_1<(a0.size:Int))=false:=df_ c2
    clear c2
    replace H:=ob_ H
    obtain ⟨t277,A120,H⟩:=H
    replace H:(some t277)=some r:=H
    have A12:=A_ A120
    clear A120
    obtain rfl:=oi_ H
    go_wp2_with (first|((with_reducible refine gate_callee (f:=19) rfl ?_);refine gl_ (some 32) rfl rfl Tryz.func19 (by kernel_rfl) rfl #[.int .i64 (a0.size:Int),.int .i64 1,.int .i64 12] rfl  ?_;(with_reducible refine (impl_within.calls (a0.size:Int) 1 12 t277 _ A12.out).mono ?_);rintro e w' ⟨rfl,⟨nd,rfl⟩⟩;refine ⟨_,rfl,?_⟩))
    go_ret
    exact ⟨by first|rfl|(simp;done)|(simp [*];done),by repeat (first|exact dr_ _|apply dp_)⟩
open Go.Proofs.YtfkanlbmgbkniaaGreatDoor.Kit (small digit big pos_eq neg_eq tagB isTag nameB isName lowC lowS lowS_bytes handler wantJ wantJ_eq keepC badL badFrom badFrom_zero badFrom_full badFrom_nil badFrom_skip badFrom_take indexByte_any markB namesAt namesOK)
theorem isSmall_eq (c:Int):impl_isSmall.f c=some (small c):=by
 unfold impl_isSmall.f small
 by_cases h:c≥97
 ·rw [if_pos h];simp [h]
 ·rw [if_neg h];simp;omega
theorem isDigit_eq (c:Int):impl_isDigit.f c=some (digit c):=by
 unfold impl_isDigit.f digit
 by_cases h:c≥48
 ·rw [if_pos h];simp [h]
 ·rw [if_neg h];simp;omega
theorem within_eq (n a b:Int):impl_within.f n a b=some (decide (a≤n∧n≤b)):=by
 unfold impl_within.f
 by_cases h:n≥a
 ·rw [if_pos h];simp [h]
 ·rw [if_neg h];simp;omega
theorem ev_tag_impl (s:ByteArray) (hn:s.size≤9223372036854775807):Ev (fun k=>impl_TagOK.f k s) (isTag s):=by
 have key:∀ i:Nat,i≤s.size→Ev (fun k=>impl_TagOK.l0 k s s.size i) (Kit.allB (tagB s) i s.size && decide ((1:Int)≤(s.size:Int)∧(s.size:Int)≤12)):=by
  refine Kit.down ?_ ?_
  ·refine Ev.step (fun k=>rfl) ?_
   refine Kit.ev_neg (by omega) ?_
   refine Kit.ev_some (within_eq _ _ _) ?_
   rw [Kit.allB_end,Bool.true_and]
   exact Ev.now _
  ·intro i hi ih
   refine Ev.step (fun k=>rfl) ?_
   refine Kit.ev_pos (by omega) (Kit.ev_pos (by omega) (Kit.ev_pos (by omega) ?_))
   rw [Kit.allB_step _ hi,Kit.wrap_nat hi hn]
   have yes:tagB s i=true→Ev (fun k=>impl_TagOK.l0 k s s.size ((i+1:Nat):Int)) (tagB s i && Kit.allB (tagB s) (i+1) s.size && decide ((1:Int)≤(s.size:Int)∧(s.size:Int)≤12)):=fun h=>by rw [h,Bool.true_and];exact ih
   have no:tagB s i=false→Ev (fun _:Nat=>some false) (tagB s i && Kit.allB (tagB s) (i+1) s.size && decide ((1:Int)≤(s.size:Int)∧(s.size:Int)≤12)):=fun h=>by rw [h,Bool.false_and,Bool.false_and];exact Ev.now _
   refine Kit.ev_some (isSmall_eq _) (Kit.ev_if (fun h=>yes (by simp [tagB,h])) (fun h=>?_))
   refine Kit.ev_if (fun h0=>no ?_) (fun h0=>?_)
   ·simp [tagB,h];intro h1;omega
   refine Kit.ev_some (isDigit_eq _) (Kit.ev_if (fun h1=>yes ?_) (fun h1=>Kit.ev_if (fun h2=>yes ?_) (fun h2=>no ?_)))
   ·simp [tagB,h1];omega
   ·simp [tagB,h2];omega
   ·simp [tagB,h,h1,h2]
 exact key 0 (by omega)
theorem impl_TagOK.pure (s:ByteArray) (hs:s.size≤9223372036854775807) (W:World):Calls Tryz.prog 20 #[.string s] W fun e w'=>e=.returned (.bool (isTag s))∧Drawn0 W w':=by
 obtain ⟨K,hK⟩:=ev_tag_impl s hs
 exact impl_TagOK.calls K s _ W (hK K (Nat.le_refl _))
/-! ### impl_lower: function 58, by hand -/
open Go.Proofs.YtfkanlbmgbkniaaGreatDoor.Kit (lowC lowS)
def impl_lower.f (a0:ByteArray):Option ByteArray:=if a0.size≤9223372036854775807 then some (lowS a0) else none
theorem lower_start (w:World) (s:ByteArray) (j:Nat) (hj:j<s.size):(Lib.bytesWorld w 5 s).cell? ⟨w.heap.size,j,none⟩=some (.int .u8 (bt s (j:Int))):=by
 rw [Lib.bytesWorld_cell w 5 s j hj]
 have:j<s.data.toList.length:=by rw [data_length];exact hj
 simp only [bt,Int.toNat_natCast,dif_pos hj,List.getD_eq_getElem?_getD,List.getElem?_eq_getElem this,Option.getD_some]
 rfl
theorem lower_free (w:World) (s:ByteArray) (j:Nat) (hj:j<s.size):(Lib.bytesWorld w 5 s).frozen? ⟨w.heap.size,j,none⟩=false:=by
 have hsz:s.size≤(Lib.bytesCells w 5 s).size:=by
  unfold Lib.bytesCells
  rw [Array.size_append,Array.size_map]
  have:s.data.size=s.size:=rfl
  omega
 simp only [World.frozen?,Lib.bytesWorld_at_new]
 simp
 omega
/-- The row behind k rounds. -/
def LowRow (W:World) (B:Nat) (s:ByteArray) (k:Nat):Prop :=
 (∀ j:Nat,j<s.size→W.cell? ⟨B,j,none⟩=some (.int .u8 (if j<k then lowC (bt s (j:Int)) else bt s (j:Int))))∧∀ j,j<s.size→W.frozen? ⟨B,j,none⟩=false
theorem LowRow.start (w:World) (s:ByteArray):LowRow (Lib.bytesWorld w 5 s) w.heap.size s 0 :=
 ⟨fun j hj=>by rw [if_neg (Nat.not_lt_zero _)];exact lower_start w s j hj,lower_free w s⟩
theorem LowRow.stay {W:World} {B:Nat} {s:ByteArray} {k:Nat} (h:LowRow W B s k) (hk:k<s.size) (hc:¬ (65≤bt s (k:Int)∧bt s (k:Int)≤90)):LowRow W B s (k+1):=by
 refine ⟨fun j hj=>?_,h.2⟩
 rw [h.1 j hj]
 by_cases e:j=k
 ·subst e
  rw [if_neg (Nat.lt_irrefl _),if_pos (Nat.lt_succ_self _)]
  unfold lowC
  rw [if_neg hc]
 ·by_cases h1:j<k
  ·rw [if_pos h1,if_pos (by omega)]
  ·rw [if_neg h1,if_neg (by omega)]
theorem LowRow.turn {W:World} {B:Nat} {s:ByteArray} {k:Nat} (h:LowRow W B s k) (hk:k<s.size) (hc:65≤bt s (k:Int)∧bt s (k:Int)≤90):LowRow (W.setCell ⟨B,k,none⟩ (.int .u8 (bt s (k:Int)+32))) B s (k+1):=by
 refine ⟨fun j hj=>?_,fun j hj=>by rw [World.frozen?_setCell];exact h.2 j hj⟩
 by_cases e:j=k
 ·subst e
  rw [if_pos (Nat.lt_succ_self _)]
  unfold lowC
  rw [if_pos hc]
  have h3:=h.1 j hj
  apply World.cell?_setCell_same
  exact h3
 ·rw [World.cell?_setCell_other (h:=fun h=>by injection h;omega),h.1 j hj]
  by_cases h1:j<k
  ·rw [if_pos h1,if_pos (by omega)]
  ·rw [if_neg h1,if_neg (by omega)]
set_option maxHeartbeats 1000000 in
theorem impl_lower.calls (a0:ByteArray) (r:ByteArray) (w:World) (h:impl_lower.f a0=some r) :
 Calls Tryz.prog 58 #[.string a0] w fun e w'=>e=.returned (.string r)∧Below w.heap.size w w':=by
 unfold impl_lower.f at h
 obtain ⟨hn,h⟩:=Option.ite_none_right_eq_some.mp h
 obtain rfl:=oi_ h
 have conv:=fun W=>Lib.run_convert_string_bytes (P:=Tryz.prog) W 9 54 5 a0 Tryz.underlying9 Tryz.underlying54 Tryz.underlying5
 go_enter Tryz.func58,Tryz.ntmps58
 go_wp2
 have HS:=A_ (LowRow.start w a0)
 have HB:Below w.heap.size w (Lib.bytesWorld w 5 a0):=bytes_below (Below.refl _ w) (Nat.le_refl _) 5 a0
 generalize Lib.bytesWorld w 5 a0=W0 at HS HB
 have HB:=A_ HB
 go_loopg [10] a0.size (fun gg s10 wr=>∃ k:Nat,k≤a0.size∧a0.size - k≤gg∧s10=.int .i64 k∧Aside0 (LowRow wr w.heap.size a0 k)∧Aside0 (Below w.heap.size w wr))
 case atStart=>exact ⟨0,Nat.zero_le _,by omega,rfl,HS,HB⟩
 case round =>
  obtain ⟨k,hk,hg,rfl,HR,HB2⟩:=hrel
  clear HS HB
  by_cases hlt:k<a0.size
  ·have hltz:(k:Int)<(a0.size:Int):=by omega
   have l1:=HR.out.1 k hlt
   rw [if_neg (Nat.lt_irrefl _)] at l1
   have l2:=HR.out.2 k hlt
   have b1:=(bt_range a0 (k:Int)).1
   have b2:=(bt_range a0 (k:Int)).2
   by_cases hc:65≤bt a0 (k:Int)∧bt a0 (k:Int)≤90
   ·have HR':=A_ (HR.out.turn hlt hc)
    obtain ⟨c1,c2⟩:=hc
    have c3:decide (bt a0 (k:Int)≥65)=true:=dt_ c1
    have c4:decide (bt a0 (k:Int)≤90)=true:=dt_ c2
    have HB3:=A_ (HB2.out.setCell (p:=⟨w.heap.size,k,none⟩) (Nat.le_refl _) (.int .u8 (bt a0 (k:Int)+32)))
    generalize bt a0 (k:Int)=c at *
    go_wp2
    go_roundg (a0.size - (k+1))
    case measure=>omega
    case rel =>
     have e:c+97 - 65=c+32:=by omega
     first|exact ⟨k+1,by omega,by omega,by go_num,HR',HB3⟩|(simp only [e];exact ⟨k+1,by omega,by omega,by go_num,HR',HB3⟩)
   ·have HR':=A_ (HR.out.stay hlt hc)
    generalize bt a0 (k:Int)=c at *
    by_cases c1:65≤c
    ·have c3:decide (c≥65)=true:=dt_ c1
     have c4:decide (c≤90)=false:=df_ (by omega)
     go_wp2
     go_roundg (a0.size - (k+1))
     case measure=>omega
     case rel=>exact ⟨k+1,by omega,by omega,by go_num,HR',HB2⟩
    ·have c3:decide (c≥65)=false:=df_ c1
     go_wp2
     go_roundg (a0.size - (k+1))
     case measure=>omega
     case rel=>exact ⟨k+1,by omega,by omega,by go_num,HR',HB2⟩
  ·have hltz:¬ (k:Int)<(a0.size:Int):=by omega
   have hke:k=a0.size:=by omega
   have back:=run_convert_bytes_arg (P:=Tryz.prog) (w:=wr) 54 5 Tryz.underlying54 Tryz.underlying5 w.heap.size 0 a0.size (grownCap w a0.size 0 5) ((List.range a0.size).map fun (i:Nat)=>lowC (bt a0 (i:Int))) (by simp) (fun i hi=>by
    have:=HR.out.1 i hi
    rw [hke,if_pos hi] at this
    rw [Nat.zero_add,this]
    simp [List.getD_eq_getElem?_getD,hi]) 9 Tryz.underlying9
   clear hke
   go_wp2
   go_ret
   exact ⟨rfl,HB2.out⟩
/-! ### strings_IndexByte: function 67, by hand -/
def strings_IndexByte.f (a0:ByteArray) (a1:Int):Option Int:=if 0≤a1∧a1<256 then some (Lib.indexByte a0.data.toList (UInt8.ofNat a1.toNat)) else none
theorem strings_IndexByte.calls (a0:ByteArray) (a1:Int) (r:Int) (w:World) (h:strings_IndexByte.f a0 a1=some r) :
 Calls Tryz.prog 67 #[.string a0,.int .u8 a1] w fun e w'=>e=.returned (.int .i64 r)∧Drawn0 w w':=by
 unfold strings_IndexByte.f at h
 obtain ⟨⟨h1,h2⟩,h⟩:=Option.ite_none_right_eq_some.mp h
 obtain rfl:=oi_ h
 have hc:=Tryz.strings_IndexByte a0 a1 w
 exact hc.mono fun e w' ⟨he,hw⟩=>⟨he,⟨0,hw⟩⟩
/-! ### impl_isBlank: function 59 -/
def impl_isBlank.f (a0:Int):Option (Bool):=(strings_IndexByte.f (⟨#[32,9,10,12,13]⟩:ByteArray) a0).bind fun t280=>(some (decide (t280≥0)))
set_option maxHeartbeats 8000000 in
set_option maxRecDepth 100000 in
theorem impl_isBlank.calls (a0:Int) (r:Bool) (w:World) (h:impl_isBlank.f a0=some r) :
 Calls Tryz.prog 59 #[.int .u8 a0] w fun e w'=>e=.returned (.bool r)∧Drawn0 w w':=by
 have H:((strings_IndexByte.f (⟨#[32,9,10,12,13]⟩:ByteArray) a0).bind fun t280=>(some (decide (t280≥0))))=some r:=h
 clear h
 replace H:=ob_ H
 obtain ⟨t280,A20,H⟩:=H
 replace H:(some (decide (t280≥0)))=some r:=H
 have A2:=A_ A20
 clear A20
 obtain rfl:=oi_ H
 go_enter Tryz.func59,Tryz.ntmps59
 go_wp2_with (first|((with_reducible refine gate_callee (f:=67) rfl ?_);refine gl_ (some 4) rfl rfl Tryz.func67 (by kernel_rfl) rfl #[.string (⟨#[32,9,10,12,13]⟩:ByteArray),.int .u8 a0] rfl  ?_;(with_reducible refine (strings_IndexByte.calls (⟨#[32,9,10,12,13]⟩:ByteArray) a0 t280 _ A2.out).mono ?_);rintro e w' ⟨rfl,⟨nd,rfl⟩⟩;refine ⟨_,rfl,?_⟩))
 go_ret
 exact ⟨by first|rfl|(simp;done)|(simp [*];done),by repeat (first|exact dr_ _|apply dp_)⟩
end Go.Proofs.YtfkanlbmgbkniaaGreatDoor.PFnExactNextToken
