/- The machine side of a law, printed by a program. No conditions. -/
import Derived.Test.YtfkanlbmgbkniaaGreatDoorPFnExactTokensOfx0
import Derived.Test.YtfkanlbmgbkniaaGreatDoorPFnExactTokensOfx1
namespace Go.Proofs.YtfkanlbmgbkniaaGreatDoor.PFnExactTokensOf
open Go.RowKit Go.Proofs.YtfkanlbmgbkniaaGreatDoorW.PrintWords Go.Proofs.YtfkanlbmgbkniaaGreatDoorW.PrintLast Go.Proofs.YtfkanlbmgbkniaaGreatDoorW.PrintMore
attribute [local go_sem] max2_int min2_int max_two min_two max_three min_three max_four min_four
set_option linter.unusedVariables false
set_option linter.unusedSimpArgs false
def spec_l04Name.l0:Nat→ByteArray→Int→Int→Option (ByteArray × Int)
 | 0,_,_,_=>none
 | k+1,x0,x1,x6=>if x6<(x0.size:Int) then (if 0≤x6 then ((spec_l04Blank.f (bt x0 x6)).bind fun t143=>(if t143=true then (if 0≤x1 then (if x1≤x6 then (if x6≤(x0.size:Int) then ((spec_l01Lower.f k (x0.extract (x1:Int).toNat (x6:Int).toNat)).bind fun t144=>(some (t144,x6))) else (none)) else (none)) else (none)) else (if (bt x0 x6)=47 then (if 0≤x1 then (if x1≤x6 then (if x6≤(x0.size:Int) then ((spec_l01Lower.f k (x0.extract (x1:Int).toNat (x6:Int).toNat)).bind fun t145=>(some (t145,x6))) else (none)) else (none)) else (none)) else (if (bt x0 x6)=62 then (if 0≤x1 then (if x1≤x6 then (if x6≤(x0.size:Int) then ((spec_l01Lower.f k (x0.extract (x1:Int).toNat (x6:Int).toNat)).bind fun t146=>(some (t146,x6))) else (none)) else (none)) else (none)) else (spec_l04Name.l0 k x0 x1 (wrap64 (x6+1))))))) else (none)) else (if 0≤x1 then (if x1≤x6 then (if x6≤(x0.size:Int) then ((spec_l01Lower.f k (x0.extract (x1:Int).toNat (x6:Int).toNat)).bind fun t147=>(some (t147,x6))) else (none)) else (none)) else (none))
def spec_l04Name.f (k:Nat) (a0:ByteArray) (a1:Int):Option (ByteArray × Int):=spec_l04Name.l0 k a0 a1 a1
theorem spec_l04Name.mono_l:∀ k,(∀ y0 y1 y2,LeO (spec_l04Name.l0 k y0 y1 y2) (spec_l04Name.l0 (k+1) y0 y1 y2))
 | 0=>fun _ _ _ r h=>by simp [spec_l04Name.l0] at h
 | k+1=>by
  have ih0:=spec_l04Name.mono_l k
  ·intro y0 y1 y2
   unfold spec_l04Name.l0
   repeat' first|(with_reducible first|exact ih0 ..|exact spec_l01Lower.mono ..|exact LeO.refl _|exact LeO.none _|refine LeO.ite ?_ ?_|refine LeO.bind ?_ (fun _=>?_))|exact ih0 ..|exact LeO.none _|refine LeO.ite ?_ ?_|refine LeO.bind ?_ (fun _=>?_)
theorem spec_l04Name.mono:∀ a0 a1 k,LeO (spec_l04Name.f k a0 a1) (spec_l04Name.f (k+1) a0 a1):=by
 intro a0 a1 k
 have ih0:=spec_l04Name.mono_l k
 unfold spec_l04Name.f
 repeat' first|(with_reducible first|exact ih0 ..|exact spec_l01Lower.mono ..|exact LeO.refl _|exact LeO.none _|refine LeO.ite ?_ ?_|refine LeO.bind ?_ (fun _=>?_))|exact ih0 ..|exact LeO.none _|refine LeO.ite ?_ ?_|refine LeO.bind ?_ (fun _=>?_)
set_option maxHeartbeats 8000000 in
set_option maxRecDepth 100000 in
theorem spec_l04Name.calls (k:Nat) (a0:ByteArray) (a1:Int) (r1:ByteArray) (r2:Int) (w:World) (h:spec_l04Name.f k a0 a1=some (r1,r2)) :
 Calls Tryz.prog 53 #[.string a0,.int .i64 a1] w fun e w'=>e=.returned (.tuple #[.string r1,.int .i64 r2])∧Below w.heap.size w w':=by
 have HB:=A_ (Below.refl w.heap.size w)
 have H:(spec_l04Name.l0 k a0 a1 a1)=some (r1,r2):=h
 clear h
 have H':=A_ H
 clear H
 go_enter Tryz.func53,Tryz.ntmps53
 go_wp2
 go_loopg [6] k (fun kq v6 w'=>∃ (x6_1:Int),v6=.int .i64 x6_1∧Aside0 (spec_l04Name.l0 kq a0 a1 x6_1=some (r1,r2))∧Aside0 (kq≤k)∧Aside0 (Below w.heap.size w w'))
 case atStart=>exact ⟨(a1),rs_,H',⟨Nat.le_refl _⟩,⟨bq0_ HB.out⟩⟩
 case round =>
  clear H'
  try clear p2
  obtain ⟨x6_1,rfl,HA,HK1,HB⟩:=hrel
  cases gk with
  | zero=>exact absurd HA.out (by simp [spec_l04Name.l0])
  | succ k1 =>
   have H:=HA.out
   clear HA
   simp only [spec_l04Name.l0] at H
   by_cases c3:x6_1<(a0.size:Int)
   ·rw [if_pos c3] at H
    have c3b0:decide (x6_1<(a0.size:Int))=true:=dt_ c3
    clear c3
    by_cases c4:0≤x6_1
    ·rw [if_pos c4] at H
     have c4b0:decide (0≤x6_1)=true:=dt_ c4
     clear c4
     replace H:=ob_ H
     obtain ⟨t143,A60,H⟩:=H
     replace H:(if t143=true then (if 0≤a1 then (if a1≤x6_1 then (if x6_1≤(a0.size:Int) then ((spec_l01Lower.f k1 (a0.extract (a1:Int).toNat (x6_1:Int).toNat)).bind fun t144=>(some (t144,x6_1))) else (none)) else (none)) else (none)) else (if (bt a0 x6_1)=47 then (if 0≤a1 then (if a1≤x6_1 then (if x6_1≤(a0.size:Int) then ((spec_l01Lower.f k1 (a0.extract (a1:Int).toNat (x6_1:Int).toNat)).bind fun t145=>(some (t145,x6_1))) else (none)) else (none)) else (none)) else (if (bt a0 x6_1)=62 then (if 0≤a1 then (if a1≤x6_1 then (if x6_1≤(a0.size:Int) then ((spec_l01Lower.f k1 (a0.extract (a1:Int).toNat (x6_1:Int).toNat)).bind fun t146=>(some (t146,x6_1))) else (none)) else (none)) else (none)) else (spec_l04Name.l0 k1 a0 a1 (wrap64 (x6_1+1))))))=some (r1,r2):=H
     have A6:=A_ A60
     clear A60
     by_cases c7:t143=true
     ·subst c7
      have H1:(if 0≤a1 then (if a1≤x6_1 then (if x6_1≤(a0.size:Int) then ((spec_l01Lower.f k1 (a0.extract (a1:Int).toNat (x6_1:Int).toNat)).bind fun t144=>(some (t144,x6_1))) else (none)) else (none)) else (none))=some (r1,r2):=by rw [if_pos rfl] at H;exact H
      clear H
      have H:=H1
      clear H1
      by_cases c8:0≤a1
      ·rw [if_pos c8] at H
       have c8b0:=eq_true c8
       have c8b1:decide (0≤a1)=true:=dt_ c8
       clear c8
       by_cases c9:a1≤x6_1
       ·rw [if_pos c9] at H
        have c9b0:=eq_true c9
        have c9b1:decide (a1≤x6_1)=true:=dt_ c9
        clear c9
        by_cases c10:x6_1≤(a0.size:Int)
        ·rw [if_pos c10] at H
         have c10b0:=eq_true c10
         have c10b1:decide (x6_1≤(a0.size:Int))=true:=dt_ c10
         clear c10
         replace H:=ob_ H
         obtain ⟨t144,A110,H⟩:=H
         replace H:(some (t144,x6_1))=some (r1,r2):=H
         have A11:=A_ A110
         clear A110
         simp only [Option.some.injEq,Prod.mk.injEq] at H
         obtain ⟨rfl,rfl⟩:=H
         have p5:0≤(x6_1:Int):=oa_
         have q5:x6_1<(a0.size:Int):=oa_
         have hx5:=bt_at a0 x6_1
         replace p5:=eq_true p5
         replace q5:=eq_true q5
         go_wp2_with (first|(go_at_call 51;(with_reducible refine (spec_l04Blank.calls (bt a0 x6_1) true _ A6.out).mono ?_);rintro e w' ⟨rfl,⟨nd,rfl⟩⟩)|((with_reducible refine gate_callee (f:=50) rfl ?_);refine gl_ (some 37) rfl rfl Tryz.func50 (by kernel_rfl) rfl #[.string (a0.extract (a1:Int).toNat (x6_1:Int).toNat)] rfl  ?_;(with_reducible refine (spec_l01Lower.calls k1 (a0.extract (a1:Int).toNat (x6_1:Int).toNat) t144 _ A11.out).mono ?_);rintro e w12 ⟨rfl,hb⟩;refine ⟨_,rfl,?_⟩;have n0_:=A_ (bp_ (bq0_ HB.out) hb);clear HB;have HB:=n0_;clear n0_;(try clear hb);(try clear hb2);(try clear hk);(try clear hi)))
         go_ret2
         exact ⟨by first|rfl|(simp [errW_none,errW_some] <;> rfl)|(simp [*,errW_none,errW_some] <;> rfl),bq0_ HB.out⟩
        ·rw [if_neg c10] at H
         exact absurd H (by simp)
       ·rw [if_neg c9] at H
        exact absurd H (by simp)
      ·rw [if_neg c8] at H
       exact absurd H (by simp)
     ·replace c7:=bm_ c7
      subst c7
      have H1:(if (bt a0 x6_1)=47 then (if 0≤a1 then (if a1≤x6_1 then (if x6_1≤(a0.size:Int) then ((spec_l01Lower.f k1 (a0.extract (a1:Int).toNat (x6_1:Int).toNat)).bind fun t145=>(some (t145,x6_1))) else (none)) else (none)) else (none)) else (if (bt a0 x6_1)=62 then (if 0≤a1 then (if a1≤x6_1 then (if x6_1≤(a0.size:Int) then ((spec_l01Lower.f k1 (a0.extract (a1:Int).toNat (x6_1:Int).toNat)).bind fun t146=>(some (t146,x6_1))) else (none)) else (none)) else (none)) else (spec_l04Name.l0 k1 a0 a1 (wrap64 (x6_1+1)))))=some (r1,r2):=by rw [if_neg (show ¬ (false=true) by decide)] at H;exact H
      clear H
      have H:=H1
      clear H1
      by_cases c14:(bt a0 x6_1)=47
      ·rw [if_pos c14] at H
       have c14b0:((bt a0 x6_1) == 47)=true:=beq_iff_eq.mpr c14
       have c14b1:((bt a0 x6_1) != 47)=false:=bne_eq_false_iff_eq.mpr c14
       clear c14
       by_cases c15:0≤a1
       ·rw [if_pos c15] at H
        have c15b0:=eq_true c15
        have c15b1:decide (0≤a1)=true:=dt_ c15
        clear c15
        by_cases c16:a1≤x6_1
        ·rw [if_pos c16] at H
         have c16b0:=eq_true c16
         have c16b1:decide (a1≤x6_1)=true:=dt_ c16
         clear c16
         by_cases c17:x6_1≤(a0.size:Int)
         ·rw [if_pos c17] at H
          have c17b0:=eq_true c17
          have c17b1:decide (x6_1≤(a0.size:Int))=true:=dt_ c17
          clear c17
          replace H:=ob_ H
          obtain ⟨t145,A180,H⟩:=H
          replace H:(some (t145,x6_1))=some (r1,r2):=H
          have A18:=A_ A180
          clear A180
          simp only [Option.some.injEq,Prod.mk.injEq] at H
          obtain ⟨rfl,rfl⟩:=H
          have p5:0≤(x6_1:Int):=oa_
          have q5:x6_1<(a0.size:Int):=oa_
          have hx5:=bt_at a0 x6_1
          replace p5:=eq_true p5
          replace q5:=eq_true q5
          go_wp2_with (first|(go_at_call 51;(with_reducible refine (spec_l04Blank.calls (bt a0 x6_1) false _ A6.out).mono ?_);rintro e w' ⟨rfl,⟨nd,rfl⟩⟩;have p13:0≤(x6_1:Int):=oa_;have q13:x6_1<(a0.size:Int):=oa_;have hx13:=bt_at a0 x6_1;replace p13:=eq_true p13;replace q13:=eq_true q13)|((with_reducible refine gate_callee (f:=50) rfl ?_);refine gl_ (some 37) rfl rfl Tryz.func50 (by kernel_rfl) rfl #[.string (a0.extract (a1:Int).toNat (x6_1:Int).toNat)] rfl  ?_;(with_reducible refine (spec_l01Lower.calls k1 (a0.extract (a1:Int).toNat (x6_1:Int).toNat) t145 _ A18.out).mono ?_);rintro e w19 ⟨rfl,hb⟩;refine ⟨_,rfl,?_⟩;have n0_:=A_ (bp_ (bq0_ HB.out) hb);clear HB;have HB:=n0_;clear n0_;(try clear hb);(try clear hb2);(try clear hk);(try clear hi)))
          go_ret2
          exact ⟨by first|rfl|(simp [errW_none,errW_some] <;> rfl)|(simp [*,errW_none,errW_some] <;> rfl),bq0_ HB.out⟩
         ·rw [if_neg c17] at H
          exact absurd H (by simp)
        ·rw [if_neg c16] at H
         exact absurd H (by simp)
       ·rw [if_neg c15] at H
        exact absurd H (by simp)
      ·rw [if_neg c14] at H
       have c14b0:((bt a0 x6_1) == 47)=false:=beq_eq_false_iff_ne.mpr c14
       have c14b1:((bt a0 x6_1) != 47)=true:=bne_iff_ne.mpr c14
       by_cases c21:(bt a0 x6_1)=62
       ·rw [if_pos c21] at H
        have c21b0:((bt a0 x6_1) == 62)=true:=beq_iff_eq.mpr c21
        have c21b1:((bt a0 x6_1) != 62)=false:=bne_eq_false_iff_eq.mpr c21
        clear c21
        by_cases c22:0≤a1
        ·rw [if_pos c22] at H
         have c22b0:=eq_true c22
         have c22b1:decide (0≤a1)=true:=dt_ c22
         clear c22
         by_cases c23:a1≤x6_1
         ·rw [if_pos c23] at H
          have c23b0:=eq_true c23
          have c23b1:decide (a1≤x6_1)=true:=dt_ c23
          clear c23
          by_cases c24:x6_1≤(a0.size:Int)
          ·rw [if_pos c24] at H
           have c24b0:=eq_true c24
           have c24b1:decide (x6_1≤(a0.size:Int))=true:=dt_ c24
           clear c24
           replace H:=ob_ H
           obtain ⟨t146,A250,H⟩:=H
           replace H:(some (t146,x6_1))=some (r1,r2):=H
           have A25:=A_ A250
           clear A250
           simp only [Option.some.injEq,Prod.mk.injEq] at H
           obtain ⟨rfl,rfl⟩:=H
           have p5:0≤(x6_1:Int):=oa_
           have q5:x6_1<(a0.size:Int):=oa_
           have hx5:=bt_at a0 x6_1
           replace p5:=eq_true p5
           replace q5:=eq_true q5
           go_wp2_with (first|(go_at_call 51;(with_reducible refine (spec_l04Blank.calls (bt a0 x6_1) false _ A6.out).mono ?_);rintro e w' ⟨rfl,⟨nd,rfl⟩⟩;have p13:0≤(x6_1:Int):=oa_;have q13:x6_1<(a0.size:Int):=oa_;have hx13:=bt_at a0 x6_1;replace p13:=eq_true p13;replace q13:=eq_true q13;have p20:0≤(x6_1:Int):=oa_;have q20:x6_1<(a0.size:Int):=oa_;have hx20:=bt_at a0 x6_1;replace p20:=eq_true p20;replace q20:=eq_true q20)|((with_reducible refine gate_callee (f:=50) rfl ?_);refine gl_ (some 37) rfl rfl Tryz.func50 (by kernel_rfl) rfl #[.string (a0.extract (a1:Int).toNat (x6_1:Int).toNat)] rfl  ?_;(with_reducible refine (spec_l01Lower.calls k1 (a0.extract (a1:Int).toNat (x6_1:Int).toNat) t146 _ A25.out).mono ?_);rintro e w26 ⟨rfl,hb⟩;refine ⟨_,rfl,?_⟩;have n0_:=A_ (bp_ (bq0_ HB.out) hb);clear HB;have HB:=n0_;clear n0_;(try clear hb);(try clear hb2);(try clear hk);(try clear hi)))
           go_ret2
           exact ⟨by first|rfl|(simp [errW_none,errW_some] <;> rfl)|(simp [*,errW_none,errW_some] <;> rfl),bq0_ HB.out⟩
          ·rw [if_neg c24] at H
           exact absurd H (by simp)
         ·rw [if_neg c23] at H
          exact absurd H (by simp)
        ·rw [if_neg c22] at H
         exact absurd H (by simp)
       ·rw [if_neg c21] at H
        have c21b0:((bt a0 x6_1) == 62)=false:=beq_eq_false_iff_ne.mpr c21
        have c21b1:((bt a0 x6_1) != 62)=true:=bne_iff_ne.mpr c21
        have H':=A_ H
        clear H
        have p5:0≤(x6_1:Int):=oa_
        have q5:x6_1<(a0.size:Int):=oa_
        have hx5:=bt_at a0 x6_1
        replace p5:=eq_true p5
        replace q5:=eq_true q5
        go_wp2_with (first|(go_at_call 51;(with_reducible refine (spec_l04Blank.calls (bt a0 x6_1) false _ A6.out).mono ?_);rintro e w' ⟨rfl,⟨nd,rfl⟩⟩;have p13:0≤(x6_1:Int):=oa_;have q13:x6_1<(a0.size:Int):=oa_;have hx13:=bt_at a0 x6_1;replace p13:=eq_true p13;replace q13:=eq_true q13;have p20:0≤(x6_1:Int):=oa_;have q20:x6_1<(a0.size:Int):=oa_;have hx20:=bt_at a0 x6_1;replace p20:=eq_true p20;replace q20:=eq_true q20))
        go_roundg k1
        case measure=>have:=HK1.out;omega
        case rel=>exact ⟨(wrap64 (x6_1+1)),rs_,H',⟨by have:=HK1.out;omega⟩,⟨bq0_ HB.out⟩⟩
    ·rw [if_neg c4] at H
     exact absurd H (by simp)
   ·rw [if_neg c3] at H
    have c3b0:decide (x6_1<(a0.size:Int))=false:=df_ c3
    clear c3
    by_cases c27:0≤a1
    ·rw [if_pos c27] at H
     have c27b0:=eq_true c27
     have c27b1:decide (0≤a1)=true:=dt_ c27
     clear c27
     by_cases c28:a1≤x6_1
     ·rw [if_pos c28] at H
      have c28b0:=eq_true c28
      have c28b1:decide (a1≤x6_1)=true:=dt_ c28
      clear c28
      by_cases c29:x6_1≤(a0.size:Int)
      ·rw [if_pos c29] at H
       have c29b0:=eq_true c29
       have c29b1:decide (x6_1≤(a0.size:Int))=true:=dt_ c29
       clear c29
       replace H:=ob_ H
       obtain ⟨t147,A300,H⟩:=H
       replace H:(some (t147,x6_1))=some (r1,r2):=H
       have A30:=A_ A300
       clear A300
       simp only [Option.some.injEq,Prod.mk.injEq] at H
       obtain ⟨rfl,rfl⟩:=H
       go_wp2_with (first|((with_reducible refine gate_callee (f:=50) rfl ?_);refine gl_ (some 37) rfl rfl Tryz.func50 (by kernel_rfl) rfl #[.string (a0.extract (a1:Int).toNat (x6_1:Int).toNat)] rfl  ?_;(with_reducible refine (spec_l01Lower.calls k1 (a0.extract (a1:Int).toNat (x6_1:Int).toNat) t147 _ A30.out).mono ?_);rintro e w31 ⟨rfl,hb⟩;refine ⟨_,rfl,?_⟩;have n0_:=A_ (bp_ (bq0_ HB.out) hb);clear HB;have HB:=n0_;clear n0_;(try clear hb);(try clear hb2);(try clear hk);(try clear hi)))
       go_ret2
       exact ⟨by first|rfl|(simp [errW_none,errW_some] <;> rfl)|(simp [*,errW_none,errW_some] <;> rfl),bq0_ HB.out⟩
      ·rw [if_neg c29] at H
       exact absurd H (by simp)
     ·rw [if_neg c28] at H
      exact absurd H (by simp)
    ·rw [if_neg c27] at H
     exact absurd H (by simp)
def spec_l04Find.l0:Nat→ByteArray→ByteArray→Int→Option (Int × Bool)
 | 0,_,_,_=>none
 | k+1,x0,x1,x8=>if (wrap64 (x8+(x1.size:Int)))≤(x0.size:Int) then (if 0≤x8 then (if x8≤(wrap64 (x8+(x1.size:Int))) then (if (x0.extract (x8:Int).toNat ((wrap64 (x8+(x1.size:Int))):Int).toNat).toList=x1.toList then (some (x8,true)) else (spec_l04Find.l0 k x0 x1 (wrap64 (x8+1)))) else (none)) else (none)) else (some ((x0.size:Int),false))
def spec_l04Find.f (k:Nat) (a0:ByteArray) (a1:ByteArray) (a2:Int):Option (Int × Bool):=spec_l04Find.l0 k a0 a1 a2
theorem spec_l04Find.mono_l:∀ k,(∀ y0 y1 y2,LeO (spec_l04Find.l0 k y0 y1 y2) (spec_l04Find.l0 (k+1) y0 y1 y2))
 | 0=>fun _ _ _ r h=>by simp [spec_l04Find.l0] at h
 | k+1=>by
  have ih0:=spec_l04Find.mono_l k
  ·intro y0 y1 y2
   unfold spec_l04Find.l0
   repeat' first|(with_reducible first|exact ih0 ..|exact LeO.refl _|exact LeO.none _|refine LeO.ite ?_ ?_|refine LeO.bind ?_ (fun _=>?_))|exact ih0 ..|exact LeO.none _|refine LeO.ite ?_ ?_|refine LeO.bind ?_ (fun _=>?_)
theorem spec_l04Find.mono:∀ a0 a1 a2 k,LeO (spec_l04Find.f k a0 a1 a2) (spec_l04Find.f (k+1) a0 a1 a2):=by
 intro a0 a1 a2 k
 have ih0:=spec_l04Find.mono_l k
 unfold spec_l04Find.f
 repeat' first|(with_reducible first|exact ih0 ..|exact LeO.refl _|exact LeO.none _|refine LeO.ite ?_ ?_|refine LeO.bind ?_ (fun _=>?_))|exact ih0 ..|exact LeO.none _|refine LeO.ite ?_ ?_|refine LeO.bind ?_ (fun _=>?_)
set_option maxHeartbeats 8000000 in
set_option maxRecDepth 100000 in
theorem spec_l04Find.calls (k:Nat) (a0:ByteArray) (a1:ByteArray) (a2:Int) (r1:Int) (r2:Bool) (w:World) (h:spec_l04Find.f k a0 a1 a2=some (r1,r2)) :
 Calls Tryz.prog 56 #[.string a0,.string a1,.int .i64 a2] w fun e w'=>e=.returned (.tuple #[.int .i64 r1,.bool r2])∧Drawn0 w w':=by
 have H:(spec_l04Find.l0 k a0 a1 a2)=some (r1,r2):=h
 clear h
 have H':=A_ H
 clear H
 go_enter Tryz.func56,Tryz.ntmps56
 go_wp2
 go_loopg [8] k (fun kq v8 w'=>∃ (x8_1:Int),v8=.int .i64 x8_1∧Aside0 (spec_l04Find.l0 kq a0 a1 x8_1=some (r1,r2))∧Aside0 (kq≤k)∧Drawn0 w w')
 case atStart=>exact ⟨(a2),rs_,H',⟨Nat.le_refl _⟩,by repeat (first|exact dr_ _|apply dp_)⟩
 case round =>
  clear H'
  try clear p2
  obtain ⟨x8_1,rfl,HA,HK1,⟨m1,rfl⟩⟩:=hrel
  cases gk with
  | zero=>exact absurd HA.out (by simp [spec_l04Find.l0])
  | succ k1 =>
   have H:=HA.out
   clear HA
   simp only [spec_l04Find.l0] at H
   by_cases c4:(wrap64 (x8_1+(a1.size:Int)))≤(a0.size:Int)
   ·rw [if_pos c4] at H
    have c4b0:decide ((wrap64 (x8_1+(a1.size:Int)))≤(a0.size:Int))=true:=dt_ c4
    clear c4
    by_cases c5:0≤x8_1
    ·rw [if_pos c5] at H
     have c5b0:=eq_true c5
     have c5b1:decide (0≤x8_1)=true:=dt_ c5
     clear c5
     by_cases c6:x8_1≤(wrap64 (x8_1+(a1.size:Int)))
     ·rw [if_pos c6] at H
      have c6b0:=eq_true c6
      have c6b1:decide (x8_1≤(wrap64 (x8_1+(a1.size:Int))))=true:=dt_ c6
      have c7b0:=eq_true (oa_:(wrap64 (x8_1+(a1.size:Int)))≤(a0.size:Int))
      by_cases c8:(a0.extract (x8_1:Int).toNat ((wrap64 (x8_1+(a1.size:Int))):Int).toNat).toList=a1.toList
      ·rw [if_pos c8] at H
       have c8b0:((a0.extract (x8_1:Int).toNat ((wrap64 (x8_1+(a1.size:Int))):Int).toNat).toList == a1.toList)=true:=beq_iff_eq.mpr c8
       have c8b1:((a0.extract (x8_1:Int).toNat ((wrap64 (x8_1+(a1.size:Int))):Int).toNat).toList != a1.toList)=false:=bne_eq_false_iff_eq.mpr c8
       clear c8
       simp only [Option.some.injEq,Prod.mk.injEq] at H
       obtain ⟨rfl,rfl⟩:=H
       go_wp2
       go_ret2
       exact ⟨by first|rfl|(simp;done)|(simp [*];done),by repeat (first|exact dr_ _|apply dp_)⟩
      ·rw [if_neg c8] at H
       have c8b0:((a0.extract (x8_1:Int).toNat ((wrap64 (x8_1+(a1.size:Int))):Int).toNat).toList == a1.toList)=false:=beq_eq_false_iff_ne.mpr c8
       have c8b1:((a0.extract (x8_1:Int).toNat ((wrap64 (x8_1+(a1.size:Int))):Int).toNat).toList != a1.toList)=true:=bne_iff_ne.mpr c8
       have H':=A_ H
       clear H
       go_wp2
       go_roundg k1
       case measure=>have:=HK1.out;omega
       case rel=>exact ⟨(wrap64 (x8_1+1)),rs_,H',⟨by have:=HK1.out;omega⟩,by repeat (first|exact dr_ _|apply dp_)⟩
     ·rw [if_neg c6] at H
      exact absurd H (by simp)
    ·rw [if_neg c5] at H
     exact absurd H (by simp)
   ·rw [if_neg c4] at H
    have c4b0:decide ((wrap64 (x8_1+(a1.size:Int)))≤(a0.size:Int))=false:=df_ c4
    clear c4
    simp only [Option.some.injEq,Prod.mk.injEq] at H
    obtain ⟨rfl,rfl⟩:=H
    go_wp2
    go_ret2
    exact ⟨by first|rfl|(simp;done)|(simp [*];done),by repeat (first|exact dr_ _|apply dp_)⟩
end Go.Proofs.YtfkanlbmgbkniaaGreatDoor.PFnExactTokensOf
