/- The machine side of a law, printed by a program. No conditions. -/
import Derived.Test.YtfkanlbmgbkniaaGreatDoorPFnExactTokensOfx0
import Derived.Test.YtfkanlbmgbkniaaGreatDoorPFnExactTokensOfx12
namespace Go.Proofs.YtfkanlbmgbkniaaGreatDoor.PFnExactTokensOf
open Go.RowKit Go.Proofs.YtfkanlbmgbkniaaGreatDoorW.PrintWords Go.Proofs.YtfkanlbmgbkniaaGreatDoorW.PrintLast Go.Proofs.YtfkanlbmgbkniaaGreatDoorW.PrintMore
attribute [local go_sem] max2_int min2_int max_two min_two max_three min_three max_four min_four
set_option linter.unusedVariables false
set_option linter.unusedSimpArgs false
def impl_rawEnd.l0:Nat→ByteArray→ByteArray→Int→Option (Int)
 | 0,_,_,_=>none
 | k+1,x0,x2,x7=>if (wrap64 ((wrap64 (x7+2))+(x2.size:Int)))<(x0.size:Int) then (if 0≤(wrap64 ((wrap64 (x7+2))+(x2.size:Int))) then (if 0≤x7 then (if x7<(x0.size:Int) then (if (bt x0 x7)=60 then (if 0≤(wrap64 (x7+1)) then (if (wrap64 (x7+1))<(x0.size:Int) then (if (bt x0 (wrap64 (x7+1)))=47 then (if 0≤(wrap64 (x7+2)) then (if (wrap64 (x7+2))≤(wrap64 ((wrap64 (x7+2))+(x2.size:Int))) then (if (wrap64 ((wrap64 (x7+2))+(x2.size:Int)))≤(x0.size:Int) then ((impl_lower.f (x0.extract ((wrap64 (x7+2)):Int).toNat ((wrap64 ((wrap64 (x7+2))+(x2.size:Int))):Int).toNat)).bind fun t285=>(if t285.toList=x2.toList then ((impl_isBlank.f (bt x0 (wrap64 ((wrap64 (x7+2))+(x2.size:Int))))).bind fun t286=>(if t286=true then (some x7) else (if (bt x0 (wrap64 ((wrap64 (x7+2))+(x2.size:Int))))=47 then (some x7) else (if (bt x0 (wrap64 ((wrap64 (x7+2))+(x2.size:Int))))=62 then (some x7) else (impl_rawEnd.l0 k x0 x2 (wrap64 (x7+1))))))) else (impl_rawEnd.l0 k x0 x2 (wrap64 (x7+1))))) else (none)) else (none)) else (none)) else (impl_rawEnd.l0 k x0 x2 (wrap64 (x7+1)))) else (none)) else (none)) else (impl_rawEnd.l0 k x0 x2 (wrap64 (x7+1)))) else (none)) else (none)) else (none)) else (some (x0.size:Int))
def impl_rawEnd.f (k:Nat) (a0:ByteArray) (a1:Int) (a2:ByteArray):Option (Int):=impl_rawEnd.l0 k a0 a2 a1
theorem impl_rawEnd.mono_l:∀ k,(∀ y0 y1 y2,LeO (impl_rawEnd.l0 k y0 y1 y2) (impl_rawEnd.l0 (k+1) y0 y1 y2))
 | 0=>fun _ _ _ r h=>by simp [impl_rawEnd.l0] at h
 | k+1=>by
  have ih0:=impl_rawEnd.mono_l k
  ·intro y0 y1 y2
   unfold impl_rawEnd.l0
   repeat' first|(with_reducible first|exact ih0 ..|exact LeO.refl _|exact LeO.none _|refine LeO.ite ?_ ?_|refine LeO.bind ?_ (fun _=>?_))|exact ih0 ..|exact LeO.none _|refine LeO.ite ?_ ?_|refine LeO.bind ?_ (fun _=>?_)
theorem impl_rawEnd.mono:∀ a0 a1 a2 k,LeO (impl_rawEnd.f k a0 a1 a2) (impl_rawEnd.f (k+1) a0 a1 a2):=by
 intro a0 a1 a2 k
 have ih0:=impl_rawEnd.mono_l k
 unfold impl_rawEnd.f
 repeat' first|(with_reducible first|exact ih0 ..|exact LeO.refl _|exact LeO.none _|refine LeO.ite ?_ ?_|refine LeO.bind ?_ (fun _=>?_))|exact ih0 ..|exact LeO.none _|refine LeO.ite ?_ ?_|refine LeO.bind ?_ (fun _=>?_)
set_option maxHeartbeats 8000000 in
set_option maxRecDepth 100000 in
theorem impl_rawEnd.calls (k:Nat) (a0:ByteArray) (a1:Int) (a2:ByteArray) (r:Int) (w:World) (h:impl_rawEnd.f k a0 a1 a2=some r) :
 Calls Tryz.prog 39 #[.string a0,.int .i64 a1,.string a2] w fun e w'=>e=.returned (.int .i64 r)∧Below w.heap.size w w':=by
 have HB:=A_ (Below.refl w.heap.size w)
 have H:(impl_rawEnd.l0 k a0 a2 a1)=some r:=h
 clear h
 have H':=A_ H
 clear H
 go_enter Tryz.func39,Tryz.ntmps39
 go_wp2
 go_loopg [7] k (fun kq v7 w'=>∃ (x7_1:Int),v7=.int .i64 x7_1∧Aside0 (impl_rawEnd.l0 kq a0 a2 x7_1=some r)∧Aside0 (kq≤k)∧Aside0 (Below w.heap.size w w'))
 case atStart=>exact ⟨(a1),rs_,H',⟨Nat.le_refl _⟩,⟨bq0_ HB.out⟩⟩
 case round =>
  clear H'
  try clear p2
  try clear c3
  obtain ⟨x7_1,rfl,HA,HK1,HB⟩:=hrel
  cases gk with
  | zero=>exact absurd HA.out (by simp [impl_rawEnd.l0])
  | succ k1 =>
   have H:=HA.out
   clear HA
   simp only [impl_rawEnd.l0] at H
   by_cases c4:(wrap64 ((wrap64 (x7_1+2))+(a2.size:Int)))<(a0.size:Int)
   ·rw [if_pos c4] at H
    have c4b0:decide ((wrap64 ((wrap64 (x7_1+2))+(a2.size:Int)))<(a0.size:Int))=true:=dt_ c4
    clear c4
    obtain ⟨ji5,hji5⟩:∃ j_:Int,(wrap64 ((wrap64 (x7_1+2))+(a2.size:Int)))=j_:=⟨_,rfl⟩
    replace H:(if 0≤(ji5) then (if 0≤x7_1 then (if x7_1<(a0.size:Int) then (if (bt a0 x7_1)=60 then (if 0≤(wrap64 (x7_1+1)) then (if (wrap64 (x7_1+1))<(a0.size:Int) then (if (bt a0 (wrap64 (x7_1+1)))=47 then (if 0≤(wrap64 (x7_1+2)) then (if (wrap64 (x7_1+2))≤(ji5) then (if (ji5)≤(a0.size:Int) then ((impl_lower.f (a0.extract ((wrap64 (x7_1+2)):Int).toNat ((ji5):Int).toNat)).bind fun t285=>(if t285.toList=a2.toList then ((impl_isBlank.f (bt a0 (ji5))).bind fun t286=>(if t286=true then (some x7_1) else (if (bt a0 (ji5))=47 then (some x7_1) else (if (bt a0 (ji5))=62 then (some x7_1) else (impl_rawEnd.l0 k1 a0 a2 (wrap64 (x7_1+1))))))) else (impl_rawEnd.l0 k1 a0 a2 (wrap64 (x7_1+1))))) else (none)) else (none)) else (none)) else (impl_rawEnd.l0 k1 a0 a2 (wrap64 (x7_1+1)))) else (none)) else (none)) else (impl_rawEnd.l0 k1 a0 a2 (wrap64 (x7_1+1)))) else (none)) else (none)) else (none))=some r:=by first|(rw [hji5] at H;exact H)|(simp only [hji5] at H ⊢;exact H)
    (try rw [hji5] at c4b0)
    have hji5w:(IntKind.i64.wrap ((wrap64 (x7_1+2))+(a2.size:Int)))=ji5:=(i64_w _).trans hji5
    by_cases c6:0≤(ji5)
    ·rw [if_pos c6] at H
     have c6b0:decide (0≤(ji5))=true:=dt_ c6
     clear c6
     by_cases c8:0≤x7_1
     ·rw [if_pos c8] at H
      have c8b0:decide (0≤x7_1)=true:=dt_ c8
      clear c8
      by_cases c9:x7_1<(a0.size:Int)
      ·rw [if_pos c9] at H
       have c9b0:decide (x7_1<(a0.size:Int))=true:=dt_ c9
       clear c9
       by_cases c11:(bt a0 x7_1)=60
       ·rw [if_pos c11] at H
        have c11b0:((bt a0 x7_1) == 60)=true:=beq_iff_eq.mpr c11
        have c11b1:((bt a0 x7_1) != 60)=false:=bne_eq_false_iff_eq.mpr c11
        clear c11
        obtain ⟨ji12,hji12⟩:∃ j_:Int,(wrap64 (x7_1+1))=j_:=⟨_,rfl⟩
        replace H:(if 0≤(ji12) then (if (ji12)<(a0.size:Int) then (if (bt a0 (ji12))=47 then (if 0≤(wrap64 (x7_1+2)) then (if (wrap64 (x7_1+2))≤(ji5) then (if (ji5)≤(a0.size:Int) then ((impl_lower.f (a0.extract ((wrap64 (x7_1+2)):Int).toNat ((ji5):Int).toNat)).bind fun t285=>(if t285.toList=a2.toList then ((impl_isBlank.f (bt a0 (ji5))).bind fun t286=>(if t286=true then (some x7_1) else (if (bt a0 (ji5))=47 then (some x7_1) else (if (bt a0 (ji5))=62 then (some x7_1) else (impl_rawEnd.l0 k1 a0 a2 ji12))))) else (impl_rawEnd.l0 k1 a0 a2 ji12))) else (none)) else (none)) else (none)) else (impl_rawEnd.l0 k1 a0 a2 ji12)) else (none)) else (none))=some r:=by first|(rw [hji12] at H;exact H)|(simp only [hji12] at H ⊢;exact H)
        have hji12w:(IntKind.i64.wrap (x7_1+1))=ji12:=(i64_w _).trans hji12
        (try rw [hji12] at hji5w)
        by_cases c13:0≤(ji12)
        ·rw [if_pos c13] at H
         have c13b0:decide (0≤(ji12))=true:=dt_ c13
         clear c13
         by_cases c14:(ji12)<(a0.size:Int)
         ·rw [if_pos c14] at H
          have c14b0:decide ((ji12)<(a0.size:Int))=true:=dt_ c14
          clear c14
          by_cases c16:(bt a0 (ji12))=47
          ·rw [if_pos c16] at H
           have c16b0:((bt a0 (ji12)) == 47)=true:=beq_iff_eq.mpr c16
           have c16b1:((bt a0 (ji12)) != 47)=false:=bne_eq_false_iff_eq.mpr c16
           clear c16
           obtain ⟨ji17,hji17⟩:∃ j_:Int,(wrap64 (x7_1+2))=j_:=⟨_,rfl⟩
           replace H:(if 0≤(ji17) then (if (ji17)≤(ji5) then (if (ji5)≤(a0.size:Int) then ((impl_lower.f (a0.extract ((ji17):Int).toNat ((ji5):Int).toNat)).bind fun t285=>(if t285.toList=a2.toList then ((impl_isBlank.f (bt a0 (ji5))).bind fun t286=>(if t286=true then (some x7_1) else (if (bt a0 (ji5))=47 then (some x7_1) else (if (bt a0 (ji5))=62 then (some x7_1) else (impl_rawEnd.l0 k1 a0 a2 ji12))))) else (impl_rawEnd.l0 k1 a0 a2 ji12))) else (none)) else (none)) else (none))=some r:=by first|(rw [hji17] at H;exact H)|(simp only [hji17] at H ⊢;exact H)
           (try rw [hji17] at c4b0)
           have hji17w:(IntKind.i64.wrap (x7_1+2))=ji17:=(i64_w _).trans hji17
           (try rw [hji17] at hji5w)
           (try rw [hji17] at hji12w)
           by_cases c18:0≤(ji17)
           ·rw [if_pos c18] at H
            have c18b0:=eq_true c18
            have c18b1:decide (0≤(ji17))=true:=dt_ c18
            clear c18
            by_cases c19:(ji17)≤(ji5)
            ·rw [if_pos c19] at H
             have c19b0:=eq_true c19
             have c19b1:decide ((ji17)≤(ji5))=true:=dt_ c19
             clear c19
             by_cases c20:(ji5)≤(a0.size:Int)
             ·rw [if_pos c20] at H
              have c20b0:=eq_true c20
              have c20b1:decide ((ji5)≤(a0.size:Int))=true:=dt_ c20
              clear c20
              replace H:=ob_ H
              obtain ⟨t285,A210,H⟩:=H
              replace H:(if t285.toList=a2.toList then ((impl_isBlank.f (bt a0 (ji5))).bind fun t286=>(if t286=true then (some x7_1) else (if (bt a0 (ji5))=47 then (some x7_1) else (if (bt a0 (ji5))=62 then (some x7_1) else (impl_rawEnd.l0 k1 a0 a2 ji12))))) else (impl_rawEnd.l0 k1 a0 a2 ji12))=some r:=H
              have A21:=A_ A210
              clear A210
              by_cases c22:t285.toList=a2.toList
              ·rw [if_pos c22] at H
               have c22b0:(t285.toList == a2.toList)=true:=beq_iff_eq.mpr c22
               have c22b1:(t285.toList != a2.toList)=false:=bne_eq_false_iff_eq.mpr c22
               clear c22
               replace H:=ob_ H
               obtain ⟨t286,A230,H⟩:=H
               replace H:(if t286=true then (some x7_1) else (if (bt a0 (ji5))=47 then (some x7_1) else (if (bt a0 (ji5))=62 then (some x7_1) else (impl_rawEnd.l0 k1 a0 a2 ji12))))=some r:=H
               have A23:=A_ A230
               clear A230
               by_cases c24:t286=true
               ·subst c24
                have H1:(some x7_1)=some r:=by rw [if_pos rfl] at H;exact H
                clear H
                have H:=H1
                clear H1
                obtain rfl:=oi_ H
                have p7:0≤((ji5):Int):=oa_
                have q7:(ji5)<(a0.size:Int):=oa_
                have hx7:=bt_at a0 (ji5)
                replace p7:=eq_true p7
                replace q7:=eq_true q7
                have p10:0≤(x7_1:Int):=oa_
                have q10:x7_1<(a0.size:Int):=oa_
                have hx10:=bt_at a0 x7_1
                replace p10:=eq_true p10
                replace q10:=eq_true q10
                have p15:0≤((ji12):Int):=oa_
                have q15:(ji12)<(a0.size:Int):=oa_
                have hx15:=bt_at a0 (ji12)
                replace p15:=eq_true p15
                replace q15:=eq_true q15
                go_wp2_with (first|(go_at_call 58;(with_reducible refine (impl_lower.calls (a0.extract ((ji17):Int).toNat ((ji5):Int).toNat) t285 _ A21.out).mono ?_);rintro e w25 ⟨rfl,hb⟩;have n0_:=A_ (bp_ (bq0_ HB.out) hb);clear HB;have HB:=n0_;clear n0_;(try clear hb);(try clear hb2);(try clear hk);(try clear hi))|(go_at_call 59;(with_reducible refine (impl_isBlank.calls (bt a0 (ji5)) true _ A23.out).mono ?_);rintro e w' ⟨rfl,⟨nd,rfl⟩⟩))
                go_ret
                exact ⟨by first|rfl|(simp [errW_none,errW_some] <;> rfl)|(simp only [←hji5,←hji12,←hji17];first|rfl|(simp [errW_none,errW_some] <;> rfl))|(simp [*,errW_none,errW_some] <;> rfl),bq0_ HB.out⟩
               ·replace c24:=bm_ c24
                subst c24
                have H1:(if (bt a0 (ji5))=47 then (some x7_1) else (if (bt a0 (ji5))=62 then (some x7_1) else (impl_rawEnd.l0 k1 a0 a2 ji12)))=some r:=by rw [if_neg (show ¬ (false=true) by decide)] at H;exact H
                clear H
                have H:=H1
                clear H1
                by_cases c26:(bt a0 (ji5))=47
                ·rw [if_pos c26] at H
                 have c26b0:((bt a0 (ji5)) == 47)=true:=beq_iff_eq.mpr c26
                 have c26b1:((bt a0 (ji5)) != 47)=false:=bne_eq_false_iff_eq.mpr c26
                 clear c26
                 obtain rfl:=oi_ H
                 have p7:0≤((ji5):Int):=oa_
                 have q7:(ji5)<(a0.size:Int):=oa_
                 have hx7:=bt_at a0 (ji5)
                 replace p7:=eq_true p7
                 replace q7:=eq_true q7
                 have p10:0≤(x7_1:Int):=oa_
                 have q10:x7_1<(a0.size:Int):=oa_
                 have hx10:=bt_at a0 x7_1
                 replace p10:=eq_true p10
                 replace q10:=eq_true q10
                 have p15:0≤((ji12):Int):=oa_
                 have q15:(ji12)<(a0.size:Int):=oa_
                 have hx15:=bt_at a0 (ji12)
                 replace p15:=eq_true p15
                 replace q15:=eq_true q15
                 go_wp2_with (first|(go_at_call 58;(with_reducible refine (impl_lower.calls (a0.extract ((ji17):Int).toNat ((ji5):Int).toNat) t285 _ A21.out).mono ?_);rintro e w27 ⟨rfl,hb⟩;have n0_:=A_ (bp_ (bq0_ HB.out) hb);clear HB;have HB:=n0_;clear n0_;(try clear hb);(try clear hb2);(try clear hk);(try clear hi))|(go_at_call 59;(with_reducible refine (impl_isBlank.calls (bt a0 (ji5)) false _ A23.out).mono ?_);rintro e w' ⟨rfl,⟨nd,rfl⟩⟩))
                 go_ret
                 exact ⟨by first|rfl|(simp [errW_none,errW_some] <;> rfl)|(simp only [←hji5,←hji12,←hji17];first|rfl|(simp [errW_none,errW_some] <;> rfl))|(simp [*,errW_none,errW_some] <;> rfl),bq0_ HB.out⟩
                ·rw [if_neg c26] at H
                 have c26b0:((bt a0 (ji5)) == 47)=false:=beq_eq_false_iff_ne.mpr c26
                 have c26b1:((bt a0 (ji5)) != 47)=true:=bne_iff_ne.mpr c26
                 by_cases c28:(bt a0 (ji5))=62
                 ·rw [if_pos c28] at H
                  have c28b0:((bt a0 (ji5)) == 62)=true:=beq_iff_eq.mpr c28
                  have c28b1:((bt a0 (ji5)) != 62)=false:=bne_eq_false_iff_eq.mpr c28
                  clear c28
                  obtain rfl:=oi_ H
                  have p7:0≤((ji5):Int):=oa_
                  have q7:(ji5)<(a0.size:Int):=oa_
                  have hx7:=bt_at a0 (ji5)
                  replace p7:=eq_true p7
                  replace q7:=eq_true q7
                  have p10:0≤(x7_1:Int):=oa_
                  have q10:x7_1<(a0.size:Int):=oa_
                  have hx10:=bt_at a0 x7_1
                  replace p10:=eq_true p10
                  replace q10:=eq_true q10
                  have p15:0≤((ji12):Int):=oa_
                  have q15:(ji12)<(a0.size:Int):=oa_
                  have hx15:=bt_at a0 (ji12)
                  replace p15:=eq_true p15
                  replace q15:=eq_true q15
                  go_wp2_with (first|(go_at_call 58;(with_reducible refine (impl_lower.calls (a0.extract ((ji17):Int).toNat ((ji5):Int).toNat) t285 _ A21.out).mono ?_);rintro e w29 ⟨rfl,hb⟩;have n0_:=A_ (bp_ (bq0_ HB.out) hb);clear HB;have HB:=n0_;clear n0_;(try clear hb);(try clear hb2);(try clear hk);(try clear hi))|(go_at_call 59;(with_reducible refine (impl_isBlank.calls (bt a0 (ji5)) false _ A23.out).mono ?_);rintro e w' ⟨rfl,⟨nd,rfl⟩⟩))
                  go_ret
                  exact ⟨by first|rfl|(simp [errW_none,errW_some] <;> rfl)|(simp only [←hji5,←hji12,←hji17];first|rfl|(simp [errW_none,errW_some] <;> rfl))|(simp [*,errW_none,errW_some] <;> rfl),bq0_ HB.out⟩
                 ·rw [if_neg c28] at H
                  have c28b0:((bt a0 (ji5)) == 62)=false:=beq_eq_false_iff_ne.mpr c28
                  have c28b1:((bt a0 (ji5)) != 62)=true:=bne_iff_ne.mpr c28
                  have H':=A_ H
                  clear H
                  have p7:0≤((ji5):Int):=oa_
                  have q7:(ji5)<(a0.size:Int):=oa_
                  have hx7:=bt_at a0 (ji5)
                  replace p7:=eq_true p7
                  replace q7:=eq_true q7
                  have p10:0≤(x7_1:Int):=oa_
                  have q10:x7_1<(a0.size:Int):=oa_
                  have hx10:=bt_at a0 x7_1
                  replace p10:=eq_true p10
                  replace q10:=eq_true q10
                  have p15:0≤((ji12):Int):=oa_
                  have q15:(ji12)<(a0.size:Int):=oa_
                  have hx15:=bt_at a0 (ji12)
                  replace p15:=eq_true p15
                  replace q15:=eq_true q15
                  go_wp2_with (first|(go_at_call 58;(with_reducible refine (impl_lower.calls (a0.extract ((ji17):Int).toNat ((ji5):Int).toNat) t285 _ A21.out).mono ?_);rintro e w30 ⟨rfl,hb⟩;have n0_:=A_ (bp_ (bq0_ HB.out) hb);clear HB;have HB:=n0_;clear n0_;(try clear hb);(try clear hb2);(try clear hk);(try clear hi))|(go_at_call 59;(with_reducible refine (impl_isBlank.calls (bt a0 (ji5)) false _ A23.out).mono ?_);rintro e w' ⟨rfl,⟨nd,rfl⟩⟩))
                  go_roundg k1
                  case measure=>have:=HK1.out;omega
                  case rel=>exact ⟨(ji12),(by first|rfl|(simp;done)|(simp only [←hji12] <;> (first|rfl|simp))|(simp [*];done)),H',⟨by have:=HK1.out;omega⟩,⟨bq0_ HB.out⟩⟩
              ·rw [if_neg c22] at H
               have c22b0:(t285.toList == a2.toList)=false:=beq_eq_false_iff_ne.mpr c22
               have c22b1:(t285.toList != a2.toList)=true:=bne_iff_ne.mpr c22
               have H':=A_ H
               clear H
               have p7:0≤((ji5):Int):=oa_
               have q7:(ji5)<(a0.size:Int):=oa_
               have hx7:=bt_at a0 (ji5)
               replace p7:=eq_true p7
               replace q7:=eq_true q7
               have p10:0≤(x7_1:Int):=oa_
               have q10:x7_1<(a0.size:Int):=oa_
               have hx10:=bt_at a0 x7_1
               replace p10:=eq_true p10
               replace q10:=eq_true q10
               have p15:0≤((ji12):Int):=oa_
               have q15:(ji12)<(a0.size:Int):=oa_
               have hx15:=bt_at a0 (ji12)
               replace p15:=eq_true p15
               replace q15:=eq_true q15
               go_wp2_with (first|(go_at_call 58;(with_reducible refine (impl_lower.calls (a0.extract ((ji17):Int).toNat ((ji5):Int).toNat) t285 _ A21.out).mono ?_);rintro e w31 ⟨rfl,hb⟩;have n0_:=A_ (bp_ (bq0_ HB.out) hb);clear HB;have HB:=n0_;clear n0_;(try clear hb);(try clear hb2);(try clear hk);(try clear hi)))
               go_roundg k1
               case measure=>have:=HK1.out;omega
               case rel=>exact ⟨(ji12),(by first|rfl|(simp;done)|(simp only [←hji12] <;> (first|rfl|simp))|(simp [*];done)),H',⟨by have:=HK1.out;omega⟩,⟨bq0_ HB.out⟩⟩
             ·rw [if_neg c20] at H
              exact absurd H (by simp)
            ·rw [if_neg c19] at H
             exact absurd H (by simp)
           ·rw [if_neg c18] at H
            exact absurd H (by simp)
          ·rw [if_neg c16] at H
           have c16b0:((bt a0 (ji12)) == 47)=false:=beq_eq_false_iff_ne.mpr c16
           have c16b1:((bt a0 (ji12)) != 47)=true:=bne_iff_ne.mpr c16
           have H':=A_ H
           clear H
           have p7:0≤((ji5):Int):=oa_
           have q7:(ji5)<(a0.size:Int):=oa_
           have hx7:=bt_at a0 (ji5)
           replace p7:=eq_true p7
           replace q7:=eq_true q7
           have p10:0≤(x7_1:Int):=oa_
           have q10:x7_1<(a0.size:Int):=oa_
           have hx10:=bt_at a0 x7_1
           replace p10:=eq_true p10
           replace q10:=eq_true q10
           have p15:0≤((ji12):Int):=oa_
           have q15:(ji12)<(a0.size:Int):=oa_
           have hx15:=bt_at a0 (ji12)
           replace p15:=eq_true p15
           replace q15:=eq_true q15
           go_wp2
           go_roundg k1
           case measure=>have:=HK1.out;omega
           case rel=>exact ⟨(ji12),(by first|rfl|(simp;done)|(simp only [←hji12] <;> (first|rfl|simp))|(simp [*];done)),H',⟨by have:=HK1.out;omega⟩,⟨bq0_ HB.out⟩⟩
         ·rw [if_neg c14] at H
          exact absurd H (by simp)
        ·rw [if_neg c13] at H
         exact absurd H (by simp)
       ·rw [if_neg c11] at H
        have c11b0:((bt a0 x7_1) == 60)=false:=beq_eq_false_iff_ne.mpr c11
        have c11b1:((bt a0 x7_1) != 60)=true:=bne_iff_ne.mpr c11
        have H':=A_ H
        clear H
        have p7:0≤((ji5):Int):=oa_
        have q7:(ji5)<(a0.size:Int):=oa_
        have hx7:=bt_at a0 (ji5)
        replace p7:=eq_true p7
        replace q7:=eq_true q7
        have p10:0≤(x7_1:Int):=oa_
        have q10:x7_1<(a0.size:Int):=oa_
        have hx10:=bt_at a0 x7_1
        replace p10:=eq_true p10
        replace q10:=eq_true q10
        go_wp2
        go_roundg k1
        case measure=>have:=HK1.out;omega
        case rel=>exact ⟨(wrap64 (x7_1+1)),rs_,H',⟨by have:=HK1.out;omega⟩,⟨bq0_ HB.out⟩⟩
      ·rw [if_neg c9] at H
       exact absurd H (by simp)
     ·rw [if_neg c8] at H
      exact absurd H (by simp)
    ·rw [if_neg c6] at H
     exact absurd H (by simp)
   ·rw [if_neg c4] at H
    have c4b0:decide ((wrap64 ((wrap64 (x7_1+2))+(a2.size:Int)))<(a0.size:Int))=false:=df_ c4
    clear c4
    obtain rfl:=oi_ H
    go_wp2
    go_ret
    exact ⟨by first|rfl|(simp [errW_none,errW_some] <;> rfl)|(simp [*,errW_none,errW_some] <;> rfl),bq0_ HB.out⟩
def impl_isSmall.f (a0:Int):Option (Bool):=if a0≥97 then (some (decide (a0≤122))) else (some false)
set_option maxHeartbeats 8000000 in
set_option maxRecDepth 100000 in
theorem impl_isSmall.calls (a0:Int) (r:Bool) (w:World) (h:impl_isSmall.f a0=some r) :
 Calls Tryz.prog 37 #[.int .u8 a0] w fun e w'=>e=.returned (.bool r)∧Drawn0 w w':=by
 have H:(if a0≥97 then (some (decide (a0≤122))) else (some false))=some r:=h
 clear h
 by_cases c2:a0≥97
 ·rw [if_pos c2] at H
  have c2b0:decide (97≤a0)=true:=dt_ c2
  clear c2
  obtain rfl:=oi_ H
  go_enter Tryz.func37,Tryz.ntmps37
  go_wp2
  go_ret
  exact ⟨by first|rfl|(simp;done)|(simp [*];done),by repeat (first|exact dr_ _|apply dp_)⟩
 ·rw [if_neg c2] at H
  have c2b0:decide (97≤a0)=false:=df_ c2
  clear c2
  obtain rfl:=oi_ H
  go_enter Tryz.func37,Tryz.ntmps37
  go_wp2
  go_ret
  exact ⟨by first|rfl|(simp;done)|(simp [*];done),by repeat (first|exact dr_ _|apply dp_)⟩
def impl_isLetter.f (a0:Int):Option (Bool):=(impl_isSmall.f a0).bind fun t287=>(if t287=true then (some true) else (if a0≥65 then (some (decide (a0≤90))) else (some false)))
set_option maxHeartbeats 8000000 in
set_option maxRecDepth 100000 in
theorem impl_isLetter.calls (a0:Int) (r:Bool) (w:World) (h:impl_isLetter.f a0=some r) :
 Calls Tryz.prog 40 #[.int .u8 a0] w fun e w'=>e=.returned (.bool r)∧Drawn0 w w':=by
 have H:((impl_isSmall.f a0).bind fun t287=>(if t287=true then (some true) else (if a0≥65 then (some (decide (a0≤90))) else (some false))))=some r:=h
 clear h
 replace H:=ob_ H
 obtain ⟨t287,A20,H⟩:=H
 replace H:(if t287=true then (some true) else (if a0≥65 then (some (decide (a0≤90))) else (some false)))=some r:=H
 have A2:=A_ A20
 clear A20
 by_cases c3:t287=true
 ·subst c3
  have H1:(some true)=some r:=by rw [if_pos rfl] at H;exact H
  clear H
  have H:=H1
  clear H1
  obtain rfl:=oi_ H
  go_enter Tryz.func40,Tryz.ntmps40
  go_wp2_with (first|((with_reducible refine gate_callee (f:=37) rfl ?_);refine gl_ (some 4) rfl rfl Tryz.func37 (by kernel_rfl) rfl #[.int .u8 a0] rfl  ?_;(with_reducible refine (impl_isSmall.calls a0 true _ A2.out).mono ?_);rintro e w' ⟨rfl,⟨nd,rfl⟩⟩;refine ⟨_,rfl,?_⟩))
  go_ret
  exact ⟨by first|rfl|(simp;done)|(simp [*];done),by repeat (first|exact dr_ _|apply dp_)⟩
 ·replace c3:=bm_ c3
  subst c3
  have H1:(if a0≥65 then (some (decide (a0≤90))) else (some false))=some r:=by rw [if_neg (show ¬ (false=true) by decide)] at H;exact H
  clear H
  have H:=H1
  clear H1
  by_cases c4:a0≥65
  ·rw [if_pos c4] at H
   have c4b0:decide (65≤a0)=true:=dt_ c4
   clear c4
   obtain rfl:=oi_ H
   go_enter Tryz.func40,Tryz.ntmps40
   go_wp2_with (first|((with_reducible refine gate_callee (f:=37) rfl ?_);refine gl_ (some 4) rfl rfl Tryz.func37 (by kernel_rfl) rfl #[.int .u8 a0] rfl  ?_;(with_reducible refine (impl_isSmall.calls a0 false _ A2.out).mono ?_);rintro e w' ⟨rfl,⟨nd,rfl⟩⟩;refine ⟨_,rfl,?_⟩))
   go_ret
   exact ⟨by first|rfl|(simp;done)|(simp [*];done),by repeat (first|exact dr_ _|apply dp_)⟩
  ·rw [if_neg c4] at H
   have c4b0:decide (65≤a0)=false:=df_ c4
   clear c4
   obtain rfl:=oi_ H
   go_enter Tryz.func40,Tryz.ntmps40
   go_wp2_with (first|((with_reducible refine gate_callee (f:=37) rfl ?_);refine gl_ (some 4) rfl rfl Tryz.func37 (by kernel_rfl) rfl #[.int .u8 a0] rfl  ?_;(with_reducible refine (impl_isSmall.calls a0 false _ A2.out).mono ?_);rintro e w' ⟨rfl,⟨nd,rfl⟩⟩;refine ⟨_,rfl,?_⟩))
   go_ret
   exact ⟨by first|rfl|(simp;done)|(simp [*];done),by repeat (first|exact dr_ _|apply dp_)⟩
def impl_within.f (a0:Int) (a1:Int) (a2:Int):Option (Bool):=if a0≥a1 then (some (decide (a0≤a2))) else (some false)
set_option maxHeartbeats 8000000 in
set_option maxRecDepth 100000 in
theorem impl_within.calls (a0:Int) (a1:Int) (a2:Int) (r:Bool) (w:World) (h:impl_within.f a0 a1 a2=some r) :
 Calls Tryz.prog 19 #[.int .i64 a0,.int .i64 a1,.int .i64 a2] w fun e w'=>e=.returned (.bool r)∧Drawn0 w w':=by
 have H:(if a0≥a1 then (some (decide (a0≤a2))) else (some false))=some r:=h
 clear h
 by_cases c4:a0≥a1
 ·rw [if_pos c4] at H
  have c4b0:decide (a1≤a0)=true:=dt_ c4
  clear c4
  obtain rfl:=oi_ H
  go_enter Tryz.func19,Tryz.ntmps19
  go_wp2
  go_ret
  exact ⟨by first|rfl|(simp;done)|(simp [*];done),by repeat (first|exact dr_ _|apply dp_)⟩
 ·rw [if_neg c4] at H
  have c4b0:decide (a1≤a0)=false:=df_ c4
  clear c4
  obtain rfl:=oi_ H
  go_enter Tryz.func19,Tryz.ntmps19
  go_wp2
  go_ret
  exact ⟨by first|rfl|(simp;done)|(simp [*];done),by repeat (first|exact dr_ _|apply dp_)⟩
theorem impl_within.pure (n a b:Int) (W:World):Calls Tryz.prog 19 #[.int .i64 n,.int .i64 a,.int .i64 b] W fun e w'=>e=.returned (.bool (decide (a≤n∧n≤b)))∧Drawn0 W w':=by
 refine impl_within.calls n a b _ W ?_
 unfold impl_within.f
 by_cases h:n≥a
 ·rw [if_pos h];simp [h]
 ·rw [if_neg h];simp;omega
def impl_isDigit.f (a0:Int):Option (Bool):=if a0≥48 then (some (decide (a0≤57))) else (some false)
set_option maxHeartbeats 8000000 in
set_option maxRecDepth 100000 in
theorem impl_isDigit.calls (a0:Int) (r:Bool) (w:World) (h:impl_isDigit.f a0=some r) :
 Calls Tryz.prog 38 #[.int .u8 a0] w fun e w'=>e=.returned (.bool r)∧Drawn0 w w':=by
 have H:(if a0≥48 then (some (decide (a0≤57))) else (some false))=some r:=h
 clear h
 by_cases c2:a0≥48
 ·rw [if_pos c2] at H
  have c2b0:decide (48≤a0)=true:=dt_ c2
  clear c2
  obtain rfl:=oi_ H
  go_enter Tryz.func38,Tryz.ntmps38
  go_wp2
  go_ret
  exact ⟨by first|rfl|(simp;done)|(simp [*];done),by repeat (first|exact dr_ _|apply dp_)⟩
 ·rw [if_neg c2] at H
  have c2b0:decide (48≤a0)=false:=df_ c2
  clear c2
  obtain rfl:=oi_ H
  go_enter Tryz.func38,Tryz.ntmps38
  go_wp2
  go_ret
  exact ⟨by first|rfl|(simp;done)|(simp [*];done),by repeat (first|exact dr_ _|apply dp_)⟩
end Go.Proofs.YtfkanlbmgbkniaaGreatDoor.PFnExactTokensOf
