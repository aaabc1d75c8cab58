/- By a program of this session, out of the kit's print and contracts made by hand: the machine side of a law; Lean checks it. No conditions. -/
import Derived.Test.YtfkanlbmgbkniaaGreatDoorPFnExactNextTokenx0
import Derived.Test.YtfkanlbmgbkniaaGreatDoorPFnExactNextTokenx2
namespace Go.Proofs.YtfkanlbmgbkniaaGreatDoor.PFnExactNextToken
open Go.RowKit Go.Proofs.YtfkanlbmgbkniaaGreatDoorW.PrintWords Go.Proofs.YtfkanlbmgbkniaaGreatDoorW.PrintLast Go.Proofs.YtfkanlbmgbkniaaGreatDoorW.PrintMore
attribute [local go_sem] max2_int min2_int max_two min_two max_three min_three max_four min_four
set_option linter.unusedVariables false
set_option linter.unusedSimpArgs false
/-! ### spec_l04RawEnd: function 29 -/
mutual
def spec_l04RawEnd.l0:Nat→ByteArray→ByteArray→Int→Option (Int)
 | 0,_,_,_=>none
 | k+1,x0,x2,x7=>if (wrap64 ((wrap64 (x7+2))+(x2.size:Int)))<(x0.size:Int) then (if 0≤x7 then (if x7<(x0.size:Int) then (if (bt x0 x7)=60 then (if 0≤(wrap64 (x7+1)) then (if (wrap64 (x7+1))<(x0.size:Int) then (if (bt x0 (wrap64 (x7+1)))=47 then (if 0≤(wrap64 (x7+2)) then (if (wrap64 (x7+2))≤(wrap64 ((wrap64 (x7+2))+(x2.size:Int))) then (if (wrap64 ((wrap64 (x7+2))+(x2.size:Int)))≤(x0.size:Int) then ((spec_l01Lower.f k (x0.extract ((wrap64 (x7+2)):Int).toNat ((wrap64 ((wrap64 (x7+2))+(x2.size:Int))):Int).toNat)).bind fun t116=>(spec_l04RawEnd.j1 k x0 x2 x7 (t116.toList == x2.toList))) else (none)) else (none)) else (none)) else (spec_l04RawEnd.j1 k x0 x2 x7 false)) else (none)) else (none)) else (spec_l04RawEnd.j1 k x0 x2 x7 false)) else (none)) else (none)) else (some (x0.size:Int))
def spec_l04RawEnd.j1:Nat→ByteArray→ByteArray→Int→Bool→Option (Int)
 | 0,_,_,_,_=>none
 | k+1,x0,x2,x7,x44=>if x44=true then (if 0≤(wrap64 ((wrap64 (x7+2))+(x2.size:Int))) then (if (wrap64 ((wrap64 (x7+2))+(x2.size:Int)))<(x0.size:Int) then ((spec_l04Blank.f (bt x0 (wrap64 ((wrap64 (x7+2))+(x2.size:Int))))).bind fun t117=>(if t117=true then (some x7) else (if (bt x0 (wrap64 ((wrap64 (x7+2))+(x2.size:Int))))=47 then (some x7) else (if (bt x0 (wrap64 ((wrap64 (x7+2))+(x2.size:Int))))=62 then (some x7) else (spec_l04RawEnd.l0 k x0 x2 (wrap64 (x7+1))))))) else (none)) else (none)) else (spec_l04RawEnd.l0 k x0 x2 (wrap64 (x7+1)))
end
def spec_l04RawEnd.f (k:Nat) (a0:ByteArray) (a1:Int) (a2:ByteArray):Option (Int):=spec_l04RawEnd.l0 k a0 a2 a1
theorem spec_l04RawEnd.mono_l:∀ k,(∀ y0 y1 y2,LeO (spec_l04RawEnd.l0 k y0 y1 y2) (spec_l04RawEnd.l0 (k+1) y0 y1 y2))∧(∀ y0 y1 y2 y3,LeO (spec_l04RawEnd.j1 k y0 y1 y2 y3) (spec_l04RawEnd.j1 (k+1) y0 y1 y2 y3))
 | 0=>⟨fun _ _ _ r h=>by simp [spec_l04RawEnd.l0] at h,fun _ _ _ _ r h=>by simp [spec_l04RawEnd.j1] at h⟩
 | k+1=>by
  obtain ⟨ih0,ih1⟩:=spec_l04RawEnd.mono_l k
  refine ⟨?_,?_⟩
  ·intro y0 y1 y2
   unfold spec_l04RawEnd.l0
   repeat' first
   | (with_reducible exact ih0 _ _ _)
   | (with_reducible exact ih1 _ _ _ _)
   | (with_reducible exact spec_l01Lower.mono _ _)
   | (with_reducible exact LeO.refl _)
   | (with_reducible exact LeO.none _)
   | (with_reducible refine LeO.ite ?_ ?_)
   | (with_reducible refine LeO.bind ?_ (fun _=>?_))
   | exact ih0 _ _ _
   | exact ih1 _ _ _ _
   | exact spec_l01Lower.mono _ _
   | exact LeO.none _
   | refine LeO.ite ?_ ?_
   | refine LeO.bind ?_ (fun _=>?_)
  ·intro y0 y1 y2 y3
   unfold spec_l04RawEnd.j1
   repeat' first
   | (with_reducible exact ih0 _ _ _)
   | (with_reducible exact ih1 _ _ _ _)
   | (with_reducible exact spec_l01Lower.mono _ _)
   | (with_reducible exact LeO.refl _)
   | (with_reducible exact LeO.none _)
   | (with_reducible refine LeO.ite ?_ ?_)
   | (with_reducible refine LeO.bind ?_ (fun _=>?_))
   | exact ih0 _ _ _
   | exact ih1 _ _ _ _
   | exact spec_l01Lower.mono _ _
   | exact LeO.none _
   | refine LeO.ite ?_ ?_
   | refine LeO.bind ?_ (fun _=>?_)
theorem spec_l04RawEnd.mono:∀ a0 a1 a2 k,LeO (spec_l04RawEnd.f k a0 a1 a2) (spec_l04RawEnd.f (k+1) a0 a1 a2):=by
 intro a0 a1 a2 k
 obtain ⟨ih0,ih1⟩:=spec_l04RawEnd.mono_l k
 unfold spec_l04RawEnd.f
 repeat' first
  | (with_reducible exact ih0 _ _ _)
  | (with_reducible exact ih1 _ _ _ _)
  | (with_reducible exact spec_l01Lower.mono _ _)
  | (with_reducible exact LeO.refl _)
  | (with_reducible exact LeO.none _)
  | (with_reducible refine LeO.ite ?_ ?_)
  | (with_reducible refine LeO.bind ?_ (fun _=>?_))
  | exact ih0 _ _ _
  | exact ih1 _ _ _ _
  | exact spec_l01Lower.mono _ _
  | exact LeO.none _
  | refine LeO.ite ?_ ?_
  | refine LeO.bind ?_ (fun _=>?_)
set_option maxHeartbeats 8000000 in
set_option maxRecDepth 100000 in
theorem spec_l04RawEnd.calls (k:Nat) (a0:ByteArray) (a1:Int) (a2:ByteArray) (r:Int) (w:World) (h:spec_l04RawEnd.f k a0 a1 a2=some r) :
 Calls Tryz.prog 29 #[.string a0,.int .i64 a1,.string a2] w fun e w'=>e=.returned (.int .i64 r)∧Below w.heap.size w w':=by
 have HB:=A_ (Below.refl w.heap.size w)
 have H:(spec_l04RawEnd.l0 k a0 a2 a1)=some r:=h
 clear h
 have H':=A_ H
 clear H
 go_enter Tryz.func29,Tryz.ntmps29
 go_wp2
 go_loopg [7] k (fun kq v7 w'=>∃ (x7_1:Int),v7=.int .i64 x7_1∧Aside0 (spec_l04RawEnd.l0 kq a0 a2 x7_1=some r)∧Aside0 (kq≤k)∧Aside0 (Below w.heap.size w w'))
 case atStart=>exact ⟨(a1),(by first|rfl|(simp;done)|(simp [*];done)),H',⟨Nat.le_refl _⟩,⟨bq0_ HB.out⟩⟩
 case round =>
  clear H'
  try clear c2
  try clear p2
  obtain ⟨x7_1,rfl,HA,HK1,HB⟩:=hrel
  cases gk with
  | zero=>exact absurd HA.out (by simp [spec_l04RawEnd.l0])
  | succ k1 =>
   have H:=HA.out
   clear HA
   simp only [spec_l04RawEnd.l0] at H
   by_cases c4:(wrap64 ((wrap64 (x7_1+2))+(a2.size:Int)))<(a0.size:Int)
   ·rw [if_pos c4] at H
    have c4b0:decide ((wrap64 ((wrap64 (x7_1+2))+(a2.size:Int)))<(a0.size:Int))=true:=dt_ c4
    clear c4
    have HC5:=A_ H
    clear H
    go_upto_region 4 with (fail)
    go_cut [44] (fun v44 wc=>∃ (kq:Nat) (x44_4:Bool),v44=.bool x44_4∧Aside0 (spec_l04RawEnd.j1 kq a0 a2 x7_1 x44_4=some r)∧Aside0 (kq≤k1)∧Aside0 (Below w.heap.size w wc))
    case first =>
     have H:=HC5.out
     clear HC5
     by_cases c6:0≤x7_1
     ·rw [if_pos c6] at H
      have c6b0:decide (0≤x7_1)=true:=dt_ c6
      clear c6
      (first|rw [c6b0]|(simp only [i64_w,i32_w];rw [c6b0])|skip)
      by_cases c7:x7_1<(a0.size:Int)
      ·rw [if_pos c7] at H
       have c7b0:decide (x7_1<(a0.size:Int))=true:=dt_ c7
       clear c7
       by_cases c9:(bt a0 x7_1)=60
       ·rw [if_pos c9] at H
        have c9b0:((bt a0 x7_1) == 60)=true:=beq_iff_eq.mpr c9
        have c9b1:((bt a0 x7_1) != 60)=false:=bne_eq_false_iff_eq.mpr c9
        clear c9
        obtain ⟨ji10,hji10⟩:∃ j_:Int,(wrap64 (x7_1+1))=j_:=⟨_,rfl⟩
        replace H:(if 0≤(ji10) then (if (ji10)<(a0.size:Int) then (if (bt a0 (ji10))=47 then (if 0≤(wrap64 (x7_1+2)) then (if (wrap64 (x7_1+2))≤(wrap64 ((wrap64 (x7_1+2))+(a2.size:Int))) then (if (wrap64 ((wrap64 (x7_1+2))+(a2.size:Int)))≤(a0.size:Int) then ((spec_l01Lower.f k1 (a0.extract ((wrap64 (x7_1+2)):Int).toNat ((wrap64 ((wrap64 (x7_1+2))+(a2.size:Int))):Int).toNat)).bind fun t116=>(spec_l04RawEnd.j1 k1 a0 a2 x7_1 (t116.toList == a2.toList))) else (none)) else (none)) else (none)) else (spec_l04RawEnd.j1 k1 a0 a2 x7_1 false)) else (none)) else (none))=some r:=by first|(rw [hji10] at H;exact H)|(simp only [hji10] at H ⊢;exact H)
        have hji10w:(IntKind.i64.wrap (x7_1+1))=ji10:=(i64_w _).trans hji10
        by_cases c11:0≤(ji10)
        ·rw [if_pos c11] at H
         have c11b0:decide (0≤(ji10))=true:=dt_ c11
         clear c11
         by_cases c12:(ji10)<(a0.size:Int)
         ·rw [if_pos c12] at H
          have c12b0:decide ((ji10)<(a0.size:Int))=true:=dt_ c12
          clear c12
          by_cases c14:(bt a0 (ji10))=47
          ·rw [if_pos c14] at H
           have c14b0:((bt a0 (ji10)) == 47)=true:=beq_iff_eq.mpr c14
           have c14b1:((bt a0 (ji10)) != 47)=false:=bne_eq_false_iff_eq.mpr c14
           clear c14
           obtain ⟨ji15,hji15⟩:∃ j_:Int,(wrap64 (x7_1+2))=j_:=⟨_,rfl⟩
           replace H:(if 0≤(ji15) then (if (ji15)≤(wrap64 ((ji15)+(a2.size:Int))) then (if (wrap64 ((ji15)+(a2.size:Int)))≤(a0.size:Int) then ((spec_l01Lower.f k1 (a0.extract ((ji15):Int).toNat ((wrap64 ((ji15)+(a2.size:Int))):Int).toNat)).bind fun t116=>(spec_l04RawEnd.j1 k1 a0 a2 x7_1 (t116.toList == a2.toList))) else (none)) else (none)) else (none))=some r:=by first|(rw [hji15] at H;exact H)|(simp only [hji15] at H ⊢;exact H)
           (try rw [hji15] at c4b0)
           have hji15w:(IntKind.i64.wrap (x7_1+2))=ji15:=(i64_w _).trans hji15
           (try rw [hji15] at hji10w)
           by_cases c16:0≤(ji15)
           ·rw [if_pos c16] at H
            have c16b0:=eq_true c16
            have c16b1:decide (0≤(ji15))=true:=dt_ c16
            clear c16
            by_cases c17:(ji15)≤(wrap64 ((ji15)+(a2.size:Int)))
            ·rw [if_pos c17] at H
             have c17b0:=eq_true c17
             have c17b1:decide ((ji15)≤(wrap64 ((ji15)+(a2.size:Int))))=true:=dt_ c17
             by_cases c18:(wrap64 ((ji15)+(a2.size:Int)))≤(a0.size:Int)
             ·rw [if_pos c18] at H
              have c18b0:=eq_true c18
              have c18b1:decide ((wrap64 ((ji15)+(a2.size:Int)))≤(a0.size:Int))=true:=dt_ c18
              replace H:=ob_ H
              obtain ⟨t116,A190,H⟩:=H
              replace H:(spec_l04RawEnd.j1 k1 a0 a2 x7_1 (t116.toList == a2.toList))=some r:=H
              have A19:=A_ A190
              clear A190
              have H':=A_ H
              clear H
              have p8:0≤(x7_1:Int):=oa_
              have q8:x7_1<(a0.size:Int):=oa_
              have hx8:=bt_at a0 x7_1
              replace p8:=eq_true p8
              replace q8:=eq_true q8
              have p13:0≤((ji10):Int):=oa_
              have q13:(ji10)<(a0.size:Int):=oa_
              have hx13:=bt_at a0 (ji10)
              replace p13:=eq_true p13
              replace q13:=eq_true q13
              go_wp2_with (first|(go_at_call 50;(with_reducible refine (spec_l01Lower.calls k1 (a0.extract ((ji15):Int).toNat ((wrap64 ((ji15)+(a2.size:Int))):Int).toNat) t116 _ A19.out).mono ?_);rintro e w20 ⟨rfl,hb⟩;have n0_:=A_ (bp_ (bq0_ HB.out) hb);clear HB;have HB:=n0_;clear n0_;(try clear hb);(try clear hb2);(try clear hk);(try clear hi)))
              go_meet
              case rel=>exact ⟨_,((t116.toList == a2.toList)),(by first|rfl|(simp;done)|(simp [*];done)),H',⟨by have:=HK1.out;first|omega|exact Nat.le_refl _⟩,⟨bq0_ HB.out⟩⟩
             ·rw [if_neg c18] at H
              exact absurd H (by simp)
            ·rw [if_neg c17] at H
             exact absurd H (by simp)
           ·rw [if_neg c16] at H
            exact absurd H (by simp)
          ·rw [if_neg c14] at H
           have c14b0:((bt a0 (ji10)) == 47)=false:=beq_eq_false_iff_ne.mpr c14
           have c14b1:((bt a0 (ji10)) != 47)=true:=bne_iff_ne.mpr c14
           have H':=A_ H
           clear H
           have p8:0≤(x7_1:Int):=oa_
           have q8:x7_1<(a0.size:Int):=oa_
           have hx8:=bt_at a0 x7_1
           replace p8:=eq_true p8
           replace q8:=eq_true q8
           have p13:0≤((ji10):Int):=oa_
           have q13:(ji10)<(a0.size:Int):=oa_
           have hx13:=bt_at a0 (ji10)
           replace p13:=eq_true p13
           replace q13:=eq_true q13
           go_wp2
           go_meet
           case rel=>exact ⟨_,(false),(by first|rfl|(simp;done)|(simp [*];done)),H',⟨by have:=HK1.out;first|omega|exact Nat.le_refl _⟩,⟨bq0_ HB.out⟩⟩
         ·rw [if_neg c12] at H
          exact absurd H (by simp)
        ·rw [if_neg c11] at H
         exact absurd H (by simp)
       ·rw [if_neg c9] at H
        have c9b0:((bt a0 x7_1) == 60)=false:=beq_eq_false_iff_ne.mpr c9
        have c9b1:((bt a0 x7_1) != 60)=true:=bne_iff_ne.mpr c9
        have H':=A_ H
        clear H
        have p8:0≤(x7_1:Int):=oa_
        have q8:x7_1<(a0.size:Int):=oa_
        have hx8:=bt_at a0 x7_1
        replace p8:=eq_true p8
        replace q8:=eq_true q8
        go_wp2
        go_meet
        case rel=>exact ⟨_,(false),(by first|rfl|(simp;done)|(simp [*];done)),H',⟨by have:=HK1.out;first|omega|exact Nat.le_refl _⟩,⟨bq0_ HB.out⟩⟩
      ·rw [if_neg c7] at H
       exact absurd H (by simp)
     ·rw [if_neg c6] at H
      exact absurd H (by simp)
    case rest =>
     clear HC5
     try clear c1
     try clear p1
     try clear q1
     try clear hx1
     try clear c2
     try clear p2
     try clear c4
     try clear c4b0
     try clear c6
     try clear c6b0
     try clear p6
     try clear c7
     try clear c7b0
     try clear p8
     try clear q8
     try clear hx8
     try clear c9
     try clear c9b0
     try clear c9b1
     try clear c11
     try clear c11b0
     try clear c12
     try clear c12b0
     try clear p13
     try clear q13
     try clear hx13
     try clear c14
     try clear c14b0
     try clear c14b1
     try clear c16
     try clear c16b0
     try clear c16b1
     try clear c17
     try clear c17b0
     try clear c17b1
     try clear c18
     try clear c18b0
     try clear c18b1
     try clear p13
     try clear p2
     try clear p8
     try clear q13
     try clear q8
     obtain ⟨kq,x44_4,rfl,HA,HJ4,HB⟩:=hcut
     cases kq with
     | zero=>exact absurd HA.out (by simp [spec_l04RawEnd.j1])
     | succ kj4 =>
      have H:=HA.out
      clear HA
      simp only [spec_l04RawEnd.j1] at H
      by_cases c21:x44_4=true
      ·subst c21
       have H1:(if 0≤(wrap64 ((wrap64 (x7_1+2))+(a2.size:Int))) then (if (wrap64 ((wrap64 (x7_1+2))+(a2.size:Int)))<(a0.size:Int) then ((spec_l04Blank.f (bt a0 (wrap64 ((wrap64 (x7_1+2))+(a2.size:Int))))).bind fun t117=>(if t117=true then (some x7_1) else (if (bt a0 (wrap64 ((wrap64 (x7_1+2))+(a2.size:Int))))=47 then (some x7_1) else (if (bt a0 (wrap64 ((wrap64 (x7_1+2))+(a2.size:Int))))=62 then (some x7_1) else (spec_l04RawEnd.l0 kj4 a0 a2 (wrap64 (x7_1+1))))))) else (none)) else (none))=some r:=by rw [if_pos rfl] at H;exact H
       clear H
       have H:=H1
       clear H1
       obtain ⟨ji22,hji22⟩:∃ j_:Int,(wrap64 ((wrap64 (x7_1+2))+(a2.size:Int)))=j_:=⟨_,rfl⟩
       replace H:(if 0≤(ji22) then (if (ji22)<(a0.size:Int) then ((spec_l04Blank.f (bt a0 (ji22))).bind fun t117=>(if t117=true then (some x7_1) else (if (bt a0 (ji22))=47 then (some x7_1) else (if (bt a0 (ji22))=62 then (some x7_1) else (spec_l04RawEnd.l0 kj4 a0 a2 (wrap64 (x7_1+1))))))) else (none)) else (none))=some r:=by first|(rw [hji22] at H;exact H)|(simp only [hji22] at H ⊢;exact H)
       (try rw [hji22] at c4b0)
       have hji22w:(IntKind.i64.wrap ((wrap64 (x7_1+2))+(a2.size:Int)))=ji22:=(i64_w _).trans hji22
       by_cases c23:0≤(ji22)
       ·rw [if_pos c23] at H
        have c23b0:decide (0≤(ji22))=true:=dt_ c23
        clear c23
        by_cases c24:(ji22)<(a0.size:Int)
        ·rw [if_pos c24] at H
         have c24b0:decide ((ji22)<(a0.size:Int))=true:=dt_ c24
         clear c24
         replace H:=ob_ H
         obtain ⟨t117,A260,H⟩:=H
         replace H:(if t117=true then (some x7_1) else (if (bt a0 (ji22))=47 then (some x7_1) else (if (bt a0 (ji22))=62 then (some x7_1) else (spec_l04RawEnd.l0 kj4 a0 a2 (wrap64 (x7_1+1))))))=some r:=H
         have A26:=A_ A260
         clear A260
         by_cases c27:t117=true
         ·subst c27
          have H1:(some x7_1)=some r:=by rw [if_pos rfl] at H;exact H
          clear H
          have H:=H1
          clear H1
          obtain rfl:=oi_ H
          have p25:0≤((ji22):Int):=oa_
          have q25:(ji22)<(a0.size:Int):=oa_
          have hx25:=bt_at a0 (ji22)
          replace p25:=eq_true p25
          replace q25:=eq_true q25
          go_wp2_with (first|((with_reducible refine gate_callee (f:=51) rfl ?_);refine goesL_ (some 53) rfl rfl Tryz.func51 (by kernel_rfl) rfl #[.int .u8 (bt a0 (ji22))] rfl (by (try simp only [List.map_toArray,List.map_cons,List.map_nil]);first|done|(simp only [hji22];rfl)|rfl|(simp only [ld_,lt_];rfl)) ?_;(with_reducible refine (spec_l04Blank.calls (bt a0 (ji22)) true _ A26.out).mono ?_);rintro e w' ⟨rfl,⟨nd,rfl⟩⟩;refine ⟨_,rfl,?_⟩))
          go_ret
          exact ⟨by first|rfl|(simp [errW_none,errW_some] <;> rfl)|(simp only [←hji22];first|rfl|(simp [errW_none,errW_some] <;> rfl))|(simp [*,errW_none,errW_some] <;> rfl),bq0_ HB.out⟩
         ·replace c27:=bm_ c27
          subst c27
          have H1:(if (bt a0 (ji22))=47 then (some x7_1) else (if (bt a0 (ji22))=62 then (some x7_1) else (spec_l04RawEnd.l0 kj4 a0 a2 (wrap64 (x7_1+1)))))=some r:=by rw [if_neg (show ¬ (false=true) by decide)] at H;exact H
          clear H
          have H:=H1
          clear H1
          by_cases c28:(bt a0 (ji22))=47
          ·rw [if_pos c28] at H
           have c28b0:((bt a0 (ji22)) == 47)=true:=beq_iff_eq.mpr c28
           have c28b1:((bt a0 (ji22)) != 47)=false:=bne_eq_false_iff_eq.mpr c28
           clear c28
           obtain rfl:=oi_ H
           have p25:0≤((ji22):Int):=oa_
           have q25:(ji22)<(a0.size:Int):=oa_
           have hx25:=bt_at a0 (ji22)
           replace p25:=eq_true p25
           replace q25:=eq_true q25
           go_wp2_with (first|((with_reducible refine gate_callee (f:=51) rfl ?_);refine goesL_ (some 53) rfl rfl Tryz.func51 (by kernel_rfl) rfl #[.int .u8 (bt a0 (ji22))] rfl (by (try simp only [List.map_toArray,List.map_cons,List.map_nil]);first|done|(simp only [hji22];rfl)|rfl|(simp only [ld_,lt_];rfl)) ?_;(with_reducible refine (spec_l04Blank.calls (bt a0 (ji22)) false _ A26.out).mono ?_);rintro e w' ⟨rfl,⟨nd,rfl⟩⟩;refine ⟨_,rfl,?_⟩))
           go_ret
           exact ⟨by first|rfl|(simp [errW_none,errW_some] <;> rfl)|(simp only [←hji22];first|rfl|(simp [errW_none,errW_some] <;> rfl))|(simp [*,errW_none,errW_some] <;> rfl),bq0_ HB.out⟩
          ·rw [if_neg c28] at H
           have c28b0:((bt a0 (ji22)) == 47)=false:=beq_eq_false_iff_ne.mpr c28
           have c28b1:((bt a0 (ji22)) != 47)=true:=bne_iff_ne.mpr c28
           by_cases c29:(bt a0 (ji22))=62
           ·rw [if_pos c29] at H
            have c29b0:((bt a0 (ji22)) == 62)=true:=beq_iff_eq.mpr c29
            have c29b1:((bt a0 (ji22)) != 62)=false:=bne_eq_false_iff_eq.mpr c29
            clear c29
            obtain rfl:=oi_ H
            have p25:0≤((ji22):Int):=oa_
            have q25:(ji22)<(a0.size:Int):=oa_
            have hx25:=bt_at a0 (ji22)
            replace p25:=eq_true p25
            replace q25:=eq_true q25
            go_wp2_with (first|((with_reducible refine gate_callee (f:=51) rfl ?_);refine goesL_ (some 53) rfl rfl Tryz.func51 (by kernel_rfl) rfl #[.int .u8 (bt a0 (ji22))] rfl (by (try simp only [List.map_toArray,List.map_cons,List.map_nil]);first|done|(simp only [hji22];rfl)|rfl|(simp only [ld_,lt_];rfl)) ?_;(with_reducible refine (spec_l04Blank.calls (bt a0 (ji22)) false _ A26.out).mono ?_);rintro e w' ⟨rfl,⟨nd,rfl⟩⟩;refine ⟨_,rfl,?_⟩))
            go_ret
            exact ⟨by first|rfl|(simp [errW_none,errW_some] <;> rfl)|(simp only [←hji22];first|rfl|(simp [errW_none,errW_some] <;> rfl))|(simp [*,errW_none,errW_some] <;> rfl),bq0_ HB.out⟩
           ·rw [if_neg c29] at H
            have c29b0:((bt a0 (ji22)) == 62)=false:=beq_eq_false_iff_ne.mpr c29
            have c29b1:((bt a0 (ji22)) != 62)=true:=bne_iff_ne.mpr c29
            have H':=A_ H
            clear H
            have p25:0≤((ji22):Int):=oa_
            have q25:(ji22)<(a0.size:Int):=oa_
            have hx25:=bt_at a0 (ji22)
            replace p25:=eq_true p25
            replace q25:=eq_true q25
            go_wp2_with (first|((with_reducible refine gate_callee (f:=51) rfl ?_);refine goesL_ (some 53) rfl rfl Tryz.func51 (by kernel_rfl) rfl #[.int .u8 (bt a0 (ji22))] rfl (by (try simp only [List.map_toArray,List.map_cons,List.map_nil]);first|done|(simp only [hji22];rfl)|rfl|(simp only [ld_,lt_];rfl)) ?_;(with_reducible refine (spec_l04Blank.calls (bt a0 (ji22)) false _ A26.out).mono ?_);rintro e w' ⟨rfl,⟨nd,rfl⟩⟩;refine ⟨_,rfl,?_⟩))
            go_roundg kj4
            case measure=>have:=HK1.out;have:=HJ4.out;omega
            case rel=>exact ⟨(wrap64 (x7_1+1)),(by first|rfl|(simp;done)|(simp [*];done)),H',⟨by have:=HK1.out;have:=HJ4.out;omega⟩,⟨bq0_ HB.out⟩⟩
        ·rw [if_neg c24] at H
         exact absurd H (by simp)
       ·rw [if_neg c23] at H
        exact absurd H (by simp)
      ·replace c21:=bm_ c21
       subst c21
       have H1:(spec_l04RawEnd.l0 kj4 a0 a2 (wrap64 (x7_1+1)))=some r:=by rw [if_neg (show ¬ (false=true) by decide)] at H;exact H
       clear H
       have H:=H1
       clear H1
       have H':=A_ H
       clear H
       go_wp2
       go_roundg kj4
       case measure=>have:=HK1.out;have:=HJ4.out;omega
       case rel=>exact ⟨(wrap64 (x7_1+1)),(by first|rfl|(simp;done)|(simp [*];done)),H',⟨by have:=HK1.out;have:=HJ4.out;omega⟩,⟨bq0_ HB.out⟩⟩
   ·rw [if_neg c4] at H
    have c4b0:decide ((wrap64 ((wrap64 (x7_1+2))+(a2.size:Int)))<(a0.size:Int))=false:=df_ c4
    clear c4
    obtain rfl:=oi_ H
    go_wp2
    go_ret
    exact ⟨by first|rfl|(simp [errW_none,errW_some] <;> rfl)|(simp [*,errW_none,errW_some] <;> rfl),bq0_ HB.out⟩
end Go.Proofs.YtfkanlbmgbkniaaGreatDoor.PFnExactNextToken
