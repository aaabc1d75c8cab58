/- The machine side of a law, printed by a program. No conditions. -/
import Derived.Test.YtfkanlbmgbkniaaGreatDoorPFnExactTokensOfx0
import Derived.Test.YtfkanlbmgbkniaaGreatDoorPFnExactTokensOfx2
namespace Go.Proofs.YtfkanlbmgbkniaaGreatDoor.PFnExactTokensOf
open Go.RowKit Go.Proofs.YtfkanlbmgbkniaaGreatDoorW.PrintWords Go.Proofs.YtfkanlbmgbkniaaGreatDoorW.PrintLast Go.Proofs.YtfkanlbmgbkniaaGreatDoorW.PrintMore
attribute [local go_sem] max2_int min2_int max_two min_two max_three min_three max_four min_four
set_option linter.unusedVariables false
set_option linter.unusedSimpArgs false
mutual
def spec_l02One.l0:Nat→ByteArray→Int→List ByteArray→Int→Option (Int × Int)
 | 0,_,_,_,_=>none
 | k+1,x0,x1,x6,x7=>if x7<(x6.length:Int) then (if 0≤x7 then (if (wrap64 (x1+((rdOf ByteArray.empty x6 x7).size:Int)))≤(x0.size:Int) then (if 0≤x1 then (if x1≤(wrap64 (x1+((rdOf ByteArray.empty x6 x7).size:Int))) then (if (x0.extract (x1:Int).toNat ((wrap64 (x1+((rdOf ByteArray.empty x6 x7).size:Int))):Int).toNat).toList=(rdOf ByteArray.empty x6 x7).toList then (if x7<4 then (some (bt (⟨#[38,60,62,34]⟩:ByteArray) x7,((rdOf ByteArray.empty x6 x7).size:Int))) else (none)) else (spec_l02One.l0 k x0 x1 x6 (wrap64 (x7+1)))) else (none)) else (none)) else (spec_l02One.l0 k x0 x1 x6 (wrap64 (x7+1)))) else (none)) else (if (wrap64 (x1+3))≥(x0.size:Int) then (spec_l02One.j1 k x0 x1 true) else (if 0≤(wrap64 (x1+1)) then (if (wrap64 (x1+1))<(x0.size:Int) then (spec_l02One.j1 k x0 x1 ((bt x0 (wrap64 (x1+1))) != 35)) else (none)) else (none)))
def spec_l02One.j1:Nat→ByteArray→Int→Bool→Option (Int × Int)
 | 0,_,_,_=>none
 | k+1,x0,x1,x57=>if x57=true then (some (0,0)) else (spec_l02One.l1 k x0 x1 (wrap64 (x1+2)))
def spec_l02One.l1:Nat→ByteArray→Int→Int→Option (Int × Int)
 | 0,_,_,_=>none
 | k+1,x0,x1,x9=>if x9<(x0.size:Int) then (spec_l02One.j3 k x0 x1 x9 (decide (x9<(wrap64 (x1+6))))) else (spec_l02One.j3 k x0 x1 x9 false)
def spec_l02One.j3:Nat→ByteArray→Int→Int→Bool→Option (Int × Int)
 | 0,_,_,_,_=>none
 | k+1,x0,x1,x9,x69=>if x69=true then (if 0≤x9 then (if x9<(x0.size:Int) then (if (bt x0 x9)=59 then (if 0≤(wrap64 (x1+2)) then (if (wrap64 (x1+2))≤x9 then (if x9≤(x0.size:Int) then ((spec_l00Number.f k (x0.extract ((wrap64 (x1+2)):Int).toNat (x9:Int).toNat)).bind fun bt120=>(if bt120.2=true then ((spec_l01In.f bt120.1 1 126).bind fun t122=>(if t122=true then (some ((bt120.1) % 256,wrap64 ((wrap64 (x9+1)) - x1))) else (some (0,0)))) else (some (0,0)))) else (none)) else (none)) else (none)) else (spec_l02One.l1 k x0 x1 (wrap64 (x9+1)))) else (none)) else (none)) else (some (0,0))
end
def spec_l02One.f (k:Nat) (a0:ByteArray) (a1:Int):Option (Int × Int):=spec_l02One.l0 k a0 a1 (([(⟨#[38,97,109,112,59]⟩:ByteArray),(⟨#[38,108,116,59]⟩:ByteArray),(⟨#[38,103,116,59]⟩:ByteArray),(⟨#[38,113,117,111,116,59]⟩:ByteArray)]:List ByteArray)) 0
theorem spec_l02One.mono_l:∀ k,(∀ y0 y1 y2 y3,LeO (spec_l02One.l0 k y0 y1 y2 y3) (spec_l02One.l0 (k+1) y0 y1 y2 y3))∧(∀ y0 y1 y2,LeO (spec_l02One.j1 k y0 y1 y2) (spec_l02One.j1 (k+1) y0 y1 y2))∧(∀ y0 y1 y2,LeO (spec_l02One.l1 k y0 y1 y2) (spec_l02One.l1 (k+1) y0 y1 y2))∧(∀ y0 y1 y2 y3,LeO (spec_l02One.j3 k y0 y1 y2 y3) (spec_l02One.j3 (k+1) y0 y1 y2 y3))
 | 0=>⟨fun _ _ _ _ r h=>by simp [spec_l02One.l0] at h,fun _ _ _ r h=>by simp [spec_l02One.j1] at h,fun _ _ _ r h=>by simp [spec_l02One.l1] at h,fun _ _ _ _ r h=>by simp [spec_l02One.j3] at h⟩
 | k+1=>by
  obtain ⟨ih0,ih1,ih2,ih3⟩:=spec_l02One.mono_l k
  refine ⟨?_,?_,?_,?_⟩
  ·intro y0 y1 y2 y3
   unfold spec_l02One.l0
   repeat' first|(with_reducible first|exact ih0 ..|exact ih1 ..|exact ih2 ..|exact ih3 ..|exact spec_l00Number.mono ..|exact LeO.refl _|exact LeO.none _|refine LeO.ite ?_ ?_|refine LeO.bind ?_ (fun _=>?_))|exact ih0 ..|exact ih1 ..|exact ih2 ..|exact ih3 ..|exact LeO.none _|refine LeO.ite ?_ ?_|refine LeO.bind ?_ (fun _=>?_)
  ·intro y0 y1 y2
   unfold spec_l02One.j1
   repeat' first|(with_reducible first|exact ih0 ..|exact ih1 ..|exact ih2 ..|exact ih3 ..|exact spec_l00Number.mono ..|exact LeO.refl _|exact LeO.none _|refine LeO.ite ?_ ?_|refine LeO.bind ?_ (fun _=>?_))|exact ih0 ..|exact ih1 ..|exact ih2 ..|exact ih3 ..|exact LeO.none _|refine LeO.ite ?_ ?_|refine LeO.bind ?_ (fun _=>?_)
  ·intro y0 y1 y2
   unfold spec_l02One.l1
   repeat' first|(with_reducible first|exact ih0 ..|exact ih1 ..|exact ih2 ..|exact ih3 ..|exact spec_l00Number.mono ..|exact LeO.refl _|exact LeO.none _|refine LeO.ite ?_ ?_|refine LeO.bind ?_ (fun _=>?_))|exact ih0 ..|exact ih1 ..|exact ih2 ..|exact ih3 ..|exact LeO.none _|refine LeO.ite ?_ ?_|refine LeO.bind ?_ (fun _=>?_)
  ·intro y0 y1 y2 y3
   unfold spec_l02One.j3
   repeat' first|(with_reducible first|exact ih0 ..|exact ih1 ..|exact ih2 ..|exact ih3 ..|exact spec_l00Number.mono ..|exact LeO.refl _|exact LeO.none _|refine LeO.ite ?_ ?_|refine LeO.bind ?_ (fun _=>?_))|exact ih0 ..|exact ih1 ..|exact ih2 ..|exact ih3 ..|exact LeO.none _|refine LeO.ite ?_ ?_|refine LeO.bind ?_ (fun _=>?_)
theorem spec_l02One.mono:∀ a0 a1 k,LeO (spec_l02One.f k a0 a1) (spec_l02One.f (k+1) a0 a1):=by
 intro a0 a1 k
 obtain ⟨ih0,ih1,ih2,ih3⟩:=spec_l02One.mono_l k
 unfold spec_l02One.f
 repeat' first|(with_reducible first|exact ih0 ..|exact ih1 ..|exact ih2 ..|exact ih3 ..|exact spec_l00Number.mono ..|exact LeO.refl _|exact LeO.none _|refine LeO.ite ?_ ?_|refine LeO.bind ?_ (fun _=>?_))|exact ih0 ..|exact ih1 ..|exact ih2 ..|exact ih3 ..|exact LeO.none _|refine LeO.ite ?_ ?_|refine LeO.bind ?_ (fun _=>?_)
set_option maxHeartbeats 8000000 in
set_option maxRecDepth 100000 in
theorem spec_l02One.calls (k:Nat) (a0:ByteArray) (a1:Int) (r1:Int) (r2:Int) (w:World) (h:spec_l02One.f k a0 a1=some (r1,r2)) :
 Calls Tryz.prog 70 #[.string a0,.int .i64 a1] w fun e w'=>e=.returned (.tuple #[.int .u8 r1,.int .i64 r2])∧Below w.heap.size w w':=by
 have HB:=A_ (Below.refl w.heap.size w)
 have H:(spec_l02One.l0 k a0 a1 (([(⟨#[38,97,109,112,59]⟩:ByteArray),(⟨#[38,108,116,59]⟩:ByteArray),(⟨#[38,103,116,59]⟩:ByteArray),(⟨#[38,113,117,111,116,59]⟩:ByteArray)]:List ByteArray)) 0)=some (r1,r2):=h
 clear h
 obtain ⟨y115,hy115⟩:∃ y_:List ByteArray,y_=(([(⟨#[38,97,109,112,59]⟩:ByteArray),(⟨#[38,108,116,59]⟩:ByteArray),(⟨#[38,103,116,59]⟩:ByteArray),(⟨#[38,113,117,111,116,59]⟩:ByteArray)]:List ByteArray)):=⟨_,rfl⟩
 replace H:(spec_l02One.l0 k a0 a1 y115 0)=some (r1,r2):=by first|(rw [hy115];with_reducible exact H)|(have H2_:=(Option.bind_some _ _).symm.trans H;rw [hy115];with_reducible exact H2_)|(have H2_:=(Option.bind_some _ _).symm.trans H;with_reducible exact H2_)|with_reducible exact H|(rw [hy115];exact H)|exact H
 have Ny115:=A_ hy115
 clear hy115
 have H':=A_ H
 clear H
 go_enter Tryz.func70,Tryz.ntmps70
 go_wp2_with (first|((with_reducible refine gate_dst (N:=12) rfl ?_);refine Kd.R_lit Kd.string _ 9 ?hg (N:=12) ?hd (xs:=([(⟨#[38,97,109,112,59]⟩:ByteArray),(⟨#[38,108,116,59]⟩:ByteArray),(⟨#[38,103,116,59]⟩:ByteArray),(⟨#[38,113,117,111,116,59]⟩:ByteArray)]:List ByteArray)) (inner:=[.string (⟨#[38,97,109,112,59]⟩:ByteArray),.string (⟨#[38,108,116,59]⟩:ByteArray),.string (⟨#[38,103,116,59]⟩:ByteArray),.string (⟨#[38,113,117,111,116,59]⟩:ByteArray)]) (ok:=fun _=>True) (okp:=fun _=>True) ?hr ?hp (fun _ hk=>hk) trivial (Below.refl _ _) (Nat.le_refl _) (by simp) ?_;(case hd=>rfl);(case hg=>rfl);(case hr=>first|(go_simp;done)|(go_simp;rfl)|(first|(go_simp;done)|(go_simp;rfl)));(case hp=>exact (Reps.one (show Kd.M Kd.string _ _ _ (⟨#[38,97,109,112,59]⟩:ByteArray) [.string (⟨#[38,97,109,112,59]⟩:ByteArray)] from rfl) (Reps.one (show Kd.M Kd.string _ _ _ (⟨#[38,108,116,59]⟩:ByteArray) [.string (⟨#[38,108,116,59]⟩:ByteArray)] from rfl) (Reps.one (show Kd.M Kd.string _ _ _ (⟨#[38,103,116,59]⟩:ByteArray) [.string (⟨#[38,103,116,59]⟩:ByteArray)] from rfl) (Reps.one (show Kd.M Kd.string _ _ _ (⟨#[38,113,117,111,116,59]⟩:ByteArray) [.string (⟨#[38,113,117,111,116,59]⟩:ByteArray)] from rfl) (Reps.none _ _))))));intro v116 w3 ho4 hb hg_ hnew_;clear hg_ hnew_;(first|rw [←Ny115.out] at ho4|(simp only [Int.reduceToNat] at ho4;rw [←Ny115.out] at ho4));have n0_:=A_ (Kd.R_lower ho4 (bz_ (bq0_ HB.out)));have n1_:=A_ (bp_ (bq0_ HB.out) hb);clear HB;have HO117:=n0_;have HB:=n1_;clear n0_ n1_;clear hb ho4))
 repeat (go_quiet (first|((with_reducible refine gate_dst (N:=12) rfl ?_);refine Kd.R_lit Kd.string _ 9 ?hg (N:=12) ?hd (xs:=([(⟨#[38,97,109,112,59]⟩:ByteArray),(⟨#[38,108,116,59]⟩:ByteArray),(⟨#[38,103,116,59]⟩:ByteArray),(⟨#[38,113,117,111,116,59]⟩:ByteArray)]:List ByteArray)) (inner:=[.string (⟨#[38,97,109,112,59]⟩:ByteArray),.string (⟨#[38,108,116,59]⟩:ByteArray),.string (⟨#[38,103,116,59]⟩:ByteArray),.string (⟨#[38,113,117,111,116,59]⟩:ByteArray)]) (ok:=fun _=>True) (okp:=fun _=>True) ?hr ?hp (fun _ hk=>hk) trivial (Below.refl _ _) (Nat.le_refl _) (by simp) ?_;(case hd=>rfl);(case hg=>rfl);(case hr=>first|(go_simp;done)|(go_simp;rfl)|((first|(obtain ⟨_,_,rfl⟩:=Kd.R_slice HO117.out)|(obtain ⟨_,_,rfl⟩:=Kd.S_slice HO117.out)|skip);first|(go_simp;done)|(go_simp;rfl)));(case hp=>exact (Reps.one (show Kd.M Kd.string _ _ _ (⟨#[38,97,109,112,59]⟩:ByteArray) [.string (⟨#[38,97,109,112,59]⟩:ByteArray)] from rfl) (Reps.one (show Kd.M Kd.string _ _ _ (⟨#[38,108,116,59]⟩:ByteArray) [.string (⟨#[38,108,116,59]⟩:ByteArray)] from rfl) (Reps.one (show Kd.M Kd.string _ _ _ (⟨#[38,103,116,59]⟩:ByteArray) [.string (⟨#[38,103,116,59]⟩:ByteArray)] from rfl) (Reps.one (show Kd.M Kd.string _ _ _ (⟨#[38,113,117,111,116,59]⟩:ByteArray) [.string (⟨#[38,113,117,111,116,59]⟩:ByteArray)] from rfl) (Reps.none _ _))))));intro v116 w3 ho4 hb hg_ hnew_;clear hg_ hnew_;(first|rw [←Ny115.out] at ho4|(simp only [Int.reduceToNat] at ho4;rw [←Ny115.out] at ho4));have n0_:=A_ (Kd.R_lower ho4 (bz_ (bq0_ HB.out)));have n1_:=A_ (bp_ (bq0_ HB.out) hb);clear HB;have HO117:=n0_;have HB:=n1_;clear n0_ n1_;clear hb ho4));try go_wp2_with (first|((with_reducible refine gate_dst (N:=12) rfl ?_);refine Kd.R_lit Kd.string _ 9 ?hg (N:=12) ?hd (xs:=([(⟨#[38,97,109,112,59]⟩:ByteArray),(⟨#[38,108,116,59]⟩:ByteArray),(⟨#[38,103,116,59]⟩:ByteArray),(⟨#[38,113,117,111,116,59]⟩:ByteArray)]:List ByteArray)) (inner:=[.string (⟨#[38,97,109,112,59]⟩:ByteArray),.string (⟨#[38,108,116,59]⟩:ByteArray),.string (⟨#[38,103,116,59]⟩:ByteArray),.string (⟨#[38,113,117,111,116,59]⟩:ByteArray)]) (ok:=fun _=>True) (okp:=fun _=>True) ?hr ?hp (fun _ hk=>hk) trivial (Below.refl _ _) (Nat.le_refl _) (by simp) ?_;(case hd=>rfl);(case hg=>rfl);(case hr=>first|(go_simp;done)|(go_simp;rfl)|((first|(obtain ⟨_,_,rfl⟩:=Kd.R_slice HO117.out)|(obtain ⟨_,_,rfl⟩:=Kd.S_slice HO117.out)|skip);first|(go_simp;done)|(go_simp;rfl)));(case hp=>exact (Reps.one (show Kd.M Kd.string _ _ _ (⟨#[38,97,109,112,59]⟩:ByteArray) [.string (⟨#[38,97,109,112,59]⟩:ByteArray)] from rfl) (Reps.one (show Kd.M Kd.string _ _ _ (⟨#[38,108,116,59]⟩:ByteArray) [.string (⟨#[38,108,116,59]⟩:ByteArray)] from rfl) (Reps.one (show Kd.M Kd.string _ _ _ (⟨#[38,103,116,59]⟩:ByteArray) [.string (⟨#[38,103,116,59]⟩:ByteArray)] from rfl) (Reps.one (show Kd.M Kd.string _ _ _ (⟨#[38,113,117,111,116,59]⟩:ByteArray) [.string (⟨#[38,113,117,111,116,59]⟩:ByteArray)] from rfl) (Reps.none _ _))))));intro v116 w3 ho4 hb hg_ hnew_;clear hg_ hnew_;(first|rw [←Ny115.out] at ho4|(simp only [Int.reduceToNat] at ho4;rw [←Ny115.out] at ho4));have n0_:=A_ (Kd.R_lower ho4 (bz_ (bq0_ HB.out)));have n1_:=A_ (bp_ (bq0_ HB.out) hb);clear HB;have HO117:=n0_;have HB:=n1_;clear n0_ n1_;clear hb ho4)))
 go_loopg [7] k (fun kq v7 w'=>∃ (x7_1:Int),v7=.int .i64 x7_1∧Aside0 (spec_l02One.l0 kq a0 a1 y115 x7_1=some (r1,r2))∧Aside0 (kq≤k)∧Aside0 (Kd.R Kd.string 9 w' w.heap.size (fun _=>True) v116 y115)∧Aside0 (Below w.heap.size w w'))
 case atStart=>exact ⟨(0),rs_,H',⟨Nat.le_refl _⟩,⟨by (with_reducible repeat first|apply ra_|apply rn_|apply rd_);exact HO117.out⟩,⟨bq0_ HB.out⟩⟩
 case round =>
  clear H'
  try clear p2
  obtain ⟨x7_1,rfl,HA,HK1,HO_6,HB⟩:=hrel
  cases gk with
  | zero=>exact absurd HA.out (by simp [spec_l02One.l0])
  | succ k1 =>
   have H:=HA.out
   clear HA
   simp only [spec_l02One.l0] at H
   by_cases c5:x7_1<(y115.length:Int)
   ·rw [if_pos c5] at H
    have c5b0:decide (x7_1<(y115.length:Int))=true:=dt_ c5
    clear c5
    by_cases c6:0≤x7_1
    ·rw [if_pos c6] at H
     have c6b0:decide (0≤x7_1)=true:=dt_ c6
     clear c6
     by_cases c7:(wrap64 (a1+((rdOf ByteArray.empty y115 x7_1).size:Int)))≤(a0.size:Int)
     ·rw [if_pos c7] at H
      have c7b0:decide ((wrap64 (a1+((rdOf ByteArray.empty y115 x7_1).size:Int)))≤(a0.size:Int))=true:=dt_ c7
      clear c7
      by_cases c8:0≤a1
      ·rw [if_pos c8] at H
       have c8b0:=eq_true c8
       have c8b1:decide (0≤a1)=true:=dt_ c8
       clear c8
       by_cases c9:a1≤(wrap64 (a1+((rdOf ByteArray.empty y115 x7_1).size:Int)))
       ·rw [if_pos c9] at H
        have c9b0:=eq_true c9
        have c9b1:decide (a1≤(wrap64 (a1+((rdOf ByteArray.empty y115 x7_1).size:Int))))=true:=dt_ c9
        have c10b0:=eq_true (oa_:(wrap64 (a1+((rdOf ByteArray.empty y115 x7_1).size:Int)))≤(a0.size:Int))
        by_cases c11:(a0.extract (a1:Int).toNat ((wrap64 (a1+((rdOf ByteArray.empty y115 x7_1).size:Int))):Int).toNat).toList=(rdOf ByteArray.empty y115 x7_1).toList
        ·rw [if_pos c11] at H
         have c11b0:((a0.extract (a1:Int).toNat ((wrap64 (a1+((rdOf ByteArray.empty y115 x7_1).size:Int))):Int).toNat).toList == (rdOf ByteArray.empty y115 x7_1).toList)=true:=beq_iff_eq.mpr c11
         have c11b1:((a0.extract (a1:Int).toNat ((wrap64 (a1+((rdOf ByteArray.empty y115 x7_1).size:Int))):Int).toNat).toList != (rdOf ByteArray.empty y115 x7_1).toList)=false:=bne_eq_false_iff_eq.mpr c11
         clear c11
         by_cases c12:x7_1<4
         ·rw [if_pos c12] at H
          have c12b0:decide (x7_1<4)=true:=dt_ c12
          clear c12
          simp only [Option.some.injEq,Prod.mk.injEq] at H
          obtain ⟨rfl,rfl⟩:=H
          obtain ⟨Ao14,co14,eo14⟩:=Kd.R_slice HO_6.out
          subst eo14
          have p118:0≤(x7_1:Int):=oa_
          have q118:x7_1<(y115.length:Int):=oa_
          obtain ⟨ad118,e118,hx118_0⟩:=Kd.at_string (Kd.R_reads' HO_6.out).2.2 x7_1 p118 q118
          cases e118
          replace p118:=eq_true p118
          replace q118:=eq_true q118
          have p119:0≤(x7_1:Int):=oa_
          have q119:x7_1<(y115.length:Int):=oa_
          obtain ⟨ad119,e119,hx119_0⟩:=Kd.at_string (Kd.R_reads' HO_6.out).2.2 x7_1 p119 q119
          obtain rfl:ad118=ad119:=(by injection e119)
          replace p119:=eq_true p119
          replace q119:=eq_true q119
          have p13:0≤(x7_1:Int):=oa_
          have q13:x7_1<(4:Int):=oa_
          have hx13:=bt_at (⟨#[38,60,62,34]⟩:ByteArray) x7_1
          replace p13:=eq_true p13
          replace q13:=eq_true q13
          go_wp2
          repeat (go_quiet (fail);try go_wp2)
          go_ret2
          exact ⟨by first|rfl|(simp [errW_none,errW_some] <;> rfl)|(simp [*,errW_none,errW_some] <;> rfl),bq0_ HB.out⟩
         ·rw [if_neg c12] at H
          exact absurd H (by simp)
        ·rw [if_neg c11] at H
         have c11b0:((a0.extract (a1:Int).toNat ((wrap64 (a1+((rdOf ByteArray.empty y115 x7_1).size:Int))):Int).toNat).toList == (rdOf ByteArray.empty y115 x7_1).toList)=false:=beq_eq_false_iff_ne.mpr c11
         have c11b1:((a0.extract (a1:Int).toNat ((wrap64 (a1+((rdOf ByteArray.empty y115 x7_1).size:Int))):Int).toNat).toList != (rdOf ByteArray.empty y115 x7_1).toList)=true:=bne_iff_ne.mpr c11
         have H':=A_ H
         clear H
         obtain ⟨Ao15,co15,eo15⟩:=Kd.R_slice HO_6.out
         subst eo15
         have p118:0≤(x7_1:Int):=oa_
         have q118:x7_1<(y115.length:Int):=oa_
         obtain ⟨ad118,e118,hx118_0⟩:=Kd.at_string (Kd.R_reads' HO_6.out).2.2 x7_1 p118 q118
         cases e118
         replace p118:=eq_true p118
         replace q118:=eq_true q118
         have p119:0≤(x7_1:Int):=oa_
         have q119:x7_1<(y115.length:Int):=oa_
         obtain ⟨ad119,e119,hx119_0⟩:=Kd.at_string (Kd.R_reads' HO_6.out).2.2 x7_1 p119 q119
         obtain rfl:ad118=ad119:=(by injection e119)
         replace p119:=eq_true p119
         replace q119:=eq_true q119
         go_wp2
         repeat (go_quiet (fail);try go_wp2)
         go_roundg k1
         case measure=>have:=HK1.out;omega
         case rel=>exact ⟨(wrap64 (x7_1+1)),rs_,H',⟨by have:=HK1.out;omega⟩,⟨by (with_reducible repeat first|apply ra_|apply rn_|apply rd_);exact HO_6.out⟩,⟨bq0_ HB.out⟩⟩
       ·rw [if_neg c9] at H
        exact absurd H (by simp)
      ·rw [if_neg c8] at H
       exact absurd H (by simp)
     ·rw [if_neg c7] at H
      have c7b0:decide ((wrap64 (a1+((rdOf ByteArray.empty y115 x7_1).size:Int)))≤(a0.size:Int))=false:=df_ c7
      clear c7
      have H':=A_ H
      clear H
      obtain ⟨Ao16,co16,eo16⟩:=Kd.R_slice HO_6.out
      subst eo16
      have p118:0≤(x7_1:Int):=oa_
      have q118:x7_1<(y115.length:Int):=oa_
      obtain ⟨ad118,e118,hx118_0⟩:=Kd.at_string (Kd.R_reads' HO_6.out).2.2 x7_1 p118 q118
      cases e118
      replace p118:=eq_true p118
      replace q118:=eq_true q118
      go_wp2
      repeat (go_quiet (fail);try go_wp2)
      go_roundg k1
      case measure=>have:=HK1.out;omega
      case rel=>exact ⟨(wrap64 (x7_1+1)),rs_,H',⟨by have:=HK1.out;omega⟩,⟨by (with_reducible repeat first|apply ra_|apply rn_|apply rd_);exact HO_6.out⟩,⟨bq0_ HB.out⟩⟩
    ·rw [if_neg c6] at H
     exact absurd H (by simp)
   ·rw [if_neg c5] at H
    have c5b0:decide (x7_1<(y115.length:Int))=false:=df_ c5
    clear c5
    have HC17:=A_ H
    clear H
    obtain ⟨Ao18,co18,eo18⟩:=Kd.R_slice HO_6.out
    subst eo18
    go_upto_region 8 with (fail)
    repeat (go_quiet (fail);go_upto_region 8 with (fail))
    go_cut [57] (fun v57 wc=>∃ (kq:Nat) (x57_16:Bool),v57=.bool x57_16∧Aside0 (spec_l02One.j1 kq a0 a1 x57_16=some (r1,r2))∧Aside0 (kq≤k1)∧Aside0 (Below w.heap.size w wc))
    case first =>
     have H:=HC17.out
     clear HC17
     by_cases c19:(wrap64 (a1+3))≥(a0.size:Int)
     ·rw [if_pos c19] at H
      have c19b0:decide ((a0.size:Int)≤(wrap64 (a1+3)))=true:=dt_ c19
      clear c19
      (first|rw [c19b0]|(simp only [i64_w,i32_w];rw [c19b0])|skip)
      have H':=A_ H
      clear H
      go_wp2
      repeat (go_quiet (fail);try go_wp2)
      go_meet
      case rel=>exact ⟨_,(true),rs_,H',⟨by have:=HK1.out;first|omega|exact Nat.le_refl _⟩,⟨bq0_ HB.out⟩⟩
     ·rw [if_neg c19] at H
      have c19b0:decide ((a0.size:Int)≤(wrap64 (a1+3)))=false:=df_ c19
      clear c19
      (first|rw [c19b0]|(simp only [i64_w,i32_w];rw [c19b0])|skip)
      obtain ⟨ji20,hji20⟩:∃ j_:Int,(wrap64 (a1+1))=j_:=⟨_,rfl⟩
      replace H:(if 0≤(ji20) then (if (ji20)<(a0.size:Int) then (spec_l02One.j1 k1 a0 a1 ((bt a0 (ji20)) != 35)) else (none)) else (none))=some (r1,r2):=by first|(rw [hji20] at H;exact H)|(simp only [hji20] at H ⊢;exact H)
      have hji20w:(IntKind.i64.wrap (a1+1))=ji20:=(i64_w _).trans hji20
      by_cases c21:0≤(ji20)
      ·rw [if_pos c21] at H
       have c21b0:decide (0≤(ji20))=true:=dt_ c21
       clear c21
       by_cases c22:(ji20)<(a0.size:Int)
       ·rw [if_pos c22] at H
        have c22b0:decide ((ji20)<(a0.size:Int))=true:=dt_ c22
        clear c22
        have H':=A_ H
        clear H
        have p23:0≤((ji20):Int):=oa_
        have q23:(ji20)<(a0.size:Int):=oa_
        have hx23:=bt_at a0 (ji20)
        replace p23:=eq_true p23
        replace q23:=eq_true q23
        go_wp2
        repeat (go_quiet (fail);try go_wp2)
        go_meet
        case rel=>exact ⟨_,(((bt a0 (ji20)) != 35)),(by first|rfl|(simp;done)|(simp only [←hji20] <;> (first|rfl|simp))|(simp [*];done)),H',⟨by have:=HK1.out;first|omega|exact Nat.le_refl _⟩,⟨bq0_ HB.out⟩⟩
       ·rw [if_neg c22] at H
        exact absurd H (by simp)
      ·rw [if_neg c21] at H
       exact absurd H (by simp)
    case rest =>
     clear HC17
     try clear c1
     try clear p1
     try clear q1
     try clear hx1
     try clear c2
     try clear p2
     try clear q2
     try clear hx2
     try clear c5
     try clear c5b0
     try clear c6
     try clear c6b0
     try clear p6
     try clear c7
     try clear c7b0
     try clear c8
     try clear c8b0
     try clear c8b1
     try clear c9
     try clear c9b0
     try clear c9b1
     try clear c10
     try clear c10b0
     try clear c11
     try clear c11b0
     try clear c11b1
     try clear p11
     try clear q11
     try clear hx11
     try clear c12
     try clear c12b0
     try clear p13
     try clear q13
     try clear hx13
     try clear c19
     try clear c19b0
     try clear c21
     try clear c21b0
     try clear c22
     try clear c22b0
     try clear p23
     try clear q23
     try clear hx23
     try clear hx118_0
     try clear hx119_0
     try clear p118
     try clear p119
     try clear p13
     try clear p2
     try clear p23
     try clear q118
     try clear q119
     try clear q13
     try clear q23
     obtain ⟨kq,x57_16,rfl,HA,HJ16,HB⟩:=hcut
     cases kq with
     | zero=>exact absurd HA.out (by simp [spec_l02One.j1])
     | succ kj16 =>
      have H:=HA.out
      clear HA
      simp only [spec_l02One.j1] at H
      by_cases c24:x57_16=true
      ·subst c24
       have H1:(some (0,0))=some (r1,r2):=by rw [if_pos rfl] at H;exact H
       clear H
       have H:=H1
       clear H1
       simp only [Option.some.injEq,Prod.mk.injEq] at H
       obtain ⟨rfl,rfl⟩:=H
       go_wp2
       repeat (go_quiet (fail);try go_wp2)
       go_ret2
       exact ⟨by first|rfl|(simp [errW_none,errW_some] <;> rfl)|(simp [*,errW_none,errW_some] <;> rfl),bq0_ HB.out⟩
      ·replace c24:=bm_ c24
       subst c24
       have H1:(spec_l02One.l1 kj16 a0 a1 (wrap64 (a1+2)))=some (r1,r2):=by rw [if_neg (show ¬ (false=true) by decide)] at H;exact H
       clear H
       have H:=H1
       clear H1
       have H':=A_ H
       clear H
       go_wp2
       repeat (go_quiet (fail);try go_wp2)
       go_loopg [9] kj16 (fun kq v9 w'=>∃ (x9_3:Int),v9=.int .i64 x9_3∧Aside0 (spec_l02One.l1 kq a0 a1 x9_3=some (r1,r2))∧Aside0 (kq≤kj16)∧Aside0 (Below w.heap.size w w'))
       case atStart=>exact ⟨(wrap64 (a1+2)),rs_,H',⟨Nat.le_refl _⟩,⟨bq0_ HB.out⟩⟩
       case round =>
        clear H'
        try clear c1
        try clear p1
        try clear q1
        try clear hx1
        try clear c2
        try clear p2
        try clear q2
        try clear hx2
        try clear c5
        try clear c5b0
        try clear c6
        try clear c6b0
        try clear p6
        try clear c7
        try clear c7b0
        try clear c8
        try clear c8b0
        try clear c8b1
        try clear c9
        try clear c9b0
        try clear c9b1
        try clear c10
        try clear c10b0
        try clear c11
        try clear c11b0
        try clear c11b1
        try clear p11
        try clear q11
        try clear hx11
        try clear c12
        try clear c12b0
        try clear p13
        try clear q13
        try clear hx13
        try clear c19
        try clear c19b0
        try clear c21
        try clear c21b0
        try clear c22
        try clear c22b0
        try clear p23
        try clear q23
        try clear hx23
        try clear c24
        try clear hx118_0
        try clear hx119_0
        try clear p1
        try clear p11
        try clear p118
        try clear p119
        try clear p13
        try clear p2
        try clear p23
        try clear p6
        try clear q1
        try clear q11
        try clear q118
        try clear q119
        try clear q13
        try clear q2
        try clear q23
        obtain ⟨x9_3,rfl,HA,HK3,HB⟩:=hrel
        cases gk with
        | zero=>exact absurd HA.out (by simp [spec_l02One.l1])
        | succ k3 =>
         have H:=HA.out
         clear HA
         simp only [spec_l02One.l1] at H
         have HC25:=A_ H
         clear H
         go_upto_region 11 with (fail)
         repeat (go_quiet (fail);go_upto_region 11 with (fail))
         go_cut [69] (fun v69 wc=>∃ (kq:Nat) (x69_24:Bool),v69=.bool x69_24∧Aside0 (spec_l02One.j3 kq a0 a1 x9_3 x69_24=some (r1,r2))∧Aside0 (kq≤k3)∧Aside0 (Below w.heap.size w wc))
         case first =>
          have H:=HC25.out
          clear HC25
          by_cases c26:x9_3<(a0.size:Int)
          ·rw [if_pos c26] at H
           have c26b0:decide (x9_3<(a0.size:Int))=true:=dt_ c26
           clear c26
           (first|rw [c26b0]|(simp only [i64_w,i32_w];rw [c26b0])|skip)
           have H':=A_ H
           clear H
           go_wp2
           repeat (go_quiet (fail);try go_wp2)
           go_meet
           case rel=>exact ⟨_,(decide (x9_3<(wrap64 (a1+6)))),rs_,H',⟨by have:=HK1.out;have:=HJ16.out;have:=HK3.out;first|omega|exact Nat.le_refl _⟩,⟨bq0_ HB.out⟩⟩
          ·rw [if_neg c26] at H
           have c26b0:decide (x9_3<(a0.size:Int))=false:=df_ c26
           clear c26
           (first|rw [c26b0]|(simp only [i64_w,i32_w];rw [c26b0])|skip)
           have H':=A_ H
           clear H
           go_wp2
           repeat (go_quiet (fail);try go_wp2)
           go_meet
           case rel=>exact ⟨_,(false),rs_,H',⟨by have:=HK1.out;have:=HJ16.out;have:=HK3.out;first|omega|exact Nat.le_refl _⟩,⟨bq0_ HB.out⟩⟩
         case rest =>
          clear HC25
          try clear c1
          try clear p1
          try clear q1
          try clear hx1
          try clear c2
          try clear p2
          try clear q2
          try clear hx2
          try clear c5
          try clear c5b0
          try clear c6
          try clear c6b0
          try clear p6
          try clear c7
          try clear c7b0
          try clear c8
          try clear c8b0
          try clear c8b1
          try clear c9
          try clear c9b0
          try clear c9b1
          try clear c10
          try clear c10b0
          try clear c11
          try clear c11b0
          try clear c11b1
          try clear p11
          try clear q11
          try clear hx11
          try clear c12
          try clear c12b0
          try clear p13
          try clear q13
          try clear hx13
          try clear c19
          try clear c19b0
          try clear c21
          try clear c21b0
          try clear c22
          try clear c22b0
          try clear p23
          try clear q23
          try clear hx23
          try clear c24
          try clear c26
          try clear c26b0
          try clear hx118_0
          try clear hx119_0
          try clear p1
          try clear p11
          try clear p118
          try clear p119
          try clear p13
          try clear p2
          try clear p23
          try clear p6
          try clear q1
          try clear q11
          try clear q118
          try clear q119
          try clear q13
          try clear q2
          try clear q23
          obtain ⟨kq,x69_24,rfl,HA,HJ24,HB⟩:=hcut
          cases kq with
          | zero=>exact absurd HA.out (by simp [spec_l02One.j3])
          | succ kj24 =>
           have H:=HA.out
           clear HA
           simp only [spec_l02One.j3] at H
           by_cases c27:x69_24=true
           ·subst c27
            have H1:(if 0≤x9_3 then (if x9_3<(a0.size:Int) then (if (bt a0 x9_3)=59 then (if 0≤(wrap64 (a1+2)) then (if (wrap64 (a1+2))≤x9_3 then (if x9_3≤(a0.size:Int) then ((spec_l00Number.f kj24 (a0.extract ((wrap64 (a1+2)):Int).toNat (x9_3:Int).toNat)).bind fun bt120=>(if bt120.2=true then ((spec_l01In.f bt120.1 1 126).bind fun t122=>(if t122=true then (some ((bt120.1) % 256,wrap64 ((wrap64 (x9_3+1)) - a1))) else (some (0,0)))) else (some (0,0)))) else (none)) else (none)) else (none)) else (spec_l02One.l1 kj24 a0 a1 (wrap64 (x9_3+1)))) else (none)) else (none))=some (r1,r2):=by rw [if_pos rfl] at H;exact H
            clear H
            have H:=H1
            clear H1
            by_cases c28:0≤x9_3
            ·rw [if_pos c28] at H
             have c28b0:decide (0≤x9_3)=true:=dt_ c28
             clear c28
             by_cases c29:x9_3<(a0.size:Int)
             ·rw [if_pos c29] at H
              have c29b0:decide (x9_3<(a0.size:Int))=true:=dt_ c29
              clear c29
              by_cases c31:(bt a0 x9_3)=59
              ·rw [if_pos c31] at H
               have c31b0:((bt a0 x9_3) == 59)=true:=beq_iff_eq.mpr c31
               have c31b1:((bt a0 x9_3) != 59)=false:=bne_eq_false_iff_eq.mpr c31
               clear c31
               obtain ⟨ji32,hji32⟩:∃ j_:Int,(wrap64 (a1+2))=j_:=⟨_,rfl⟩
               replace H:(if 0≤(ji32) then (if (ji32)≤x9_3 then (if x9_3≤(a0.size:Int) then ((spec_l00Number.f kj24 (a0.extract ((ji32):Int).toNat (x9_3:Int).toNat)).bind fun bt120=>(if bt120.2=true then ((spec_l01In.f bt120.1 1 126).bind fun t122=>(if t122=true then (some ((bt120.1) % 256,wrap64 ((wrap64 (x9_3+1)) - a1))) else (some (0,0)))) else (some (0,0)))) else (none)) else (none)) else (none))=some (r1,r2):=by first|(rw [hji32] at H;exact H)|(simp only [hji32] at H ⊢;exact H)
               have hji32w:(IntKind.i64.wrap (a1+2))=ji32:=(i64_w _).trans hji32
               (try rw [hji32] at hji20w)
               by_cases c33:0≤(ji32)
               ·rw [if_pos c33] at H
                have c33b0:=eq_true c33
                have c33b1:decide (0≤(ji32))=true:=dt_ c33
                clear c33
                by_cases c34:(ji32)≤x9_3
                ·rw [if_pos c34] at H
                 have c34b0:=eq_true c34
                 have c34b1:decide ((ji32)≤x9_3)=true:=dt_ c34
                 clear c34
                 by_cases c35:x9_3≤(a0.size:Int)
                 ·rw [if_pos c35] at H
                  have c35b0:=eq_true c35
                  have c35b1:decide (x9_3≤(a0.size:Int))=true:=dt_ c35
                  clear c35
                  replace H:=ob_ H
                  obtain ⟨⟨t120,t121⟩,A360,H⟩:=H
                  replace H:(if t121=true then ((spec_l01In.f t120 1 126).bind fun t122=>(if t122=true then (some ((t120) % 256,wrap64 ((wrap64 (x9_3+1)) - a1))) else (some (0,0)))) else (some (0,0)))=some (r1,r2):=H
                  have A36:=A_ A360
                  clear A360
                  by_cases c37:t121=true
                  ·subst c37
                   have H1:((spec_l01In.f t120 1 126).bind fun t122=>(if t122=true then (some ((t120) % 256,wrap64 ((wrap64 (x9_3+1)) - a1))) else (some (0,0))))=some (r1,r2):=by rw [if_pos rfl] at H;exact H
                   clear H
                   have H:=H1
                   clear H1
                   replace H:=ob_ H
                   obtain ⟨t122,A380,H⟩:=H
                   replace H:(if t122=true then (some ((t120) % 256,wrap64 ((wrap64 (x9_3+1)) - a1))) else (some (0,0)))=some (r1,r2):=H
                   have A38:=A_ A380
                   clear A380
                   by_cases c39:t122=true
                   ·subst c39
                    have H1:(some ((t120) % 256,wrap64 ((wrap64 (x9_3+1)) - a1)))=some (r1,r2):=by rw [if_pos rfl] at H;exact H
                    clear H
                    have H:=H1
                    clear H1
                    simp only [Option.some.injEq,Prod.mk.injEq] at H
                    obtain ⟨rfl,rfl⟩:=H
                    have p30:0≤(x9_3:Int):=oa_
                    have q30:x9_3<(a0.size:Int):=oa_
                    have hx30:=bt_at a0 x9_3
                    replace p30:=eq_true p30
                    replace q30:=eq_true q30
                    go_wp2_with (first|(go_at_call 80;(with_reducible refine (spec_l00Number.calls kj24 (a0.extract ((ji32):Int).toNat (x9_3:Int).toNat) t120 true _ A36.out).mono ?_);rintro e w' ⟨rfl,⟨nd,rfl⟩⟩;(try first|exact ⟨rfl,_,ww_ _ _ _⟩|exact ⟨rfl,_,Eq.trans (ww_ _ _ _) (congrArg (World.drewN _) (Nat.add_assoc _ _ _))⟩))|(go_at_call 15;(with_reducible refine (spec_l01In.calls t120 1 126 true _ A38.out).mono ?_);rintro e w' ⟨rfl,⟨nd,rfl⟩⟩;(try first|exact ⟨rfl,_,ww_ _ _ _⟩|exact ⟨rfl,_,Eq.trans (ww_ _ _ _) (congrArg (World.drewN _) (Nat.add_assoc _ _ _))⟩)))
                    repeat (go_quiet (first|(go_at_call 80;(with_reducible refine (spec_l00Number.calls kj24 (a0.extract ((ji32):Int).toNat (x9_3:Int).toNat) t120 true _ A36.out).mono ?_);rintro e w' ⟨rfl,⟨nd,rfl⟩⟩;(try first|exact ⟨rfl,_,ww_ _ _ _⟩|exact ⟨rfl,_,Eq.trans (ww_ _ _ _) (congrArg (World.drewN _) (Nat.add_assoc _ _ _))⟩))|(go_at_call 15;(with_reducible refine (spec_l01In.calls t120 1 126 true _ A38.out).mono ?_);rintro e w' ⟨rfl,⟨nd,rfl⟩⟩;(try first|exact ⟨rfl,_,ww_ _ _ _⟩|exact ⟨rfl,_,Eq.trans (ww_ _ _ _) (congrArg (World.drewN _) (Nat.add_assoc _ _ _))⟩)));try go_wp2_with (first|(go_at_call 80;(with_reducible refine (spec_l00Number.calls kj24 (a0.extract ((ji32):Int).toNat (x9_3:Int).toNat) t120 true _ A36.out).mono ?_);rintro e w' ⟨rfl,⟨nd,rfl⟩⟩;(try first|exact ⟨rfl,_,ww_ _ _ _⟩|exact ⟨rfl,_,Eq.trans (ww_ _ _ _) (congrArg (World.drewN _) (Nat.add_assoc _ _ _))⟩))|(go_at_call 15;(with_reducible refine (spec_l01In.calls t120 1 126 true _ A38.out).mono ?_);rintro e w' ⟨rfl,⟨nd,rfl⟩⟩;(try first|exact ⟨rfl,_,ww_ _ _ _⟩|exact ⟨rfl,_,Eq.trans (ww_ _ _ _) (congrArg (World.drewN _) (Nat.add_assoc _ _ _))⟩))))
                    go_ret2
                    exact ⟨by first|rfl|(simp [errW_none,errW_some] <;> rfl)|(simp only [←hji32];first|rfl|(simp [errW_none,errW_some] <;> rfl))|(simp [*,errW_none,errW_some] <;> rfl),bq0_ HB.out⟩
                   ·replace c39:=bm_ c39
                    subst c39
                    have H1:(some (0,0))=some (r1,r2):=by rw [if_neg (show ¬ (false=true) by decide)] at H;exact H
                    clear H
                    have H:=H1
                    clear H1
                    simp only [Option.some.injEq,Prod.mk.injEq] at H
                    obtain ⟨rfl,rfl⟩:=H
                    have p30:0≤(x9_3:Int):=oa_
                    have q30:x9_3<(a0.size:Int):=oa_
                    have hx30:=bt_at a0 x9_3
                    replace p30:=eq_true p30
                    replace q30:=eq_true q30
                    go_wp2_with (first|(go_at_call 80;(with_reducible refine (spec_l00Number.calls kj24 (a0.extract ((ji32):Int).toNat (x9_3:Int).toNat) t120 true _ A36.out).mono ?_);rintro e w' ⟨rfl,⟨nd,rfl⟩⟩;(try first|exact ⟨rfl,_,ww_ _ _ _⟩|exact ⟨rfl,_,Eq.trans (ww_ _ _ _) (congrArg (World.drewN _) (Nat.add_assoc _ _ _))⟩))|(go_at_call 15;(with_reducible refine (spec_l01In.calls t120 1 126 false _ A38.out).mono ?_);rintro e w' ⟨rfl,⟨nd,rfl⟩⟩;(try first|exact ⟨rfl,_,ww_ _ _ _⟩|exact ⟨rfl,_,Eq.trans (ww_ _ _ _) (congrArg (World.drewN _) (Nat.add_assoc _ _ _))⟩)))
                    repeat (go_quiet (first|(go_at_call 80;(with_reducible refine (spec_l00Number.calls kj24 (a0.extract ((ji32):Int).toNat (x9_3:Int).toNat) t120 true _ A36.out).mono ?_);rintro e w' ⟨rfl,⟨nd,rfl⟩⟩;(try first|exact ⟨rfl,_,ww_ _ _ _⟩|exact ⟨rfl,_,Eq.trans (ww_ _ _ _) (congrArg (World.drewN _) (Nat.add_assoc _ _ _))⟩))|(go_at_call 15;(with_reducible refine (spec_l01In.calls t120 1 126 false _ A38.out).mono ?_);rintro e w' ⟨rfl,⟨nd,rfl⟩⟩;(try first|exact ⟨rfl,_,ww_ _ _ _⟩|exact ⟨rfl,_,Eq.trans (ww_ _ _ _) (congrArg (World.drewN _) (Nat.add_assoc _ _ _))⟩)));try go_wp2_with (first|(go_at_call 80;(with_reducible refine (spec_l00Number.calls kj24 (a0.extract ((ji32):Int).toNat (x9_3:Int).toNat) t120 true _ A36.out).mono ?_);rintro e w' ⟨rfl,⟨nd,rfl⟩⟩;(try first|exact ⟨rfl,_,ww_ _ _ _⟩|exact ⟨rfl,_,Eq.trans (ww_ _ _ _) (congrArg (World.drewN _) (Nat.add_assoc _ _ _))⟩))|(go_at_call 15;(with_reducible refine (spec_l01In.calls t120 1 126 false _ A38.out).mono ?_);rintro e w' ⟨rfl,⟨nd,rfl⟩⟩;(try first|exact ⟨rfl,_,ww_ _ _ _⟩|exact ⟨rfl,_,Eq.trans (ww_ _ _ _) (congrArg (World.drewN _) (Nat.add_assoc _ _ _))⟩))))
                    go_ret2
                    exact ⟨by first|rfl|(simp [errW_none,errW_some] <;> rfl)|(simp only [←hji32];first|rfl|(simp [errW_none,errW_some] <;> rfl))|(simp [*,errW_none,errW_some] <;> rfl),bq0_ HB.out⟩
                  ·replace c37:=bm_ c37
                   subst c37
                   have H1:(some (0,0))=some (r1,r2):=by rw [if_neg (show ¬ (false=true) by decide)] at H;exact H
                   clear H
                   have H:=H1
                   clear H1
                   simp only [Option.some.injEq,Prod.mk.injEq] at H
                   obtain ⟨rfl,rfl⟩:=H
                   have p30:0≤(x9_3:Int):=oa_
                   have q30:x9_3<(a0.size:Int):=oa_
                   have hx30:=bt_at a0 x9_3
                   replace p30:=eq_true p30
                   replace q30:=eq_true q30
                   go_wp2_with (first|(go_at_call 80;(with_reducible refine (spec_l00Number.calls kj24 (a0.extract ((ji32):Int).toNat (x9_3:Int).toNat) t120 false _ A36.out).mono ?_);rintro e w' ⟨rfl,⟨nd,rfl⟩⟩;(try first|exact ⟨rfl,_,ww_ _ _ _⟩|exact ⟨rfl,_,Eq.trans (ww_ _ _ _) (congrArg (World.drewN _) (Nat.add_assoc _ _ _))⟩)))
                   repeat (go_quiet (first|(go_at_call 80;(with_reducible refine (spec_l00Number.calls kj24 (a0.extract ((ji32):Int).toNat (x9_3:Int).toNat) t120 false _ A36.out).mono ?_);rintro e w' ⟨rfl,⟨nd,rfl⟩⟩;(try first|exact ⟨rfl,_,ww_ _ _ _⟩|exact ⟨rfl,_,Eq.trans (ww_ _ _ _) (congrArg (World.drewN _) (Nat.add_assoc _ _ _))⟩)));try go_wp2_with (first|(go_at_call 80;(with_reducible refine (spec_l00Number.calls kj24 (a0.extract ((ji32):Int).toNat (x9_3:Int).toNat) t120 false _ A36.out).mono ?_);rintro e w' ⟨rfl,⟨nd,rfl⟩⟩;(try first|exact ⟨rfl,_,ww_ _ _ _⟩|exact ⟨rfl,_,Eq.trans (ww_ _ _ _) (congrArg (World.drewN _) (Nat.add_assoc _ _ _))⟩))))
                   go_ret2
                   exact ⟨by first|rfl|(simp [errW_none,errW_some] <;> rfl)|(simp only [←hji32];first|rfl|(simp [errW_none,errW_some] <;> rfl))|(simp [*,errW_none,errW_some] <;> rfl),bq0_ HB.out⟩
                 ·rw [if_neg c35] at H
                  exact absurd H (by simp)
                ·rw [if_neg c34] at H
                 exact absurd H (by simp)
               ·rw [if_neg c33] at H
                exact absurd H (by simp)
              ·rw [if_neg c31] at H
               have c31b0:((bt a0 x9_3) == 59)=false:=beq_eq_false_iff_ne.mpr c31
               have c31b1:((bt a0 x9_3) != 59)=true:=bne_iff_ne.mpr c31
               have H':=A_ H
               clear H
               have p30:0≤(x9_3:Int):=oa_
               have q30:x9_3<(a0.size:Int):=oa_
               have hx30:=bt_at a0 x9_3
               replace p30:=eq_true p30
               replace q30:=eq_true q30
               go_wp2
               repeat (go_quiet (fail);try go_wp2)
               go_roundg kj24
               case measure=>have:=HK1.out;have:=HJ16.out;have:=HK3.out;have:=HJ24.out;omega
               case rel=>exact ⟨(wrap64 (x9_3+1)),rs_,H',⟨by have:=HK1.out;have:=HJ16.out;have:=HK3.out;have:=HJ24.out;omega⟩,⟨bq0_ HB.out⟩⟩
             ·rw [if_neg c29] at H
              exact absurd H (by simp)
            ·rw [if_neg c28] at H
             exact absurd H (by simp)
           ·replace c27:=bm_ c27
            subst c27
            have H1:(some (0,0))=some (r1,r2):=by rw [if_neg (show ¬ (false=true) by decide)] at H;exact H
            clear H
            have H:=H1
            clear H1
            simp only [Option.some.injEq,Prod.mk.injEq] at H
            obtain ⟨rfl,rfl⟩:=H
            go_wp2
            repeat (go_quiet (fail);try go_wp2)
            go_ret2
            exact ⟨by first|rfl|(simp [errW_none,errW_some] <;> rfl)|(simp [*,errW_none,errW_some] <;> rfl),bq0_ HB.out⟩
end Go.Proofs.YtfkanlbmgbkniaaGreatDoor.PFnExactTokensOf
