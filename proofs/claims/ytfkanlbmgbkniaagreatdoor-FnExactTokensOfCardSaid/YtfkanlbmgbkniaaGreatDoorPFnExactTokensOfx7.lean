/- The machine side of a law, printed by a program. No conditions. -/
import Derived.Test.YtfkanlbmgbkniaaGreatDoorPFnExactTokensOfx0
import Derived.Test.YtfkanlbmgbkniaaGreatDoorPFnExactTokensOfx1
import Derived.Test.YtfkanlbmgbkniaaGreatDoorPFnExactTokensOfx4
import Derived.Test.YtfkanlbmgbkniaaGreatDoorPFnExactTokensOfx6
namespace Go.Proofs.YtfkanlbmgbkniaaGreatDoor.PFnExactTokensOf
open Go.RowKit Go.Proofs.YtfkanlbmgbkniaaGreatDoorW.PrintWords Go.Proofs.YtfkanlbmgbkniaaGreatDoorW.PrintLast Go.Proofs.YtfkanlbmgbkniaaGreatDoorW.PrintMore
attribute [local go_sem] max2_int min2_int max_two min_two max_three min_three max_four min_four
set_option linter.unusedVariables false
set_option linter.unusedSimpArgs false
mutual
def spec_l04Attr.j1:Nat→ByteArray→Int→Int→Option (ByteArray × ByteArray × Int)
 | 0,_,_,_=>none
 | k+1,x0,x1,x7=>if 0≤x1 then (if x1≤x7 then (if x7≤(x0.size:Int) then ((spec_l01Lower.f k (x0.extract (x1:Int).toNat (x7:Int).toNat)).bind fun t149=>(spec_l04Attr.l1 k x0 x7 t149 x7)) else (none)) else (none)) else (none)
def spec_l04Attr.j3:Nat→ByteArray→Int→ByteArray→Int→Option (ByteArray × ByteArray × Int)
 | 0,_,_,_,_=>none
 | k+1,x0,x7,x8,x9=>if x9=(x0.size:Int) then (spec_l04Attr.j4 k x0 x7 x8 x9 true) else (if 0≤x9 then (if x9<(x0.size:Int) then (spec_l04Attr.j4 k x0 x7 x8 x9 ((bt x0 x9) != 61)) else (none)) else (none))
def spec_l04Attr.j4:Nat→ByteArray→Int→ByteArray→Int→Bool→Option (ByteArray × ByteArray × Int)
 | 0,_,_,_,_,_=>none
 | k+1,x0,x7,x8,x9,x76=>if x76=true then (some (x8,(⟨#[]⟩:ByteArray),x7)) else (spec_l04Attr.l2 k x0 x8 (wrap64 (x9+1)))
def spec_l04Attr.j6:Nat→ByteArray→ByteArray→Int→Option (ByteArray × ByteArray × Int)
 | 0,_,_,_=>none
 | k+1,x0,x8,x9=>if x9<(x0.size:Int) then (if 0≤x9 then (if (bt x0 x9)=34 then (spec_l04Attr.j7 k x0 x8 x9 true) else (spec_l04Attr.j7 k x0 x8 x9 ((bt x0 x9) == 39))) else (none)) else (spec_l04Attr.j7 k x0 x8 x9 false)
def spec_l04Attr.j7:Nat→ByteArray→ByteArray→Int→Bool→Option (ByteArray × ByteArray × Int)
 | 0,_,_,_,_=>none
 | k+1,x0,x8,x9,x108=>if x108=true then (if 0≤x9 then (if x9≤(wrap64 (x9+1)) then (if (wrap64 (x9+1))≤(x0.size:Int) then ((spec_l04Find.f k x0 (x0.extract (x9:Int).toNat ((wrap64 (x9+1)):Int).toNat) (wrap64 (x9+1))).bind fun bt152=>(if bt152.2=true then (if 0≤(wrap64 (x9+1)) then (if (wrap64 (x9+1))≤bt152.1 then (if bt152.1≤(x0.size:Int) then ((spec_l02Un.f k (x0.extract ((wrap64 (x9+1)):Int).toNat (bt152.1:Int).toNat)).bind fun t154=>(some (x8,t154,wrap64 (bt152.1+1)))) else (none)) else (none)) else (none)) else (some (x8,(⟨#[]⟩:ByteArray),(x0.size:Int))))) else (none)) else (none)) else (none)) else (spec_l04Attr.l3 k x0 x9 x8 x9)
def spec_l04Attr.l3:Nat→ByteArray→Int→ByteArray→Int→Option (ByteArray × ByteArray × Int)
 | 0,_,_,_,_=>none
 | k+1,x0,x7,x8,x9=>if x7<(x0.size:Int) then (if 0≤x7 then ((spec_l04Blank.f (bt x0 x7)).bind fun t155=>(if t155=true then (if 0≤x9 then (if x9≤x7 then (if x7≤(x0.size:Int) then ((spec_l02Un.f k (x0.extract (x9:Int).toNat (x7:Int).toNat)).bind fun t156=>(some (x8,t156,x7))) else (none)) else (none)) else (none)) else (if (bt x0 x7)=62 then (if 0≤x9 then (if x9≤x7 then (if x7≤(x0.size:Int) then ((spec_l02Un.f k (x0.extract (x9:Int).toNat (x7:Int).toNat)).bind fun t157=>(some (x8,t157,x7))) else (none)) else (none)) else (none)) else (spec_l04Attr.l3 k x0 (wrap64 (x7+1)) x8 x9)))) else (none)) else (if 0≤x9 then (if x9≤x7 then (if x7≤(x0.size:Int) then ((spec_l02Un.f k (x0.extract (x9:Int).toNat (x7:Int).toNat)).bind fun t158=>(some (x8,t158,x7))) else (none)) else (none)) else (none))
def spec_l04Attr.l2:Nat→ByteArray→ByteArray→Int→Option (ByteArray × ByteArray × Int)
 | 0,_,_,_=>none
 | k+1,x0,x8,x9=>if x9<(x0.size:Int) then (if 0≤x9 then ((spec_l04Blank.f (bt x0 x9)).bind fun t151=>(if t151=true then (spec_l04Attr.l2 k x0 x8 (wrap64 (x9+1))) else (spec_l04Attr.j6 k x0 x8 x9))) else (none)) else (spec_l04Attr.j6 k x0 x8 x9)
def spec_l04Attr.l1:Nat→ByteArray→Int→ByteArray→Int→Option (ByteArray × ByteArray × Int)
 | 0,_,_,_,_=>none
 | k+1,x0,x7,x8,x9=>if x9<(x0.size:Int) then (if 0≤x9 then ((spec_l04Blank.f (bt x0 x9)).bind fun t150=>(if t150=true then (spec_l04Attr.l1 k x0 x7 x8 (wrap64 (x9+1))) else (spec_l04Attr.j3 k x0 x7 x8 x9))) else (none)) else (spec_l04Attr.j3 k x0 x7 x8 x9)
def spec_l04Attr.l0:Nat→ByteArray→Int→Int→Option (ByteArray × ByteArray × Int)
 | 0,_,_,_=>none
 | k+1,x0,x1,x7=>if x7<(x0.size:Int) then (if 0≤x7 then ((spec_l04Blank.f (bt x0 x7)).bind fun t148=>(if t148=true then (spec_l04Attr.j1 k x0 x1 x7) else (if (bt x0 x7)=47 then (spec_l04Attr.j1 k x0 x1 x7) else (if (bt x0 x7)=62 then (spec_l04Attr.j1 k x0 x1 x7) else (if (bt x0 x7)=61 then (if x7=x1 then (spec_l04Attr.l0 k x0 x1 (wrap64 (x7+1))) else (spec_l04Attr.j1 k x0 x1 x7)) else (spec_l04Attr.l0 k x0 x1 (wrap64 (x7+1)))))))) else (none)) else (spec_l04Attr.j1 k x0 x1 x7)
end
def spec_l04Attr.f (k:Nat) (a0:ByteArray) (a1:Int):Option (ByteArray × ByteArray × Int):=spec_l04Attr.l0 k a0 a1 a1
theorem spec_l04Attr.mono_l:∀ k,(∀ y0 y1 y2,LeO (spec_l04Attr.j1 k y0 y1 y2) (spec_l04Attr.j1 (k+1) y0 y1 y2))∧(∀ y0 y1 y2 y3,LeO (spec_l04Attr.j3 k y0 y1 y2 y3) (spec_l04Attr.j3 (k+1) y0 y1 y2 y3))∧(∀ y0 y1 y2 y3 y4,LeO (spec_l04Attr.j4 k y0 y1 y2 y3 y4) (spec_l04Attr.j4 (k+1) y0 y1 y2 y3 y4))∧(∀ y0 y1 y2,LeO (spec_l04Attr.j6 k y0 y1 y2) (spec_l04Attr.j6 (k+1) y0 y1 y2))∧(∀ y0 y1 y2 y3,LeO (spec_l04Attr.j7 k y0 y1 y2 y3) (spec_l04Attr.j7 (k+1) y0 y1 y2 y3))∧(∀ y0 y1 y2 y3,LeO (spec_l04Attr.l3 k y0 y1 y2 y3) (spec_l04Attr.l3 (k+1) y0 y1 y2 y3))∧(∀ y0 y1 y2,LeO (spec_l04Attr.l2 k y0 y1 y2) (spec_l04Attr.l2 (k+1) y0 y1 y2))∧(∀ y0 y1 y2 y3,LeO (spec_l04Attr.l1 k y0 y1 y2 y3) (spec_l04Attr.l1 (k+1) y0 y1 y2 y3))∧(∀ y0 y1 y2,LeO (spec_l04Attr.l0 k y0 y1 y2) (spec_l04Attr.l0 (k+1) y0 y1 y2))
 | 0=>⟨fun _ _ _ r h=>by simp [spec_l04Attr.j1] at h,fun _ _ _ _ r h=>by simp [spec_l04Attr.j3] at h,fun _ _ _ _ _ r h=>by simp [spec_l04Attr.j4] at h,fun _ _ _ r h=>by simp [spec_l04Attr.j6] at h,fun _ _ _ _ r h=>by simp [spec_l04Attr.j7] at h,fun _ _ _ _ r h=>by simp [spec_l04Attr.l3] at h,fun _ _ _ r h=>by simp [spec_l04Attr.l2] at h,fun _ _ _ _ r h=>by simp [spec_l04Attr.l1] at h,fun _ _ _ r h=>by simp [spec_l04Attr.l0] at h⟩
 | k+1=>by
  obtain ⟨ih0,ih1,ih2,ih3,ih4,ih5,ih6,ih7,ih8⟩:=spec_l04Attr.mono_l k
  refine ⟨?_,?_,?_,?_,?_,?_,?_,?_,?_⟩
  ·intro y0 y1 y2
   unfold spec_l04Attr.j1
   repeat' first|(with_reducible first|exact ih0 ..|exact ih1 ..|exact ih2 ..|exact ih3 ..|exact ih4 ..|exact ih5 ..|exact ih6 ..|exact ih7 ..|exact ih8 ..|exact spec_l01Lower.mono ..|exact spec_l02Un.mono ..|exact spec_l04Find.mono ..|exact LeO.refl _|exact LeO.none _|refine LeO.ite ?_ ?_|refine LeO.bind ?_ (fun _=>?_))|exact ih0 ..|exact ih1 ..|exact ih2 ..|exact ih3 ..|exact ih4 ..|exact ih5 ..|exact ih6 ..|exact ih7 ..|exact ih8 ..|exact LeO.none _|refine LeO.ite ?_ ?_|refine LeO.bind ?_ (fun _=>?_)
  ·intro y0 y1 y2 y3
   unfold spec_l04Attr.j3
   repeat' first|(with_reducible first|exact ih0 ..|exact ih1 ..|exact ih2 ..|exact ih3 ..|exact ih4 ..|exact ih5 ..|exact ih6 ..|exact ih7 ..|exact ih8 ..|exact spec_l01Lower.mono ..|exact spec_l02Un.mono ..|exact spec_l04Find.mono ..|exact LeO.refl _|exact LeO.none _|refine LeO.ite ?_ ?_|refine LeO.bind ?_ (fun _=>?_))|exact ih0 ..|exact ih1 ..|exact ih2 ..|exact ih3 ..|exact ih4 ..|exact ih5 ..|exact ih6 ..|exact ih7 ..|exact ih8 ..|exact LeO.none _|refine LeO.ite ?_ ?_|refine LeO.bind ?_ (fun _=>?_)
  ·intro y0 y1 y2 y3 y4
   unfold spec_l04Attr.j4
   repeat' first|(with_reducible first|exact ih0 ..|exact ih1 ..|exact ih2 ..|exact ih3 ..|exact ih4 ..|exact ih5 ..|exact ih6 ..|exact ih7 ..|exact ih8 ..|exact spec_l01Lower.mono ..|exact spec_l02Un.mono ..|exact spec_l04Find.mono ..|exact LeO.refl _|exact LeO.none _|refine LeO.ite ?_ ?_|refine LeO.bind ?_ (fun _=>?_))|exact ih0 ..|exact ih1 ..|exact ih2 ..|exact ih3 ..|exact ih4 ..|exact ih5 ..|exact ih6 ..|exact ih7 ..|exact ih8 ..|exact LeO.none _|refine LeO.ite ?_ ?_|refine LeO.bind ?_ (fun _=>?_)
  ·intro y0 y1 y2
   unfold spec_l04Attr.j6
   repeat' first|(with_reducible first|exact ih0 ..|exact ih1 ..|exact ih2 ..|exact ih3 ..|exact ih4 ..|exact ih5 ..|exact ih6 ..|exact ih7 ..|exact ih8 ..|exact spec_l01Lower.mono ..|exact spec_l02Un.mono ..|exact spec_l04Find.mono ..|exact LeO.refl _|exact LeO.none _|refine LeO.ite ?_ ?_|refine LeO.bind ?_ (fun _=>?_))|exact ih0 ..|exact ih1 ..|exact ih2 ..|exact ih3 ..|exact ih4 ..|exact ih5 ..|exact ih6 ..|exact ih7 ..|exact ih8 ..|exact LeO.none _|refine LeO.ite ?_ ?_|refine LeO.bind ?_ (fun _=>?_)
  ·intro y0 y1 y2 y3
   unfold spec_l04Attr.j7
   repeat' first|(with_reducible first|exact ih0 ..|exact ih1 ..|exact ih2 ..|exact ih3 ..|exact ih4 ..|exact ih5 ..|exact ih6 ..|exact ih7 ..|exact ih8 ..|exact spec_l01Lower.mono ..|exact spec_l02Un.mono ..|exact spec_l04Find.mono ..|exact LeO.refl _|exact LeO.none _|refine LeO.ite ?_ ?_|refine LeO.bind ?_ (fun _=>?_))|exact ih0 ..|exact ih1 ..|exact ih2 ..|exact ih3 ..|exact ih4 ..|exact ih5 ..|exact ih6 ..|exact ih7 ..|exact ih8 ..|exact LeO.none _|refine LeO.ite ?_ ?_|refine LeO.bind ?_ (fun _=>?_)
  ·intro y0 y1 y2 y3
   unfold spec_l04Attr.l3
   repeat' first|(with_reducible first|exact ih0 ..|exact ih1 ..|exact ih2 ..|exact ih3 ..|exact ih4 ..|exact ih5 ..|exact ih6 ..|exact ih7 ..|exact ih8 ..|exact spec_l01Lower.mono ..|exact spec_l02Un.mono ..|exact spec_l04Find.mono ..|exact LeO.refl _|exact LeO.none _|refine LeO.ite ?_ ?_|refine LeO.bind ?_ (fun _=>?_))|exact ih0 ..|exact ih1 ..|exact ih2 ..|exact ih3 ..|exact ih4 ..|exact ih5 ..|exact ih6 ..|exact ih7 ..|exact ih8 ..|exact LeO.none _|refine LeO.ite ?_ ?_|refine LeO.bind ?_ (fun _=>?_)
  ·intro y0 y1 y2
   unfold spec_l04Attr.l2
   repeat' first|(with_reducible first|exact ih0 ..|exact ih1 ..|exact ih2 ..|exact ih3 ..|exact ih4 ..|exact ih5 ..|exact ih6 ..|exact ih7 ..|exact ih8 ..|exact spec_l01Lower.mono ..|exact spec_l02Un.mono ..|exact spec_l04Find.mono ..|exact LeO.refl _|exact LeO.none _|refine LeO.ite ?_ ?_|refine LeO.bind ?_ (fun _=>?_))|exact ih0 ..|exact ih1 ..|exact ih2 ..|exact ih3 ..|exact ih4 ..|exact ih5 ..|exact ih6 ..|exact ih7 ..|exact ih8 ..|exact LeO.none _|refine LeO.ite ?_ ?_|refine LeO.bind ?_ (fun _=>?_)
  ·intro y0 y1 y2 y3
   unfold spec_l04Attr.l1
   repeat' first|(with_reducible first|exact ih0 ..|exact ih1 ..|exact ih2 ..|exact ih3 ..|exact ih4 ..|exact ih5 ..|exact ih6 ..|exact ih7 ..|exact ih8 ..|exact spec_l01Lower.mono ..|exact spec_l02Un.mono ..|exact spec_l04Find.mono ..|exact LeO.refl _|exact LeO.none _|refine LeO.ite ?_ ?_|refine LeO.bind ?_ (fun _=>?_))|exact ih0 ..|exact ih1 ..|exact ih2 ..|exact ih3 ..|exact ih4 ..|exact ih5 ..|exact ih6 ..|exact ih7 ..|exact ih8 ..|exact LeO.none _|refine LeO.ite ?_ ?_|refine LeO.bind ?_ (fun _=>?_)
  ·intro y0 y1 y2
   unfold spec_l04Attr.l0
   repeat' first|(with_reducible first|exact ih0 ..|exact ih1 ..|exact ih2 ..|exact ih3 ..|exact ih4 ..|exact ih5 ..|exact ih6 ..|exact ih7 ..|exact ih8 ..|exact spec_l01Lower.mono ..|exact spec_l02Un.mono ..|exact spec_l04Find.mono ..|exact LeO.refl _|exact LeO.none _|refine LeO.ite ?_ ?_|refine LeO.bind ?_ (fun _=>?_))|exact ih0 ..|exact ih1 ..|exact ih2 ..|exact ih3 ..|exact ih4 ..|exact ih5 ..|exact ih6 ..|exact ih7 ..|exact ih8 ..|exact LeO.none _|refine LeO.ite ?_ ?_|refine LeO.bind ?_ (fun _=>?_)
theorem spec_l04Attr.mono:∀ a0 a1 k,LeO (spec_l04Attr.f k a0 a1) (spec_l04Attr.f (k+1) a0 a1):=by
 intro a0 a1 k
 obtain ⟨ih0,ih1,ih2,ih3,ih4,ih5,ih6,ih7,ih8⟩:=spec_l04Attr.mono_l k
 unfold spec_l04Attr.f
 repeat' first|(with_reducible first|exact ih0 ..|exact ih1 ..|exact ih2 ..|exact ih3 ..|exact ih4 ..|exact ih5 ..|exact ih6 ..|exact ih7 ..|exact ih8 ..|exact spec_l01Lower.mono ..|exact spec_l02Un.mono ..|exact spec_l04Find.mono ..|exact LeO.refl _|exact LeO.none _|refine LeO.ite ?_ ?_|refine LeO.bind ?_ (fun _=>?_))|exact ih0 ..|exact ih1 ..|exact ih2 ..|exact ih3 ..|exact ih4 ..|exact ih5 ..|exact ih6 ..|exact ih7 ..|exact ih8 ..|exact LeO.none _|refine LeO.ite ?_ ?_|refine LeO.bind ?_ (fun _=>?_)
set_option maxHeartbeats 8000000 in
set_option maxRecDepth 100000 in
theorem spec_l04Attr.calls (k:Nat) (a0:ByteArray) (a1:Int) (r1:ByteArray) (r2:ByteArray) (r3:Int) (w:World) (h:spec_l04Attr.f k a0 a1=some (r1,r2,r3)) :
 Calls Tryz.prog 54 #[.string a0,.int .i64 a1] w fun e w'=>e=.returned (.tuple #[.string r1,.string r2,.int .i64 r3])∧Below w.heap.size w w':=by
 have HB:=A_ (Below.refl w.heap.size w)
 have H:(spec_l04Attr.l0 k a0 a1 a1)=some (r1,r2,r3):=h
 clear h
 have HC3:=A_ H
 clear H
 go_enter Tryz.func54,Tryz.ntmps54
 go_upto_block 0 with (fail)
 go_cut [7] (fun v7 wc=>∃ (kq:Nat) (x7_2:Int),v7=.int .i64 x7_2∧Aside0 (spec_l04Attr.j1 kq a0 a1 x7_2=some (r1,r2,r3))∧Aside0 (kq≤k)∧Aside0 (Below w.heap.size w wc))
 case first =>
  have H:=HC3.out
  clear HC3
  have H':=A_ H
  clear H
  go_wp2
  go_loopg [7] k (fun kq v7 w'=>∃ (x7_1:Int),v7=.int .i64 x7_1∧Aside0 (spec_l04Attr.l0 kq a0 a1 x7_1=some (r1,r2,r3))∧Aside0 (kq≤k)∧Aside0 (Below w.heap.size w w'))
  case atStart=>exact ⟨(a1),rs_,H',⟨Nat.le_refl _⟩,⟨bq0_ HB.out⟩⟩
  case round =>
   clear H'
   try clear p2
   obtain ⟨x7_1,rfl,HA,HK1,HB⟩:=hrel
   cases gk with
   | zero=>exact absurd HA.out (by simp [spec_l04Attr.l0])
   | succ k1 =>
    have H:=HA.out
    clear HA
    simp only [spec_l04Attr.l0] at H
    by_cases c4:x7_1<(a0.size:Int)
    ·rw [if_pos c4] at H
     have c4b0:decide (x7_1<(a0.size:Int))=true:=dt_ c4
     clear c4
     (first|rw [c4b0]|(simp only [i64_w,i32_w];rw [c4b0])|skip)
     by_cases c5:0≤x7_1
     ·rw [if_pos c5] at H
      have c5b0:decide (0≤x7_1)=true:=dt_ c5
      clear c5
      replace H:=ob_ H
      obtain ⟨t148,A70,H⟩:=H
      replace H:(if t148=true then (spec_l04Attr.j1 k1 a0 a1 x7_1) else (if (bt a0 x7_1)=47 then (spec_l04Attr.j1 k1 a0 a1 x7_1) else (if (bt a0 x7_1)=62 then (spec_l04Attr.j1 k1 a0 a1 x7_1) else (if (bt a0 x7_1)=61 then (if x7_1=a1 then (spec_l04Attr.l0 k1 a0 a1 (wrap64 (x7_1+1))) else (spec_l04Attr.j1 k1 a0 a1 x7_1)) else (spec_l04Attr.l0 k1 a0 a1 (wrap64 (x7_1+1)))))))=some (r1,r2,r3):=H
      have A7:=A_ A70
      clear A70
      by_cases c8:t148=true
      ·subst c8
       have H1:(spec_l04Attr.j1 k1 a0 a1 x7_1)=some (r1,r2,r3):=by rw [if_pos rfl] at H;exact H
       clear H
       have H:=H1
       clear H1
       have H':=A_ H
       clear H
       have p6:0≤(x7_1:Int):=oa_
       have q6:x7_1<(a0.size:Int):=oa_
       have hx6:=bt_at a0 x7_1
       replace p6:=eq_true p6
       replace q6:=eq_true q6
       go_wp2_with (first|(go_at_call 51;(with_reducible refine (spec_l04Blank.calls (bt a0 x7_1) true _ A7.out).mono ?_);rintro e w' ⟨rfl,⟨nd,rfl⟩⟩))
       go_meet
       case rel=>exact ⟨_,(x7_1),rs_,H',⟨by have:=HK1.out;first|omega|exact Nat.le_refl _⟩,⟨bq0_ HB.out⟩⟩
      ·replace c8:=bm_ c8
       subst c8
       have H1:(if (bt a0 x7_1)=47 then (spec_l04Attr.j1 k1 a0 a1 x7_1) else (if (bt a0 x7_1)=62 then (spec_l04Attr.j1 k1 a0 a1 x7_1) else (if (bt a0 x7_1)=61 then (if x7_1=a1 then (spec_l04Attr.l0 k1 a0 a1 (wrap64 (x7_1+1))) else (spec_l04Attr.j1 k1 a0 a1 x7_1)) else (spec_l04Attr.l0 k1 a0 a1 (wrap64 (x7_1+1))))))=some (r1,r2,r3):=by rw [if_neg (show ¬ (false=true) by decide)] at H;exact H
       clear H
       have H:=H1
       clear H1
       by_cases c10:(bt a0 x7_1)=47
       ·rw [if_pos c10] at H
        have c10b0:((bt a0 x7_1) == 47)=true:=beq_iff_eq.mpr c10
        have c10b1:((bt a0 x7_1) != 47)=false:=bne_eq_false_iff_eq.mpr c10
        clear c10
        have H':=A_ H
        clear H
        have p6:0≤(x7_1:Int):=oa_
        have q6:x7_1<(a0.size:Int):=oa_
        have hx6:=bt_at a0 x7_1
        replace p6:=eq_true p6
        replace q6:=eq_true q6
        go_wp2_with (first|(go_at_call 51;(with_reducible refine (spec_l04Blank.calls (bt a0 x7_1) false _ A7.out).mono ?_);rintro e w' ⟨rfl,⟨nd,rfl⟩⟩;have p9:0≤(x7_1:Int):=oa_;have q9:x7_1<(a0.size:Int):=oa_;have hx9:=bt_at a0 x7_1;replace p9:=eq_true p9;replace q9:=eq_true q9))
        go_meet
        case rel=>exact ⟨_,(x7_1),rs_,H',⟨by have:=HK1.out;first|omega|exact Nat.le_refl _⟩,⟨bq0_ HB.out⟩⟩
       ·rw [if_neg c10] at H
        have c10b0:((bt a0 x7_1) == 47)=false:=beq_eq_false_iff_ne.mpr c10
        have c10b1:((bt a0 x7_1) != 47)=true:=bne_iff_ne.mpr c10
        by_cases c12:(bt a0 x7_1)=62
        ·rw [if_pos c12] at H
         have c12b0:((bt a0 x7_1) == 62)=true:=beq_iff_eq.mpr c12
         have c12b1:((bt a0 x7_1) != 62)=false:=bne_eq_false_iff_eq.mpr c12
         clear c12
         have H':=A_ H
         clear H
         have p6:0≤(x7_1:Int):=oa_
         have q6:x7_1<(a0.size:Int):=oa_
         have hx6:=bt_at a0 x7_1
         replace p6:=eq_true p6
         replace q6:=eq_true q6
         go_wp2_with (first|(go_at_call 51;(with_reducible refine (spec_l04Blank.calls (bt a0 x7_1) false _ A7.out).mono ?_);rintro e w' ⟨rfl,⟨nd,rfl⟩⟩;have p9:0≤(x7_1:Int):=oa_;have q9:x7_1<(a0.size:Int):=oa_;have hx9:=bt_at a0 x7_1;replace p9:=eq_true p9;replace q9:=eq_true q9;have p11:0≤(x7_1:Int):=oa_;have q11:x7_1<(a0.size:Int):=oa_;have hx11:=bt_at a0 x7_1;replace p11:=eq_true p11;replace q11:=eq_true q11))
         go_meet
         case rel=>exact ⟨_,(x7_1),rs_,H',⟨by have:=HK1.out;first|omega|exact Nat.le_refl _⟩,⟨bq0_ HB.out⟩⟩
        ·rw [if_neg c12] at H
         have c12b0:((bt a0 x7_1) == 62)=false:=beq_eq_false_iff_ne.mpr c12
         have c12b1:((bt a0 x7_1) != 62)=true:=bne_iff_ne.mpr c12
         by_cases c14:(bt a0 x7_1)=61
         ·rw [if_pos c14] at H
          have c14b0:((bt a0 x7_1) == 61)=true:=beq_iff_eq.mpr c14
          have c14b1:((bt a0 x7_1) != 61)=false:=bne_eq_false_iff_eq.mpr c14
          clear c14
          by_cases c15:x7_1=a1
          ·rw [if_pos c15] at H
           have c15b0:(x7_1 == a1)=true:=beq_iff_eq.mpr c15
           have c15b1:(x7_1 != a1)=false:=bne_eq_false_iff_eq.mpr c15
           clear c15
           have H':=A_ H
           clear H
           have p6:0≤(x7_1:Int):=oa_
           have q6:x7_1<(a0.size:Int):=oa_
           have hx6:=bt_at a0 x7_1
           replace p6:=eq_true p6
           replace q6:=eq_true q6
           go_wp2_with (first|(go_at_call 51;(with_reducible refine (spec_l04Blank.calls (bt a0 x7_1) false _ A7.out).mono ?_);rintro e w' ⟨rfl,⟨nd,rfl⟩⟩;have p9:0≤(x7_1:Int):=oa_;have q9:x7_1<(a0.size:Int):=oa_;have hx9:=bt_at a0 x7_1;replace p9:=eq_true p9;replace q9:=eq_true q9;have p11:0≤(x7_1:Int):=oa_;have q11:x7_1<(a0.size:Int):=oa_;have hx11:=bt_at a0 x7_1;replace p11:=eq_true p11;replace q11:=eq_true q11;have p13:0≤(x7_1:Int):=oa_;have q13:x7_1<(a0.size:Int):=oa_;have hx13:=bt_at a0 x7_1;replace p13:=eq_true p13;replace q13:=eq_true q13))
           go_roundg k1
           case measure=>have:=HK1.out;omega
           case rel=>exact ⟨(wrap64 (x7_1+1)),rs_,H',⟨by have:=HK1.out;omega⟩,⟨bq0_ HB.out⟩⟩
          ·rw [if_neg c15] at H
           have c15b0:(x7_1 == a1)=false:=beq_eq_false_iff_ne.mpr c15
           have c15b1:(x7_1 != a1)=true:=bne_iff_ne.mpr c15
           have H':=A_ H
           clear H
           have p6:0≤(x7_1:Int):=oa_
           have q6:x7_1<(a0.size:Int):=oa_
           have hx6:=bt_at a0 x7_1
           replace p6:=eq_true p6
           replace q6:=eq_true q6
           go_wp2_with (first|(go_at_call 51;(with_reducible refine (spec_l04Blank.calls (bt a0 x7_1) false _ A7.out).mono ?_);rintro e w' ⟨rfl,⟨nd,rfl⟩⟩;have p9:0≤(x7_1:Int):=oa_;have q9:x7_1<(a0.size:Int):=oa_;have hx9:=bt_at a0 x7_1;replace p9:=eq_true p9;replace q9:=eq_true q9;have p11:0≤(x7_1:Int):=oa_;have q11:x7_1<(a0.size:Int):=oa_;have hx11:=bt_at a0 x7_1;replace p11:=eq_true p11;replace q11:=eq_true q11;have p13:0≤(x7_1:Int):=oa_;have q13:x7_1<(a0.size:Int):=oa_;have hx13:=bt_at a0 x7_1;replace p13:=eq_true p13;replace q13:=eq_true q13))
           go_meet
           case rel=>exact ⟨_,(x7_1),rs_,H',⟨by have:=HK1.out;first|omega|exact Nat.le_refl _⟩,⟨bq0_ HB.out⟩⟩
         ·rw [if_neg c14] at H
          have c14b0:((bt a0 x7_1) == 61)=false:=beq_eq_false_iff_ne.mpr c14
          have c14b1:((bt a0 x7_1) != 61)=true:=bne_iff_ne.mpr c14
          have H':=A_ H
          clear H
          have p6:0≤(x7_1:Int):=oa_
          have q6:x7_1<(a0.size:Int):=oa_
          have hx6:=bt_at a0 x7_1
          replace p6:=eq_true p6
          replace q6:=eq_true q6
          go_wp2_with (first|(go_at_call 51;(with_reducible refine (spec_l04Blank.calls (bt a0 x7_1) false _ A7.out).mono ?_);rintro e w' ⟨rfl,⟨nd,rfl⟩⟩;have p9:0≤(x7_1:Int):=oa_;have q9:x7_1<(a0.size:Int):=oa_;have hx9:=bt_at a0 x7_1;replace p9:=eq_true p9;replace q9:=eq_true q9;have p11:0≤(x7_1:Int):=oa_;have q11:x7_1<(a0.size:Int):=oa_;have hx11:=bt_at a0 x7_1;replace p11:=eq_true p11;replace q11:=eq_true q11;have p13:0≤(x7_1:Int):=oa_;have q13:x7_1<(a0.size:Int):=oa_;have hx13:=bt_at a0 x7_1;replace p13:=eq_true p13;replace q13:=eq_true q13))
          go_roundg k1
          case measure=>have:=HK1.out;omega
          case rel=>exact ⟨(wrap64 (x7_1+1)),rs_,H',⟨by have:=HK1.out;omega⟩,⟨bq0_ HB.out⟩⟩
     ·rw [if_neg c5] at H
      exact absurd H (by simp)
    ·rw [if_neg c4] at H
     have c4b0:decide (x7_1<(a0.size:Int))=false:=df_ c4
     clear c4
     (first|rw [c4b0]|(simp only [i64_w,i32_w];rw [c4b0])|skip)
     have H':=A_ H
     clear H
     go_wp2
     go_meet
     case rel=>exact ⟨_,(x7_1),rs_,H',⟨by have:=HK1.out;first|omega|exact Nat.le_refl _⟩,⟨bq0_ HB.out⟩⟩
 case rest =>
  clear HC3
  try clear c1
  try clear p1
  try clear q1
  try clear hx1
  try clear p2
  try clear c4
  try clear c4b0
  try clear c5
  try clear c5b0
  try clear p6
  try clear q6
  try clear hx6
  try clear c8
  try clear p9
  try clear q9
  try clear hx9
  try clear c10
  try clear c10b0
  try clear c10b1
  try clear p11
  try clear q11
  try clear hx11
  try clear c12
  try clear c12b0
  try clear c12b1
  try clear p13
  try clear q13
  try clear hx13
  try clear c14
  try clear c14b0
  try clear c14b1
  try clear c15
  try clear c15b0
  try clear c15b1
  try clear p11
  try clear p13
  try clear p2
  try clear p6
  try clear p9
  try clear q11
  try clear q13
  try clear q6
  try clear q9
  obtain ⟨kq,x7_2,rfl,HA,HJ2,HB⟩:=hcut
  cases kq with
  | zero=>exact absurd HA.out (by simp [spec_l04Attr.j1])
  | succ kj2 =>
   have H:=HA.out
   clear HA
   simp only [spec_l04Attr.j1] at H
   by_cases c16:0≤a1
   ·rw [if_pos c16] at H
    have c16b0:=eq_true c16
    have c16b1:decide (0≤a1)=true:=dt_ c16
    clear c16
    by_cases c17:a1≤x7_2
    ·rw [if_pos c17] at H
     have c17b0:=eq_true c17
     have c17b1:decide (a1≤x7_2)=true:=dt_ c17
     clear c17
     by_cases c18:x7_2≤(a0.size:Int)
     ·rw [if_pos c18] at H
      have c18b0:=eq_true c18
      have c18b1:decide (x7_2≤(a0.size:Int))=true:=dt_ c18
      clear c18
      replace H:=ob_ H
      obtain ⟨t149,A190,H⟩:=H
      replace H:(spec_l04Attr.l1 kj2 a0 x7_2 t149 x7_2)=some (r1,r2,r3):=H
      have A19:=A_ A190
      clear A190
      have HC20:=A_ H
      clear H
      go_upto_block 2 with (first|((with_reducible refine gate_callee (f:=50) rfl ?_);refine gl_ (some 53) rfl rfl Tryz.func50 (by kernel_rfl) rfl #[.string (a0.extract (a1:Int).toNat (x7_2:Int).toNat)] rfl  ?_;(with_reducible refine (spec_l01Lower.calls kj2 (a0.extract (a1:Int).toNat (x7_2:Int).toNat) t149 _ A19.out).mono ?_);rintro e w21 ⟨rfl,hb⟩;refine ⟨_,rfl,?_⟩;have n0_:=A_ (bp_ (bq0_ HB.out) hb);clear HB;have HB:=n0_;clear n0_;(try clear hb);(try clear hb2);(try clear hk);(try clear hi)))
      (try simp only [Act.put,ls_,lz_,lc_])
      go_cut [9] (fun v9 wc=>∃ (kq:Nat) (x9_19:Int),v9=.int .i64 x9_19∧Aside0 (spec_l04Attr.j3 kq a0 x7_2 t149 x9_19=some (r1,r2,r3))∧Aside0 (kq≤kj2)∧Aside0 (Below w.heap.size w wc))
      case first =>
       have H:=HC20.out
       clear HC20
       have H':=A_ H
       clear H
       go_wp2
       go_loopg [9] kj2 (fun kq v9 w'=>∃ (x9_2:Int),v9=.int .i64 x9_2∧Aside0 (spec_l04Attr.l1 kq a0 x7_2 t149 x9_2=some (r1,r2,r3))∧Aside0 (kq≤kj2)∧Aside0 (Below w.heap.size w w'))
       case atStart=>exact ⟨(x7_2),rs_,H',⟨Nat.le_refl _⟩,⟨bq0_ HB.out⟩⟩
       case round =>
        clear H'
        try clear c1
        try clear p1
        try clear q1
        try clear hx1
        try clear p2
        try clear c4
        try clear c4b0
        try clear c5
        try clear c5b0
        try clear p6
        try clear q6
        try clear hx6
        try clear c8
        try clear p9
        try clear q9
        try clear hx9
        try clear c10
        try clear c10b0
        try clear c10b1
        try clear p11
        try clear q11
        try clear hx11
        try clear c12
        try clear c12b0
        try clear c12b1
        try clear p13
        try clear q13
        try clear hx13
        try clear c14
        try clear c14b0
        try clear c14b1
        try clear c15
        try clear c15b0
        try clear c15b1
        try clear c16
        try clear c16b0
        try clear c16b1
        try clear c17
        try clear c17b0
        try clear c17b1
        try clear c18
        try clear c18b0
        try clear c18b1
        try clear p1
        try clear p11
        try clear p13
        try clear p2
        try clear p6
        try clear p9
        try clear q1
        try clear q11
        try clear q13
        try clear q6
        try clear q9
        obtain ⟨x9_2,rfl,HA,HK2,HB⟩:=hrel
        cases gk with
        | zero=>exact absurd HA.out (by simp [spec_l04Attr.l1])
        | succ k2 =>
         have H:=HA.out
         clear HA
         simp only [spec_l04Attr.l1] at H
         by_cases c22:x9_2<(a0.size:Int)
         ·rw [if_pos c22] at H
          have c22b0:decide (x9_2<(a0.size:Int))=true:=dt_ c22
          clear c22
          (first|rw [c22b0]|(simp only [i64_w,i32_w];rw [c22b0])|skip)
          by_cases c23:0≤x9_2
          ·rw [if_pos c23] at H
           have c23b0:decide (0≤x9_2)=true:=dt_ c23
           clear c23
           replace H:=ob_ H
           obtain ⟨t150,A250,H⟩:=H
           replace H:(if t150=true then (spec_l04Attr.l1 k2 a0 x7_2 t149 (wrap64 (x9_2+1))) else (spec_l04Attr.j3 k2 a0 x7_2 t149 x9_2))=some (r1,r2,r3):=H
           have A25:=A_ A250
           clear A250
           by_cases c26:t150=true
           ·subst c26
            have H1:(spec_l04Attr.l1 k2 a0 x7_2 t149 (wrap64 (x9_2+1)))=some (r1,r2,r3):=by rw [if_pos rfl] at H;exact H
            clear H
            have H:=H1
            clear H1
            have H':=A_ H
            clear H
            have p24:0≤(x9_2:Int):=oa_
            have q24:x9_2<(a0.size:Int):=oa_
            have hx24:=bt_at a0 x9_2
            replace p24:=eq_true p24
            replace q24:=eq_true q24
            go_wp2_with (first|(go_at_call 51;(with_reducible refine (spec_l04Blank.calls (bt a0 x9_2) true _ A25.out).mono ?_);rintro e w' ⟨rfl,⟨nd,rfl⟩⟩))
            go_roundg k2
            case measure=>have:=HJ2.out;have:=HK2.out;omega
            case rel=>exact ⟨(wrap64 (x9_2+1)),rs_,H',⟨by have:=HJ2.out;have:=HK2.out;omega⟩,⟨bq0_ HB.out⟩⟩
           ·replace c26:=bm_ c26
            subst c26
            have H1:(spec_l04Attr.j3 k2 a0 x7_2 t149 x9_2)=some (r1,r2,r3):=by rw [if_neg (show ¬ (false=true) by decide)] at H;exact H
            clear H
            have H:=H1
            clear H1
            have H':=A_ H
            clear H
            have p24:0≤(x9_2:Int):=oa_
            have q24:x9_2<(a0.size:Int):=oa_
            have hx24:=bt_at a0 x9_2
            replace p24:=eq_true p24
            replace q24:=eq_true q24
            go_wp2_with (first|(go_at_call 51;(with_reducible refine (spec_l04Blank.calls (bt a0 x9_2) false _ A25.out).mono ?_);rintro e w' ⟨rfl,⟨nd,rfl⟩⟩))
            go_meet
            case rel=>exact ⟨_,(x9_2),rs_,H',⟨by have:=HJ2.out;have:=HK2.out;first|omega|exact Nat.le_refl _⟩,⟨bq0_ HB.out⟩⟩
          ·rw [if_neg c23] at H
           exact absurd H (by simp)
         ·rw [if_neg c22] at H
          have c22b0:decide (x9_2<(a0.size:Int))=false:=df_ c22
          clear c22
          (first|rw [c22b0]|(simp only [i64_w,i32_w];rw [c22b0])|skip)
          have H':=A_ H
          clear H
          go_wp2
          go_meet
          case rel=>exact ⟨_,(x9_2),rs_,H',⟨by have:=HJ2.out;have:=HK2.out;first|omega|exact Nat.le_refl _⟩,⟨bq0_ HB.out⟩⟩
      case rest =>
       clear HC20
       try clear c1
       try clear p1
       try clear q1
       try clear hx1
       try clear c2
       try clear p2
       try clear q2
       try clear hx2
       try clear c4
       try clear c4b0
       try clear c5
       try clear c5b0
       try clear p6
       try clear q6
       try clear hx6
       try clear c8
       try clear p9
       try clear q9
       try clear hx9
       try clear c10
       try clear c10b0
       try clear c10b1
       try clear p11
       try clear q11
       try clear hx11
       try clear c12
       try clear c12b0
       try clear c12b1
       try clear p13
       try clear q13
       try clear hx13
       try clear c14
       try clear c14b0
       try clear c14b1
       try clear c15
       try clear c15b0
       try clear c15b1
       try clear c16
       try clear c16b0
       try clear c16b1
       try clear c17
       try clear c17b0
       try clear c17b1
       try clear c18
       try clear c18b0
       try clear c18b1
       try clear c22
       try clear c22b0
       try clear c23
       try clear c23b0
       try clear p24
       try clear q24
       try clear hx24
       try clear c26
       try clear p1
       try clear p11
       try clear p13
       try clear p2
       try clear p24
       try clear p6
       try clear p9
       try clear q1
       try clear q11
       try clear q13
       try clear q24
       try clear q6
       try clear q9
       obtain ⟨kq,x9_19,rfl,HA,HJ19,HB⟩:=hcut
       cases kq with
       | zero=>exact absurd HA.out (by simp [spec_l04Attr.j3])
       | succ kj19 =>
        have H:=HA.out
        clear HA
        simp only [spec_l04Attr.j3] at H
        have HC27:=A_ H
        clear H
        go_upto_region 8 with (fail)
        go_cut [76] (fun v76 wc=>∃ (kq:Nat) (x76_26:Bool),v76=.bool x76_26∧Aside0 (spec_l04Attr.j4 kq a0 x7_2 t149 x9_19 x76_26=some (r1,r2,r3))∧Aside0 (kq≤kj19)∧Aside0 (Below w.heap.size w wc))
        case first =>
         have H:=HC27.out
         clear HC27
         by_cases c28:x9_19=(a0.size:Int)
         ·rw [if_pos c28] at H
          have c28b0:(x9_19 == (a0.size:Int))=true:=beq_iff_eq.mpr c28
          have c28b1:(x9_19 != (a0.size:Int))=false:=bne_eq_false_iff_eq.mpr c28
          clear c28
          (first|rw [c28b0]|(simp only [i64_w,i32_w];rw [c28b0])|skip)
          have H':=A_ H
          clear H
          go_wp2
          go_meet
          case rel=>exact ⟨_,(true),rs_,H',⟨by have:=HJ2.out;have:=HJ19.out;first|omega|exact Nat.le_refl _⟩,⟨bq0_ HB.out⟩⟩
         ·rw [if_neg c28] at H
          have c28b0:(x9_19 == (a0.size:Int))=false:=beq_eq_false_iff_ne.mpr c28
          have c28b1:(x9_19 != (a0.size:Int))=true:=bne_iff_ne.mpr c28
          (first|rw [c28b0]|(simp only [i64_w,i32_w];rw [c28b0])|skip)
          by_cases c29:0≤x9_19
          ·rw [if_pos c29] at H
           have c29b0:decide (0≤x9_19)=true:=dt_ c29
           clear c29
           by_cases c30:x9_19<(a0.size:Int)
           ·rw [if_pos c30] at H
            have c30b0:decide (x9_19<(a0.size:Int))=true:=dt_ c30
            clear c30
            have H':=A_ H
            clear H
            have p31:0≤(x9_19:Int):=oa_
            have q31:x9_19<(a0.size:Int):=oa_
            have hx31:=bt_at a0 x9_19
            replace p31:=eq_true p31
            replace q31:=eq_true q31
            go_wp2
            go_meet
            case rel=>exact ⟨_,(((bt a0 x9_19) != 61)),rs_,H',⟨by have:=HJ2.out;have:=HJ19.out;first|omega|exact Nat.le_refl _⟩,⟨bq0_ HB.out⟩⟩
           ·rw [if_neg c30] at H
            exact absurd H (by simp)
          ·rw [if_neg c29] at H
           exact absurd H (by simp)
        case rest =>
         clear HC27
         try clear c1
         try clear p1
         try clear q1
         try clear hx1
         try clear c2
         try clear p2
         try clear q2
         try clear hx2
         try clear c3
         try clear p3
         try clear q3
         try clear hx3
         try clear c4
         try clear c4b0
         try clear c5
         try clear c5b0
         try clear p6
         try clear q6
         try clear hx6
         try clear c8
         try clear p9
         try clear q9
         try clear hx9
         try clear c10
         try clear c10b0
         try clear c10b1
         try clear p11
         try clear q11
         try clear hx11
         try clear c12
         try clear c12b0
         try clear c12b1
         try clear p13
         try clear q13
         try clear hx13
         try clear c14
         try clear c14b0
         try clear c14b1
         try clear c15
         try clear c15b0
         try clear c15b1
         try clear c16
         try clear c16b0
         try clear c16b1
         try clear c17
         try clear c17b0
         try clear c17b1
         try clear c18
         try clear c18b0
         try clear c18b1
         try clear c22
         try clear c22b0
         try clear c23
         try clear c23b0
         try clear p24
         try clear q24
         try clear hx24
         try clear c26
         try clear c28
         try clear c28b0
         try clear c28b1
         try clear c29
         try clear c29b0
         try clear c30
         try clear c30b0
         try clear p31
         try clear q31
         try clear hx31
         try clear p1
         try clear p11
         try clear p13
         try clear p2
         try clear p24
         try clear p31
         try clear p6
         try clear p9
         try clear q1
         try clear q11
         try clear q13
         try clear q2
         try clear q24
         try clear q31
         try clear q6
         try clear q9
         obtain ⟨kq,x76_26,rfl,HA,HJ26,HB⟩:=hcut
         cases kq with
         | zero=>exact absurd HA.out (by simp [spec_l04Attr.j4])
         | succ kj26 =>
          have H:=HA.out
          clear HA
          simp only [spec_l04Attr.j4] at H
          by_cases c32:x76_26=true
          ·subst c32
           have H1:(some (t149,(⟨#[]⟩:ByteArray),x7_2))=some (r1,r2,r3):=by rw [if_pos rfl] at H;exact H
           clear H
           have H:=H1
           clear H1
           simp only [Option.some.injEq,Prod.mk.injEq] at H
           obtain ⟨rfl,rfl,rfl⟩:=H
           go_wp2
           go_ret3
           exact ⟨by first|rfl|(simp [errW_none,errW_some] <;> rfl)|(simp [*,errW_none,errW_some] <;> rfl),bq0_ HB.out⟩
          ·replace c32:=bm_ c32
           subst c32
           have H1:(spec_l04Attr.l2 kj26 a0 t149 (wrap64 (x9_19+1)))=some (r1,r2,r3):=by rw [if_neg (show ¬ (false=true) by decide)] at H;exact H
           clear H
           have H:=H1
           clear H1
           have HC33:=A_ H
           clear H
           go_upto_block 4 with (fail)
           go_cut [9] (fun v9 wc=>∃ (kq:Nat) (x9_32:Int),v9=.int .i64 x9_32∧Aside0 (spec_l04Attr.j6 kq a0 t149 x9_32=some (r1,r2,r3))∧Aside0 (kq≤kj26)∧Aside0 (Below w.heap.size w wc))
           case first =>
            have H:=HC33.out
            clear HC33
            have H':=A_ H
            clear H
            go_wp2
            go_loopg [9] kj26 (fun kq v9 w'=>∃ (x9_4:Int),v9=.int .i64 x9_4∧Aside0 (spec_l04Attr.l2 kq a0 t149 x9_4=some (r1,r2,r3))∧Aside0 (kq≤kj26)∧Aside0 (Below w.heap.size w w'))
            case atStart=>exact ⟨(wrap64 (x9_19+1)),rs_,H',⟨Nat.le_refl _⟩,⟨bq0_ HB.out⟩⟩
            case round =>
             clear H'
             try clear c1
             try clear p1
             try clear q1
             try clear hx1
             try clear c2
             try clear p2
             try clear q2
             try clear hx2
             try clear c3
             try clear p3
             try clear q3
             try clear hx3
             try clear c4
             try clear c4b0
             try clear c5
             try clear c5b0
             try clear p6
             try clear q6
             try clear hx6
             try clear c8
             try clear p9
             try clear q9
             try clear hx9
             try clear c10
             try clear c10b0
             try clear c10b1
             try clear p11
             try clear q11
             try clear hx11
             try clear c12
             try clear c12b0
             try clear c12b1
             try clear p13
             try clear q13
             try clear hx13
             try clear c14
             try clear c14b0
             try clear c14b1
             try clear c15
             try clear c15b0
             try clear c15b1
             try clear c16
             try clear c16b0
             try clear c16b1
             try clear c17
             try clear c17b0
             try clear c17b1
             try clear c18
             try clear c18b0
             try clear c18b1
             try clear c22
             try clear c22b0
             try clear c23
             try clear c23b0
             try clear p24
             try clear q24
             try clear hx24
             try clear c26
             try clear c28
             try clear c28b0
             try clear c28b1
             try clear c29
             try clear c29b0
             try clear c30
             try clear c30b0
             try clear p31
             try clear q31
             try clear hx31
             try clear c32
             try clear p1
             try clear p11
             try clear p13
             try clear p2
             try clear p24
             try clear p3
             try clear p31
             try clear p6
             try clear p9
             try clear q1
             try clear q11
             try clear q13
             try clear q2
             try clear q24
             try clear q3
             try clear q31
             try clear q6
             try clear q9
             obtain ⟨x9_4,rfl,HA,HK4,HB⟩:=hrel
             cases gk with
             | zero=>exact absurd HA.out (by simp [spec_l04Attr.l2])
             | succ k4 =>
              have H:=HA.out
              clear HA
              simp only [spec_l04Attr.l2] at H
              by_cases c34:x9_4<(a0.size:Int)
              ·rw [if_pos c34] at H
               have c34b0:decide (x9_4<(a0.size:Int))=true:=dt_ c34
               clear c34
               (first|rw [c34b0]|(simp only [i64_w,i32_w];rw [c34b0])|skip)
               by_cases c35:0≤x9_4
               ·rw [if_pos c35] at H
                have c35b0:decide (0≤x9_4)=true:=dt_ c35
                clear c35
                replace H:=ob_ H
                obtain ⟨t151,A370,H⟩:=H
                replace H:(if t151=true then (spec_l04Attr.l2 k4 a0 t149 (wrap64 (x9_4+1))) else (spec_l04Attr.j6 k4 a0 t149 x9_4))=some (r1,r2,r3):=H
                have A37:=A_ A370
                clear A370
                by_cases c38:t151=true
                ·subst c38
                 have H1:(spec_l04Attr.l2 k4 a0 t149 (wrap64 (x9_4+1)))=some (r1,r2,r3):=by rw [if_pos rfl] at H;exact H
                 clear H
                 have H:=H1
                 clear H1
                 have H':=A_ H
                 clear H
                 have p36:0≤(x9_4:Int):=oa_
                 have q36:x9_4<(a0.size:Int):=oa_
                 have hx36:=bt_at a0 x9_4
                 replace p36:=eq_true p36
                 replace q36:=eq_true q36
                 go_wp2_with (first|(go_at_call 51;(with_reducible refine (spec_l04Blank.calls (bt a0 x9_4) true _ A37.out).mono ?_);rintro e w' ⟨rfl,⟨nd,rfl⟩⟩))
                 go_roundg k4
                 case measure=>have:=HJ2.out;have:=HJ19.out;have:=HJ26.out;have:=HK4.out;omega
                 case rel=>exact ⟨(wrap64 (x9_4+1)),rs_,H',⟨by have:=HJ2.out;have:=HJ19.out;have:=HJ26.out;have:=HK4.out;omega⟩,⟨bq0_ HB.out⟩⟩
                ·replace c38:=bm_ c38
                 subst c38
                 have H1:(spec_l04Attr.j6 k4 a0 t149 x9_4)=some (r1,r2,r3):=by rw [if_neg (show ¬ (false=true) by decide)] at H;exact H
                 clear H
                 have H:=H1
                 clear H1
                 have H':=A_ H
                 clear H
                 have p36:0≤(x9_4:Int):=oa_
                 have q36:x9_4<(a0.size:Int):=oa_
                 have hx36:=bt_at a0 x9_4
                 replace p36:=eq_true p36
                 replace q36:=eq_true q36
                 go_wp2_with (first|(go_at_call 51;(with_reducible refine (spec_l04Blank.calls (bt a0 x9_4) false _ A37.out).mono ?_);rintro e w' ⟨rfl,⟨nd,rfl⟩⟩))
                 go_meet
                 case rel=>exact ⟨_,(x9_4),rs_,H',⟨by have:=HJ2.out;have:=HJ19.out;have:=HJ26.out;have:=HK4.out;first|omega|exact Nat.le_refl _⟩,⟨bq0_ HB.out⟩⟩
               ·rw [if_neg c35] at H
                exact absurd H (by simp)
              ·rw [if_neg c34] at H
               have c34b0:decide (x9_4<(a0.size:Int))=false:=df_ c34
               clear c34
               (first|rw [c34b0]|(simp only [i64_w,i32_w];rw [c34b0])|skip)
               have H':=A_ H
               clear H
               go_wp2
               go_meet
               case rel=>exact ⟨_,(x9_4),rs_,H',⟨by have:=HJ2.out;have:=HJ19.out;have:=HJ26.out;have:=HK4.out;first|omega|exact Nat.le_refl _⟩,⟨bq0_ HB.out⟩⟩
           case rest =>
            clear HC33
            try clear c1
            try clear p1
            try clear q1
            try clear hx1
            try clear c2
            try clear p2
            try clear q2
            try clear hx2
            try clear c3
            try clear p3
            try clear q3
            try clear hx3
            try clear c4
            try clear c4b0
            try clear c5
            try clear c5b0
            try clear p6
            try clear q6
            try clear hx6
            try clear c8
            try clear p9
            try clear q9
            try clear hx9
            try clear c10
            try clear c10b0
            try clear c10b1
            try clear p11
            try clear q11
            try clear hx11
            try clear c12
            try clear c12b0
            try clear c12b1
            try clear p13
            try clear q13
            try clear hx13
            try clear c14
            try clear c14b0
            try clear c14b1
            try clear c15
            try clear c15b0
            try clear c15b1
            try clear c16
            try clear c16b0
            try clear c16b1
            try clear c17
            try clear c17b0
            try clear c17b1
            try clear c18
            try clear c18b0
            try clear c18b1
            try clear c22
            try clear c22b0
            try clear c23
            try clear c23b0
            try clear p24
            try clear q24
            try clear hx24
            try clear c26
            try clear c28
            try clear c28b0
            try clear c28b1
            try clear c29
            try clear c29b0
            try clear c30
            try clear c30b0
            try clear p31
            try clear q31
            try clear hx31
            try clear c32
            try clear c34
            try clear c34b0
            try clear c35
            try clear c35b0
            try clear p36
            try clear q36
            try clear hx36
            try clear c38
            try clear p1
            try clear p11
            try clear p13
            try clear p2
            try clear p24
            try clear p3
            try clear p31
            try clear p36
            try clear p6
            try clear p9
            try clear q1
            try clear q11
            try clear q13
            try clear q2
            try clear q24
            try clear q3
            try clear q31
            try clear q36
            try clear q6
            try clear q9
            obtain ⟨kq,x9_32,rfl,HA,HJ32,HB⟩:=hcut
            cases kq with
            | zero=>exact absurd HA.out (by simp [spec_l04Attr.j6])
            | succ kj32 =>
             have H:=HA.out
             clear HA
             simp only [spec_l04Attr.j6] at H
             have HC39:=A_ H
             clear H
             go_upto_region 13 with (fail)
             go_cut [108] (fun v108 wc=>∃ (kq:Nat) (x108_38:Bool),v108=.bool x108_38∧Aside0 (spec_l04Attr.j7 kq a0 t149 x9_32 x108_38=some (r1,r2,r3))∧Aside0 (kq≤kj32)∧Aside0 (Below w.heap.size w wc))
             case first =>
              have H:=HC39.out
              clear HC39
              by_cases c40:x9_32<(a0.size:Int)
              ·rw [if_pos c40] at H
               have c40b0:decide (x9_32<(a0.size:Int))=true:=dt_ c40
               clear c40
               (first|rw [c40b0]|(simp only [i64_w,i32_w];rw [c40b0])|skip)
               by_cases c41:0≤x9_32
               ·rw [if_pos c41] at H
                have c41b0:decide (0≤x9_32)=true:=dt_ c41
                clear c41
                by_cases c43:(bt a0 x9_32)=34
                ·rw [if_pos c43] at H
                 have c43b0:((bt a0 x9_32) == 34)=true:=beq_iff_eq.mpr c43
                 have c43b1:((bt a0 x9_32) != 34)=false:=bne_eq_false_iff_eq.mpr c43
                 clear c43
                 have H':=A_ H
                 clear H
                 have p42:0≤(x9_32:Int):=oa_
                 have q42:x9_32<(a0.size:Int):=oa_
                 have hx42:=bt_at a0 x9_32
                 replace p42:=eq_true p42
                 replace q42:=eq_true q42
                 go_wp2
                 go_meet
                 case rel=>exact ⟨_,(true),rs_,H',⟨by have:=HJ2.out;have:=HJ19.out;have:=HJ26.out;have:=HJ32.out;first|omega|exact Nat.le_refl _⟩,⟨bq0_ HB.out⟩⟩
                ·rw [if_neg c43] at H
                 have c43b0:((bt a0 x9_32) == 34)=false:=beq_eq_false_iff_ne.mpr c43
                 have c43b1:((bt a0 x9_32) != 34)=true:=bne_iff_ne.mpr c43
                 have H':=A_ H
                 clear H
                 have p42:0≤(x9_32:Int):=oa_
                 have q42:x9_32<(a0.size:Int):=oa_
                 have hx42:=bt_at a0 x9_32
                 replace p42:=eq_true p42
                 replace q42:=eq_true q42
                 have p44:0≤(x9_32:Int):=oa_
                 have q44:x9_32<(a0.size:Int):=oa_
                 have hx44:=bt_at a0 x9_32
                 replace p44:=eq_true p44
                 replace q44:=eq_true q44
                 go_wp2
                 go_meet
                 case rel=>exact ⟨_,(((bt a0 x9_32) == 39)),rs_,H',⟨by have:=HJ2.out;have:=HJ19.out;have:=HJ26.out;have:=HJ32.out;first|omega|exact Nat.le_refl _⟩,⟨bq0_ HB.out⟩⟩
               ·rw [if_neg c41] at H
                exact absurd H (by simp)
              ·rw [if_neg c40] at H
               have c40b0:decide (x9_32<(a0.size:Int))=false:=df_ c40
               clear c40
               (first|rw [c40b0]|(simp only [i64_w,i32_w];rw [c40b0])|skip)
               have H':=A_ H
               clear H
               go_wp2
               go_meet
               case rel=>exact ⟨_,(false),rs_,H',⟨by have:=HJ2.out;have:=HJ19.out;have:=HJ26.out;have:=HJ32.out;first|omega|exact Nat.le_refl _⟩,⟨bq0_ HB.out⟩⟩
             case rest =>
              clear HC39
              try clear c1
              try clear p1
              try clear q1
              try clear hx1
              try clear c2
              try clear p2
              try clear q2
              try clear hx2
              try clear c3
              try clear p3
              try clear q3
              try clear hx3
              try clear c4
              try clear c4b0
              try clear p4
              try clear q4
              try clear hx4
              try clear c5
              try clear c5b0
              try clear p6
              try clear q6
              try clear hx6
              try clear c8
              try clear p9
              try clear q9
              try clear hx9
              try clear c10
              try clear c10b0
              try clear c10b1
              try clear p11
              try clear q11
              try clear hx11
              try clear c12
              try clear c12b0
              try clear c12b1
              try clear p13
              try clear q13
              try clear hx13
              try clear c14
              try clear c14b0
              try clear c14b1
              try clear c15
              try clear c15b0
              try clear c15b1
              try clear c16
              try clear c16b0
              try clear c16b1
              try clear c17
              try clear c17b0
              try clear c17b1
              try clear c18
              try clear c18b0
              try clear c18b1
              try clear c22
              try clear c22b0
              try clear c23
              try clear c23b0
              try clear p24
              try clear q24
              try clear hx24
              try clear c26
              try clear c28
              try clear c28b0
              try clear c28b1
              try clear c29
              try clear c29b0
              try clear c30
              try clear c30b0
              try clear p31
              try clear q31
              try clear hx31
              try clear c32
              try clear c34
              try clear c34b0
              try clear c35
              try clear c35b0
              try clear p36
              try clear q36
              try clear hx36
              try clear c38
              try clear c40
              try clear c40b0
              try clear c41
              try clear c41b0
              try clear p42
              try clear q42
              try clear hx42
              try clear c43
              try clear c43b0
              try clear c43b1
              try clear p44
              try clear q44
              try clear hx44
              try clear p1
              try clear p11
              try clear p13
              try clear p2
              try clear p24
              try clear p3
              try clear p31
              try clear p36
              try clear p42
              try clear p44
              try clear p6
              try clear p9
              try clear q1
              try clear q11
              try clear q13
              try clear q2
              try clear q24
              try clear q3
              try clear q31
              try clear q36
              try clear q42
              try clear q44
              try clear q6
              try clear q9
              obtain ⟨kq,x108_38,rfl,HA,HJ38,HB⟩:=hcut
              cases kq with
              | zero=>exact absurd HA.out (by simp [spec_l04Attr.j7])
              | succ kj38 =>
               have H:=HA.out
               clear HA
               simp only [spec_l04Attr.j7] at H
               by_cases c45:x108_38=true
               ·subst c45
                have H1:(if 0≤x9_32 then (if x9_32≤(wrap64 (x9_32+1)) then (if (wrap64 (x9_32+1))≤(a0.size:Int) then ((spec_l04Find.f kj38 a0 (a0.extract (x9_32:Int).toNat ((wrap64 (x9_32+1)):Int).toNat) (wrap64 (x9_32+1))).bind fun bt152=>(if bt152.2=true then (if 0≤(wrap64 (x9_32+1)) then (if (wrap64 (x9_32+1))≤bt152.1 then (if bt152.1≤(a0.size:Int) then ((spec_l02Un.f kj38 (a0.extract ((wrap64 (x9_32+1)):Int).toNat (bt152.1:Int).toNat)).bind fun t154=>(some (t149,t154,wrap64 (bt152.1+1)))) else (none)) else (none)) else (none)) else (some (t149,(⟨#[]⟩:ByteArray),(a0.size:Int))))) else (none)) else (none)) else (none))=some (r1,r2,r3):=by rw [if_pos rfl] at H;exact H
                clear H
                have H:=H1
                clear H1
                by_cases c46:0≤x9_32
                ·rw [if_pos c46] at H
                 have c46b0:=eq_true c46
                 have c46b1:decide (0≤x9_32)=true:=dt_ c46
                 clear c46
                 by_cases c47:x9_32≤(wrap64 (x9_32+1))
                 ·rw [if_pos c47] at H
                  have c47b0:=eq_true c47
                  have c47b1:decide (x9_32≤(wrap64 (x9_32+1)))=true:=dt_ c47
                  by_cases c48:(wrap64 (x9_32+1))≤(a0.size:Int)
                  ·rw [if_pos c48] at H
                   have c48b0:=eq_true c48
                   have c48b1:decide ((wrap64 (x9_32+1))≤(a0.size:Int))=true:=dt_ c48
                   replace H:=ob_ H
                   obtain ⟨⟨t152,t153⟩,A490,H⟩:=H
                   replace H:(if t153=true then (if 0≤(wrap64 (x9_32+1)) then (if (wrap64 (x9_32+1))≤t152 then (if t152≤(a0.size:Int) then ((spec_l02Un.f kj38 (a0.extract ((wrap64 (x9_32+1)):Int).toNat (t152:Int).toNat)).bind fun t154=>(some (t149,t154,wrap64 (t152+1)))) else (none)) else (none)) else (none)) else (some (t149,(⟨#[]⟩:ByteArray),(a0.size:Int))))=some (r1,r2,r3):=H
                   have A49:=A_ A490
                   clear A490
                   by_cases c50:t153=true
                   ·subst c50
                    have H1:(if 0≤(wrap64 (x9_32+1)) then (if (wrap64 (x9_32+1))≤t152 then (if t152≤(a0.size:Int) then ((spec_l02Un.f kj38 (a0.extract ((wrap64 (x9_32+1)):Int).toNat (t152:Int).toNat)).bind fun t154=>(some (t149,t154,wrap64 (t152+1)))) else (none)) else (none)) else (none))=some (r1,r2,r3):=by rw [if_pos rfl] at H;exact H
                    clear H
                    have H:=H1
                    clear H1
                    obtain ⟨ji51,hji51⟩:∃ j_:Int,(wrap64 (x9_32+1))=j_:=⟨_,rfl⟩
                    replace H:(if 0≤(ji51) then (if (ji51)≤t152 then (if t152≤(a0.size:Int) then ((spec_l02Un.f kj38 (a0.extract ((ji51):Int).toNat (t152:Int).toNat)).bind fun t154=>(some (t149,t154,wrap64 (t152+1)))) else (none)) else (none)) else (none))=some (r1,r2,r3):=by first|(rw [hji51] at H;exact H)|(simp only [hji51] at H ⊢;exact H)
                    (try rw [hji51] at c47b0)
                    (try rw [hji51] at c47b1)
                    (try rw [hji51] at c47)
                    (try rw [hji51] at c48b0)
                    (try rw [hji51] at c48b1)
                    (try rw [hji51] at c48)
                    (try rw [hji51] at A49)
                    have hji51w:(IntKind.i64.wrap (x9_32+1))=ji51:=(i64_w _).trans hji51
                    by_cases c52:0≤(ji51)
                    ·rw [if_pos c52] at H
                     have c52b0:=eq_true c52
                     have c52b1:decide (0≤(ji51))=true:=dt_ c52
                     clear c52
                     by_cases c53:(ji51)≤t152
                     ·rw [if_pos c53] at H
                      have c53b0:=eq_true c53
                      have c53b1:decide ((ji51)≤t152)=true:=dt_ c53
                      clear c53
                      by_cases c54:t152≤(a0.size:Int)
                      ·rw [if_pos c54] at H
                       have c54b0:=eq_true c54
                       have c54b1:decide (t152≤(a0.size:Int))=true:=dt_ c54
                       clear c54
                       replace H:=ob_ H
                       obtain ⟨t154,A550,H⟩:=H
                       replace H:(some (t149,t154,wrap64 (t152+1)))=some (r1,r2,r3):=H
                       have A55:=A_ A550
                       clear A550
                       simp only [Option.some.injEq,Prod.mk.injEq] at H
                       obtain ⟨rfl,rfl,rfl⟩:=H
                       go_wp2_with (first|((with_reducible refine gate_callee (f:=56) rfl ?_);refine goesL_ (some 118) rfl rfl Tryz.func56 (by kernel_rfl) rfl #[.string a0,.string (a0.extract (x9_32:Int).toNat ((ji51):Int).toNat),.int .i64 ji51] rfl (by (try simp only [List.map_toArray,List.map_cons,List.map_nil]);first|done|(simp only [hji51];rfl)|rfl|(simp only [ld_,lt_];rfl)) ?_;(with_reducible refine (spec_l04Find.calls kj38 a0 (a0.extract (x9_32:Int).toNat ((ji51):Int).toNat) ji51 t152 true _ A49.out).mono ?_);rintro e w' ⟨rfl,⟨nd,rfl⟩⟩;refine ⟨_,rfl,?_⟩)|((with_reducible refine gate_callee (f:=52) rfl ?_);refine goesL_ (some 132) rfl rfl Tryz.func52 (by kernel_rfl) rfl #[.string (a0.extract ((ji51):Int).toNat (t152:Int).toNat)] rfl (by (try simp only [List.map_toArray,List.map_cons,List.map_nil]);first|done|(simp only [hji51];rfl)|rfl|(simp only [ld_,lt_];rfl)) ?_;(with_reducible refine (spec_l02Un.calls kj38 (a0.extract ((ji51):Int).toNat (t152:Int).toNat) t154 _ A55.out).mono ?_);rintro e w56 ⟨rfl,hb⟩;refine ⟨_,rfl,?_⟩;have n0_:=A_ (bp_ (bq0_ HB.out) hb);clear HB;have HB:=n0_;clear n0_;(try clear hb);(try clear hb2);(try clear hk);(try clear hi)))
                       go_ret3
                       exact ⟨by first|rfl|(simp [errW_none,errW_some] <;> rfl)|(simp only [←hji51];first|rfl|(simp [errW_none,errW_some] <;> rfl))|(simp [*,errW_none,errW_some] <;> rfl),bq0_ HB.out⟩
                      ·rw [if_neg c54] at H
                       exact absurd H (by simp)
                     ·rw [if_neg c53] at H
                      exact absurd H (by simp)
                    ·rw [if_neg c52] at H
                     exact absurd H (by simp)
                   ·replace c50:=bm_ c50
                    subst c50
                    have H1:(some (t149,(⟨#[]⟩:ByteArray),(a0.size:Int)))=some (r1,r2,r3):=by rw [if_neg (show ¬ (false=true) by decide)] at H;exact H
                    clear H
                    have H:=H1
                    clear H1
                    simp only [Option.some.injEq,Prod.mk.injEq] at H
                    obtain ⟨rfl,rfl,rfl⟩:=H
                    go_wp2_with (first|((with_reducible refine gate_callee (f:=56) rfl ?_);refine gl_ (some 118) rfl rfl Tryz.func56 (by kernel_rfl) rfl #[.string a0,.string (a0.extract (x9_32:Int).toNat ((wrap64 (x9_32+1)):Int).toNat),.int .i64 (wrap64 (x9_32+1))] rfl  ?_;(with_reducible refine (spec_l04Find.calls kj38 a0 (a0.extract (x9_32:Int).toNat ((wrap64 (x9_32+1)):Int).toNat) (wrap64 (x9_32+1)) t152 false _ A49.out).mono ?_);rintro e w' ⟨rfl,⟨nd,rfl⟩⟩;refine ⟨_,rfl,?_⟩))
                    go_ret3
                    exact ⟨by first|rfl|(simp [errW_none,errW_some] <;> rfl)|(simp [*,errW_none,errW_some] <;> rfl),bq0_ HB.out⟩
                  ·rw [if_neg c48] at H
                   exact absurd H (by simp)
                 ·rw [if_neg c47] at H
                  exact absurd H (by simp)
                ·rw [if_neg c46] at H
                 exact absurd H (by simp)
               ·replace c45:=bm_ c45
                subst c45
                have H1:(spec_l04Attr.l3 kj38 a0 x9_32 t149 x9_32)=some (r1,r2,r3):=by rw [if_neg (show ¬ (false=true) by decide)] at H;exact H
                clear H
                have H:=H1
                clear H1
                have H':=A_ H
                clear H
                go_wp2
                go_loopg [7] kj38 (fun kq v7 w'=>∃ (x7_6:Int),v7=.int .i64 x7_6∧Aside0 (spec_l04Attr.l3 kq a0 x7_6 t149 x9_32=some (r1,r2,r3))∧Aside0 (kq≤kj38)∧Aside0 (Below w.heap.size w w'))
                case atStart=>exact ⟨(x9_32),rs_,H',⟨Nat.le_refl _⟩,⟨bq0_ HB.out⟩⟩
                case round =>
                 clear H'
                 try clear c1
                 try clear p1
                 try clear q1
                 try clear hx1
                 try clear c2
                 try clear p2
                 try clear q2
                 try clear hx2
                 try clear c3
                 try clear p3
                 try clear q3
                 try clear hx3
                 try clear c4
                 try clear c4b0
                 try clear p4
                 try clear q4
                 try clear hx4
                 try clear c5
                 try clear c5b0
                 try clear p6
                 try clear q6
                 try clear hx6
                 try clear c8
                 try clear p9
                 try clear q9
                 try clear hx9
                 try clear c10
                 try clear c10b0
                 try clear c10b1
                 try clear p11
                 try clear q11
                 try clear hx11
                 try clear c12
                 try clear c12b0
                 try clear c12b1
                 try clear p13
                 try clear q13
                 try clear hx13
                 try clear c14
                 try clear c14b0
                 try clear c14b1
                 try clear c15
                 try clear c15b0
                 try clear c15b1
                 try clear c16
                 try clear c16b0
                 try clear c16b1
                 try clear c17
                 try clear c17b0
                 try clear c17b1
                 try clear c18
                 try clear c18b0
                 try clear c18b1
                 try clear c22
                 try clear c22b0
                 try clear c23
                 try clear c23b0
                 try clear p24
                 try clear q24
                 try clear hx24
                 try clear c26
                 try clear c28
                 try clear c28b0
                 try clear c28b1
                 try clear c29
                 try clear c29b0
                 try clear c30
                 try clear c30b0
                 try clear p31
                 try clear q31
                 try clear hx31
                 try clear c32
                 try clear c34
                 try clear c34b0
                 try clear c35
                 try clear c35b0
                 try clear p36
                 try clear q36
                 try clear hx36
                 try clear c38
                 try clear c40
                 try clear c40b0
                 try clear c41
                 try clear c41b0
                 try clear p42
                 try clear q42
                 try clear hx42
                 try clear c43
                 try clear c43b0
                 try clear c43b1
                 try clear p44
                 try clear q44
                 try clear hx44
                 try clear c45
                 try clear c46
                 try clear c46b0
                 try clear c46b1
                 try clear c47
                 try clear c47b0
                 try clear c47b1
                 try clear c48
                 try clear c48b0
                 try clear c48b1
                 try clear c50
                 try clear c52
                 try clear c52b0
                 try clear c52b1
                 try clear c53
                 try clear c53b0
                 try clear c53b1
                 try clear c54
                 try clear c54b0
                 try clear c54b1
                 try clear c56
                 try clear p1
                 try clear p11
                 try clear p13
                 try clear p2
                 try clear p24
                 try clear p3
                 try clear p31
                 try clear p36
                 try clear p4
                 try clear p42
                 try clear p44
                 try clear p6
                 try clear p9
                 try clear q1
                 try clear q11
                 try clear q13
                 try clear q2
                 try clear q24
                 try clear q3
                 try clear q31
                 try clear q36
                 try clear q4
                 try clear q42
                 try clear q44
                 try clear q6
                 try clear q9
                 obtain ⟨x7_6,rfl,HA,HK6,HB⟩:=hrel
                 cases gk with
                 | zero=>exact absurd HA.out (by simp [spec_l04Attr.l3])
                 | succ k6 =>
                  have H:=HA.out
                  clear HA
                  simp only [spec_l04Attr.l3] at H
                  by_cases c57:x7_6<(a0.size:Int)
                  ·rw [if_pos c57] at H
                   have c57b0:decide (x7_6<(a0.size:Int))=true:=dt_ c57
                   clear c57
                   by_cases c58:0≤x7_6
                   ·rw [if_pos c58] at H
                    have c58b0:decide (0≤x7_6)=true:=dt_ c58
                    clear c58
                    replace H:=ob_ H
                    obtain ⟨t155,A600,H⟩:=H
                    replace H:(if t155=true then (if 0≤x9_32 then (if x9_32≤x7_6 then (if x7_6≤(a0.size:Int) then ((spec_l02Un.f k6 (a0.extract (x9_32:Int).toNat (x7_6:Int).toNat)).bind fun t156=>(some (t149,t156,x7_6))) else (none)) else (none)) else (none)) else (if (bt a0 x7_6)=62 then (if 0≤x9_32 then (if x9_32≤x7_6 then (if x7_6≤(a0.size:Int) then ((spec_l02Un.f k6 (a0.extract (x9_32:Int).toNat (x7_6:Int).toNat)).bind fun t157=>(some (t149,t157,x7_6))) else (none)) else (none)) else (none)) else (spec_l04Attr.l3 k6 a0 (wrap64 (x7_6+1)) t149 x9_32)))=some (r1,r2,r3):=H
                    have A60:=A_ A600
                    clear A600
                    by_cases c61:t155=true
                    ·subst c61
                     have H1:(if 0≤x9_32 then (if x9_32≤x7_6 then (if x7_6≤(a0.size:Int) then ((spec_l02Un.f k6 (a0.extract (x9_32:Int).toNat (x7_6:Int).toNat)).bind fun t156=>(some (t149,t156,x7_6))) else (none)) else (none)) else (none))=some (r1,r2,r3):=by rw [if_pos rfl] at H;exact H
                     clear H
                     have H:=H1
                     clear H1
                     by_cases c62:0≤x9_32
                     ·rw [if_pos c62] at H
                      have c62b0:=eq_true c62
                      have c62b1:decide (0≤x9_32)=true:=dt_ c62
                      clear c62
                      by_cases c63:x9_32≤x7_6
                      ·rw [if_pos c63] at H
                       have c63b0:=eq_true c63
                       have c63b1:decide (x9_32≤x7_6)=true:=dt_ c63
                       clear c63
                       by_cases c64:x7_6≤(a0.size:Int)
                       ·rw [if_pos c64] at H
                        have c64b0:=eq_true c64
                        have c64b1:decide (x7_6≤(a0.size:Int))=true:=dt_ c64
                        clear c64
                        replace H:=ob_ H
                        obtain ⟨t156,A650,H⟩:=H
                        replace H:(some (t149,t156,x7_6))=some (r1,r2,r3):=H
                        have A65:=A_ A650
                        clear A650
                        simp only [Option.some.injEq,Prod.mk.injEq] at H
                        obtain ⟨rfl,rfl,rfl⟩:=H
                        have p59:0≤(x7_6:Int):=oa_
                        have q59:x7_6<(a0.size:Int):=oa_
                        have hx59:=bt_at a0 x7_6
                        replace p59:=eq_true p59
                        replace q59:=eq_true q59
                        go_wp2_with (first|(go_at_call 51;(with_reducible refine (spec_l04Blank.calls (bt a0 x7_6) true _ A60.out).mono ?_);rintro e w' ⟨rfl,⟨nd,rfl⟩⟩)|((with_reducible refine gate_callee (f:=52) rfl ?_);refine gl_ (some 160) rfl rfl Tryz.func52 (by kernel_rfl) rfl #[.string (a0.extract (x9_32:Int).toNat (x7_6:Int).toNat)] rfl  ?_;(with_reducible refine (spec_l02Un.calls k6 (a0.extract (x9_32:Int).toNat (x7_6:Int).toNat) t156 _ A65.out).mono ?_);rintro e w66 ⟨rfl,hb⟩;refine ⟨_,rfl,?_⟩;have n0_:=A_ (bp_ (bq0_ HB.out) hb);clear HB;have HB:=n0_;clear n0_;(try clear hb);(try clear hb2);(try clear hk);(try clear hi)))
                        go_ret3
                        exact ⟨by first|rfl|(simp [errW_none,errW_some] <;> rfl)|(simp [*,errW_none,errW_some] <;> rfl),bq0_ HB.out⟩
                       ·rw [if_neg c64] at H
                        exact absurd H (by simp)
                      ·rw [if_neg c63] at H
                       exact absurd H (by simp)
                     ·rw [if_neg c62] at H
                      exact absurd H (by simp)
                    ·replace c61:=bm_ c61
                     subst c61
                     have H1:(if (bt a0 x7_6)=62 then (if 0≤x9_32 then (if x9_32≤x7_6 then (if x7_6≤(a0.size:Int) then ((spec_l02Un.f k6 (a0.extract (x9_32:Int).toNat (x7_6:Int).toNat)).bind fun t157=>(some (t149,t157,x7_6))) else (none)) else (none)) else (none)) else (spec_l04Attr.l3 k6 a0 (wrap64 (x7_6+1)) t149 x9_32))=some (r1,r2,r3):=by rw [if_neg (show ¬ (false=true) by decide)] at H;exact H
                     clear H
                     have H:=H1
                     clear H1
                     by_cases c68:(bt a0 x7_6)=62
                     ·rw [if_pos c68] at H
                      have c68b0:((bt a0 x7_6) == 62)=true:=beq_iff_eq.mpr c68
                      have c68b1:((bt a0 x7_6) != 62)=false:=bne_eq_false_iff_eq.mpr c68
                      clear c68
                      by_cases c69:0≤x9_32
                      ·rw [if_pos c69] at H
                       have c69b0:=eq_true c69
                       have c69b1:decide (0≤x9_32)=true:=dt_ c69
                       clear c69
                       by_cases c70:x9_32≤x7_6
                       ·rw [if_pos c70] at H
                        have c70b0:=eq_true c70
                        have c70b1:decide (x9_32≤x7_6)=true:=dt_ c70
                        clear c70
                        by_cases c71:x7_6≤(a0.size:Int)
                        ·rw [if_pos c71] at H
                         have c71b0:=eq_true c71
                         have c71b1:decide (x7_6≤(a0.size:Int))=true:=dt_ c71
                         clear c71
                         replace H:=ob_ H
                         obtain ⟨t157,A720,H⟩:=H
                         replace H:(some (t149,t157,x7_6))=some (r1,r2,r3):=H
                         have A72:=A_ A720
                         clear A720
                         simp only [Option.some.injEq,Prod.mk.injEq] at H
                         obtain ⟨rfl,rfl,rfl⟩:=H
                         have p59:0≤(x7_6:Int):=oa_
                         have q59:x7_6<(a0.size:Int):=oa_
                         have hx59:=bt_at a0 x7_6
                         replace p59:=eq_true p59
                         replace q59:=eq_true q59
                         go_wp2_with (first|(go_at_call 51;(with_reducible refine (spec_l04Blank.calls (bt a0 x7_6) false _ A60.out).mono ?_);rintro e w' ⟨rfl,⟨nd,rfl⟩⟩;have p67:0≤(x7_6:Int):=oa_;have q67:x7_6<(a0.size:Int):=oa_;have hx67:=bt_at a0 x7_6;replace p67:=eq_true p67;replace q67:=eq_true q67)|((with_reducible refine gate_callee (f:=52) rfl ?_);refine gl_ (some 160) rfl rfl Tryz.func52 (by kernel_rfl) rfl #[.string (a0.extract (x9_32:Int).toNat (x7_6:Int).toNat)] rfl  ?_;(with_reducible refine (spec_l02Un.calls k6 (a0.extract (x9_32:Int).toNat (x7_6:Int).toNat) t157 _ A72.out).mono ?_);rintro e w73 ⟨rfl,hb⟩;refine ⟨_,rfl,?_⟩;have n0_:=A_ (bp_ (bq0_ HB.out) hb);clear HB;have HB:=n0_;clear n0_;(try clear hb);(try clear hb2);(try clear hk);(try clear hi)))
                         go_ret3
                         exact ⟨by first|rfl|(simp [errW_none,errW_some] <;> rfl)|(simp [*,errW_none,errW_some] <;> rfl),bq0_ HB.out⟩
                        ·rw [if_neg c71] at H
                         exact absurd H (by simp)
                       ·rw [if_neg c70] at H
                        exact absurd H (by simp)
                      ·rw [if_neg c69] at H
                       exact absurd H (by simp)
                     ·rw [if_neg c68] at H
                      have c68b0:((bt a0 x7_6) == 62)=false:=beq_eq_false_iff_ne.mpr c68
                      have c68b1:((bt a0 x7_6) != 62)=true:=bne_iff_ne.mpr c68
                      have H':=A_ H
                      clear H
                      have p59:0≤(x7_6:Int):=oa_
                      have q59:x7_6<(a0.size:Int):=oa_
                      have hx59:=bt_at a0 x7_6
                      replace p59:=eq_true p59
                      replace q59:=eq_true q59
                      go_wp2_with (first|(go_at_call 51;(with_reducible refine (spec_l04Blank.calls (bt a0 x7_6) false _ A60.out).mono ?_);rintro e w' ⟨rfl,⟨nd,rfl⟩⟩;have p67:0≤(x7_6:Int):=oa_;have q67:x7_6<(a0.size:Int):=oa_;have hx67:=bt_at a0 x7_6;replace p67:=eq_true p67;replace q67:=eq_true q67))
                      go_roundg k6
                      case measure=>have:=HJ2.out;have:=HJ19.out;have:=HJ26.out;have:=HJ32.out;have:=HJ38.out;have:=HK6.out;omega
                      case rel=>exact ⟨(wrap64 (x7_6+1)),rs_,H',⟨by have:=HJ2.out;have:=HJ19.out;have:=HJ26.out;have:=HJ32.out;have:=HJ38.out;have:=HK6.out;omega⟩,⟨bq0_ HB.out⟩⟩
                   ·rw [if_neg c58] at H
                    exact absurd H (by simp)
                  ·rw [if_neg c57] at H
                   have c57b0:decide (x7_6<(a0.size:Int))=false:=df_ c57
                   clear c57
                   by_cases c74:0≤x9_32
                   ·rw [if_pos c74] at H
                    have c74b0:=eq_true c74
                    have c74b1:decide (0≤x9_32)=true:=dt_ c74
                    clear c74
                    by_cases c75:x9_32≤x7_6
                    ·rw [if_pos c75] at H
                     have c75b0:=eq_true c75
                     have c75b1:decide (x9_32≤x7_6)=true:=dt_ c75
                     clear c75
                     by_cases c76:x7_6≤(a0.size:Int)
                     ·rw [if_pos c76] at H
                      have c76b0:=eq_true c76
                      have c76b1:decide (x7_6≤(a0.size:Int))=true:=dt_ c76
                      clear c76
                      replace H:=ob_ H
                      obtain ⟨t158,A770,H⟩:=H
                      replace H:(some (t149,t158,x7_6))=some (r1,r2,r3):=H
                      have A77:=A_ A770
                      clear A770
                      simp only [Option.some.injEq,Prod.mk.injEq] at H
                      obtain ⟨rfl,rfl,rfl⟩:=H
                      go_wp2_with (first|((with_reducible refine gate_callee (f:=52) rfl ?_);refine gl_ (some 160) rfl rfl Tryz.func52 (by kernel_rfl) rfl #[.string (a0.extract (x9_32:Int).toNat (x7_6:Int).toNat)] rfl  ?_;(with_reducible refine (spec_l02Un.calls k6 (a0.extract (x9_32:Int).toNat (x7_6:Int).toNat) t158 _ A77.out).mono ?_);rintro e w78 ⟨rfl,hb⟩;refine ⟨_,rfl,?_⟩;have n0_:=A_ (bp_ (bq0_ HB.out) hb);clear HB;have HB:=n0_;clear n0_;(try clear hb);(try clear hb2);(try clear hk);(try clear hi)))
                      go_ret3
                      exact ⟨by first|rfl|(simp [errW_none,errW_some] <;> rfl)|(simp [*,errW_none,errW_some] <;> rfl),bq0_ HB.out⟩
                     ·rw [if_neg c76] at H
                      exact absurd H (by simp)
                    ·rw [if_neg c75] at H
                     exact absurd H (by simp)
                   ·rw [if_neg c74] at H
                    exact absurd H (by simp)
     ·rw [if_neg c18] at H
      exact absurd H (by simp)
    ·rw [if_neg c17] at H
     exact absurd H (by simp)
   ·rw [if_neg c16] at H
    exact absurd H (by simp)
end Go.Proofs.YtfkanlbmgbkniaaGreatDoor.PFnExactTokensOf
