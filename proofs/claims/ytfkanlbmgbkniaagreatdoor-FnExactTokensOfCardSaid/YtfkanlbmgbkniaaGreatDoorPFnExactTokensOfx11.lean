/- The machine side of a law, printed by a program. No conditions. -/
import Derived.Test.YtfkanlbmgbkniaaGreatDoorPFnExactTokensOfx0
import Derived.Test.YtfkanlbmgbkniaaGreatDoorPFnExactTokensOfx1
import Derived.Test.YtfkanlbmgbkniaaGreatDoorPFnExactTokensOfx4
import Derived.Test.YtfkanlbmgbkniaaGreatDoorPFnExactTokensOfx9
import Derived.Test.YtfkanlbmgbkniaaGreatDoorPFnExactTokensOfx10
namespace Go.Proofs.YtfkanlbmgbkniaaGreatDoor.PFnExactTokensOf
open Go.RowKit Go.Proofs.YtfkanlbmgbkniaaGreatDoorW.PrintWords Go.Proofs.YtfkanlbmgbkniaaGreatDoorW.PrintLast Go.Proofs.YtfkanlbmgbkniaaGreatDoorW.PrintMore
attribute [local go_sem] max2_int min2_int max_two min_two max_three min_three max_four min_four
set_option linter.unusedVariables false
set_option linter.unusedSimpArgs false
mutual
def spec_l04Next.j0:Nat→ByteArray→Int→Option (Int × Int × Int × ByteArray × ByteArray × (List (S52)) × Bool)
 | 0,_,_=>none
 | k+1,x0,x1=>if 0≤x1 then (if x1<(x0.size:Int) then (if (bt x0 x1)=60 then (spec_l04Next.j1 k x0 x1 ((wrap64 (x1+1)) == (x0.size:Int))) else (spec_l04Next.j1 k x0 x1 true)) else (none)) else (none)
def spec_l04Next.j1:Nat→ByteArray→Int→Bool→Option (Int × Int × Int × ByteArray × ByteArray × (List (S52)) × Bool)
 | 0,_,_,_=>none
 | k+1,x0,x1,x37=>if x37=true then ((spec_l04Words.f k x0 x1).bind fun bt200=>(some (bt200.1,bt200.2.1,bt200.2.2.1,bt200.2.2.2.1,bt200.2.2.2.2.1,bt200.2.2.2.2.2.1,bt200.2.2.2.2.2.2))) else (if 0≤(wrap64 (x1+1)) then (if (wrap64 (x1+1))<(x0.size:Int) then ((spec_l04Letter.f (bt x0 (wrap64 (x1+1)))).bind fun t209=>(if t209=true then ((spec_l04Open.f k x0 x1).bind fun bt210=>(some (bt210.1,bt210.2.1,bt210.2.2.1,bt210.2.2.2.1,bt210.2.2.2.2.1,bt210.2.2.2.2.2.1,bt210.2.2.2.2.2.2))) else (if (bt x0 (wrap64 (x1+1)))=47 then (if (wrap64 (x1+2))<(x0.size:Int) then (if 0≤(wrap64 (x1+2)) then ((spec_l04Letter.f (bt x0 (wrap64 (x1+2)))).bind fun t219=>(spec_l04Next.j2 k x0 x1 (bt x0 (wrap64 (x1+1))) t219)) else (none)) else (spec_l04Next.j2 k x0 x1 (bt x0 (wrap64 (x1+1))) false)) else (spec_l04Next.j2 k x0 x1 (bt x0 (wrap64 (x1+1))) false)))) else (none)) else (none))
def spec_l04Next.j2:Nat→ByteArray→Int→Int→Bool→Option (Int × Int × Int × ByteArray × ByteArray × (List (S52)) × Bool)
 | 0,_,_,_,_=>none
 | k+1,x0,x1,x8,x51=>if x51=true then ((spec_l04Close.f k x0 x1).bind fun bt220=>(some (bt220.1,bt220.2.1,bt220.2.2.1,bt220.2.2.2.1,bt220.2.2.2.2.1,bt220.2.2.2.2.2.1,bt220.2.2.2.2.2.2))) else (if (wrap64 (x1+4))≤(x0.size:Int) then (if 0≤x1 then (if x1≤(wrap64 (x1+4)) then (spec_l04Next.j3 k x0 x1 x8 ((x0.extract (x1:Int).toNat ((wrap64 (x1+4)):Int).toNat).toList == ([60,33,45,45]:List UInt8))) else (none)) else (none)) else (spec_l04Next.j3 k x0 x1 x8 false))
def spec_l04Next.j3:Nat→ByteArray→Int→Int→Bool→Option (Int × Int × Int × ByteArray × ByteArray × (List (S52)) × Bool)
 | 0,_,_,_,_=>none
 | k+1,x0,x1,x8,x71=>if x71=true then ((spec_l04Comment.f k x0 x1 (wrap64 (x1+4)) (⟨#[45,45,62]⟩:ByteArray)).bind fun bt229=>(some (bt229.1,bt229.2.1,bt229.2.2.1,bt229.2.2.2.1,bt229.2.2.2.2.1,bt229.2.2.2.2.2.1,bt229.2.2.2.2.2.2))) else (if x8=33 then (spec_l04Next.j4 k x0 x1 true) else (if x8=63 then (spec_l04Next.j4 k x0 x1 true) else (spec_l04Next.j4 k x0 x1 (x8 == 47))))
def spec_l04Next.j4:Nat→ByteArray→Int→Bool→Option (Int × Int × Int × ByteArray × ByteArray × (List (S52)) × Bool)
 | 0,_,_,_=>none
 | k+1,x0,x1,x90=>if x90=true then ((spec_l04Comment.f k x0 x1 (wrap64 (x1+2)) (⟨#[62]⟩:ByteArray)).bind fun bt238=>(some (bt238.1,bt238.2.1,bt238.2.2.1,bt238.2.2.2.1,bt238.2.2.2.2.1,bt238.2.2.2.2.2.1,bt238.2.2.2.2.2.2))) else ((spec_l04Words.f k x0 x1).bind fun bt247=>(some (bt247.1,bt247.2.1,bt247.2.2.1,bt247.2.2.2.1,bt247.2.2.2.2.1,bt247.2.2.2.2.2.1,bt247.2.2.2.2.2.2)))
end
def spec_l04Next.f (k:Nat) (a0:ByteArray) (a1:Int) (a2:ByteArray):Option (Int × Int × Int × ByteArray × ByteArray × (List (S52)) × Bool):=if a2.toList=([]:List UInt8) then (spec_l04Next.j0 k a0 a1) else ((spec_l04RawEnd.f k a0 a1 a2).bind fun t199=>(if t199>a1 then (if 0≤a1 then (if a1≤t199 then (if t199≤(a0.size:Int) then (some (1,a1,wrap64 (t199 - a1),(⟨#[]⟩:ByteArray),a0.extract (a1:Int).toNat (t199:Int).toNat,([]:List (S52)),false)) else (none)) else (none)) else (none)) else (spec_l04Next.j0 k a0 a1)))
theorem spec_l04Next.mono_l:∀ k,(∀ y0 y1,LeO (spec_l04Next.j0 k y0 y1) (spec_l04Next.j0 (k+1) y0 y1))∧(∀ y0 y1 y2,LeO (spec_l04Next.j1 k y0 y1 y2) (spec_l04Next.j1 (k+1) y0 y1 y2))∧(∀ y0 y1 y2 y3,LeO (spec_l04Next.j2 k y0 y1 y2 y3) (spec_l04Next.j2 (k+1) y0 y1 y2 y3))∧(∀ y0 y1 y2 y3,LeO (spec_l04Next.j3 k y0 y1 y2 y3) (spec_l04Next.j3 (k+1) y0 y1 y2 y3))∧(∀ y0 y1 y2,LeO (spec_l04Next.j4 k y0 y1 y2) (spec_l04Next.j4 (k+1) y0 y1 y2))
 | 0=>⟨fun _ _ r h=>by simp [spec_l04Next.j0] at h,fun _ _ _ r h=>by simp [spec_l04Next.j1] at h,fun _ _ _ _ r h=>by simp [spec_l04Next.j2] at h,fun _ _ _ _ r h=>by simp [spec_l04Next.j3] at h,fun _ _ _ r h=>by simp [spec_l04Next.j4] at h⟩
 | k+1=>by
  obtain ⟨ih0,ih1,ih2,ih3,ih4⟩:=spec_l04Next.mono_l k
  refine ⟨?_,?_,?_,?_,?_⟩
  ·intro y0 y1
   unfold spec_l04Next.j0
   repeat' first|(with_reducible first|exact ih0 ..|exact ih1 ..|exact ih2 ..|exact ih3 ..|exact ih4 ..|exact spec_l04Close.mono ..|exact spec_l04Comment.mono ..|exact spec_l04Open.mono ..|exact spec_l04RawEnd.mono ..|exact spec_l04Words.mono ..|exact LeO.refl _|exact LeO.none _|refine LeO.ite ?_ ?_|refine LeO.bind ?_ (fun _=>?_))|exact ih0 ..|exact ih1 ..|exact ih2 ..|exact ih3 ..|exact ih4 ..|exact LeO.none _|refine LeO.ite ?_ ?_|refine LeO.bind ?_ (fun _=>?_)
  ·intro y0 y1 y2
   unfold spec_l04Next.j1
   repeat' first|(with_reducible first|exact ih0 ..|exact ih1 ..|exact ih2 ..|exact ih3 ..|exact ih4 ..|exact spec_l04Close.mono ..|exact spec_l04Comment.mono ..|exact spec_l04Open.mono ..|exact spec_l04RawEnd.mono ..|exact spec_l04Words.mono ..|exact LeO.refl _|exact LeO.none _|refine LeO.ite ?_ ?_|refine LeO.bind ?_ (fun _=>?_))|exact ih0 ..|exact ih1 ..|exact ih2 ..|exact ih3 ..|exact ih4 ..|exact LeO.none _|refine LeO.ite ?_ ?_|refine LeO.bind ?_ (fun _=>?_)
  ·intro y0 y1 y2 y3
   unfold spec_l04Next.j2
   repeat' first|(with_reducible first|exact ih0 ..|exact ih1 ..|exact ih2 ..|exact ih3 ..|exact ih4 ..|exact spec_l04Close.mono ..|exact spec_l04Comment.mono ..|exact spec_l04Open.mono ..|exact spec_l04RawEnd.mono ..|exact spec_l04Words.mono ..|exact LeO.refl _|exact LeO.none _|refine LeO.ite ?_ ?_|refine LeO.bind ?_ (fun _=>?_))|exact ih0 ..|exact ih1 ..|exact ih2 ..|exact ih3 ..|exact ih4 ..|exact LeO.none _|refine LeO.ite ?_ ?_|refine LeO.bind ?_ (fun _=>?_)
  ·intro y0 y1 y2 y3
   unfold spec_l04Next.j3
   repeat' first|(with_reducible first|exact ih0 ..|exact ih1 ..|exact ih2 ..|exact ih3 ..|exact ih4 ..|exact spec_l04Close.mono ..|exact spec_l04Comment.mono ..|exact spec_l04Open.mono ..|exact spec_l04RawEnd.mono ..|exact spec_l04Words.mono ..|exact LeO.refl _|exact LeO.none _|refine LeO.ite ?_ ?_|refine LeO.bind ?_ (fun _=>?_))|exact ih0 ..|exact ih1 ..|exact ih2 ..|exact ih3 ..|exact ih4 ..|exact LeO.none _|refine LeO.ite ?_ ?_|refine LeO.bind ?_ (fun _=>?_)
  ·intro y0 y1 y2
   unfold spec_l04Next.j4
   repeat' first|(with_reducible first|exact ih0 ..|exact ih1 ..|exact ih2 ..|exact ih3 ..|exact ih4 ..|exact spec_l04Close.mono ..|exact spec_l04Comment.mono ..|exact spec_l04Open.mono ..|exact spec_l04RawEnd.mono ..|exact spec_l04Words.mono ..|exact LeO.refl _|exact LeO.none _|refine LeO.ite ?_ ?_|refine LeO.bind ?_ (fun _=>?_))|exact ih0 ..|exact ih1 ..|exact ih2 ..|exact ih3 ..|exact ih4 ..|exact LeO.none _|refine LeO.ite ?_ ?_|refine LeO.bind ?_ (fun _=>?_)
theorem spec_l04Next.mono:∀ a0 a1 a2 k,LeO (spec_l04Next.f k a0 a1 a2) (spec_l04Next.f (k+1) a0 a1 a2):=by
 intro a0 a1 a2 k
 obtain ⟨ih0,ih1,ih2,ih3,ih4⟩:=spec_l04Next.mono_l k
 unfold spec_l04Next.f
 repeat' first|(with_reducible first|exact ih0 ..|exact ih1 ..|exact ih2 ..|exact ih3 ..|exact ih4 ..|exact spec_l04Close.mono ..|exact spec_l04Comment.mono ..|exact spec_l04Open.mono ..|exact spec_l04RawEnd.mono ..|exact spec_l04Words.mono ..|exact LeO.refl _|exact LeO.none _|refine LeO.ite ?_ ?_|refine LeO.bind ?_ (fun _=>?_))|exact ih0 ..|exact ih1 ..|exact ih2 ..|exact ih3 ..|exact ih4 ..|exact LeO.none _|refine LeO.ite ?_ ?_|refine LeO.bind ?_ (fun _=>?_)
set_option maxHeartbeats 8000000 in
set_option maxRecDepth 100000 in
theorem spec_l04Next.calls (k:Nat) (a0:ByteArray) (a1:Int) (a2:ByteArray) (r1:Int) (r2:Int) (r3:Int) (r4:ByteArray) (r5:ByteArray) (r6:List (S52)) (r7:Bool) (w:World) (h:spec_l04Next.f k a0 a1 a2=some (r1,r2,r3,r4,r5,r6,r7)) :
 Calls Tryz.prog 17 #[.string a0,.int .i64 a1,.string a2] w fun e w'=>∃ v5_:Value,e=.returned (.agg #[.int .i64 r1,.int .i64 r2,.int .i64 r3,.string r4,.string r5,v5_,.bool r7])∧Kd.R k52 52 w' w.heap.size (fun _=>True) v5_ r6∧Below w.heap.size w w':=by
 have hu24:=Tryz.underlying24
 have HB:=A_ (Below.refl w.heap.size w)
 have H:(if a2.toList=([]:List UInt8) then (spec_l04Next.j0 k a0 a1) else ((spec_l04RawEnd.f k a0 a1 a2).bind fun t199=>(if t199>a1 then (if 0≤a1 then (if a1≤t199 then (if t199≤(a0.size:Int) then (some (1,a1,wrap64 (t199 - a1),(⟨#[]⟩:ByteArray),a0.extract (a1:Int).toNat (t199:Int).toNat,([]:List (S52)),false)) else (none)) else (none)) else (none)) else (spec_l04Next.j0 k a0 a1))))=some (r1,r2,r3,r4,r5,r6,r7):=h
 clear h
 have HC4:=A_ H
 clear H
 go_enter Tryz.func17,Tryz.ntmps17
 go_upto_if 10 with (first|((with_reducible refine gate_dst (N:=6) rfl ?_);(try (refine gate_guard (by rfl) ?_;dsimp only));refine box_event ?hg (N:=6) ?hd (cs:=#[.int .i64 0,.int .i64 0,.int .i64 0,.string (⟨#[]⟩:ByteArray),.string (⟨#[]⟩:ByteArray),.slice none 0 0,.bool false]) (t:=24) ?hr ?_;(case hd=>rfl);(case hg=>rfl);(case hr=>first|(go_simp;done)|(go_simp;rfl)|(first|(go_simp;done)|(go_simp;rfl)));intro gb198 hg w5 hbox hb;have n0_:=A_ (bp_ (bq0_ HB.out) hb);have n1_:=A_ (hbox);have n2_:=A_ ((by rw [hg];exact (bz_ (bq0_ HB.out)):w.heap.size≤gb198));have n3_:=A_ ((by rw [hg];exact (bz_ (bq0_ HB.out)):w.heap.size≤gb198));clear HB;have HB:=n0_;have BK198:=n1_;have GW198:=n2_;have GE198:=n3_;clear n0_ n1_ n2_ n3_;clear hb hbox hg))
 (try simp only [Act.put,ls_,lz_,lc_])
 go_cut [] (fun wc=>∃ (kq:Nat) (x199000_3:Int) (x199001_3:Int) (x199002_3:Int) (x199003_3:ByteArray) (x199004_3:ByteArray) (x199006_3:Bool),Aside0 (spec_l04Next.j0 kq a0 a1=some (r1,r2,r3,r4,r5,r6,r7))∧Aside0 (kq≤k)∧Aside0 (wc.heap[gb198]? = some (.cells #[.int .i64 x199000_3,.int .i64 x199001_3,.int .i64 x199002_3,.string x199003_3,.string x199004_3,(.slice none 0 0),.bool x199006_3] 24 (0,0)))∧Aside0 (Below w.heap.size w wc))
 case first =>
  have H:=HC4.out
  clear HC4
  by_cases c6:a2.toList=([]:List UInt8)
  ·rw [if_pos c6] at H
   have c6b0:(a2.toList == ([]:List UInt8))=true:=beq_iff_eq.mpr c6
   have c6b1:(a2.toList != ([]:List UInt8))=false:=bne_eq_false_iff_eq.mpr c6
   have c6b5:(a2.toList).isEmpty=true:=by simpa using c6b0
   have c6b6:(!(a2.toList).isEmpty)=false:=by rw [c6b5];rfl
   clear c6
   (first|rw [c6b0]|(simp only [i64_w,i32_w];rw [c6b0])|rw [c6b6]|skip)
   have H':=A_ H
   clear H
   go_wp2
   go_meet
   case rel=>exact ⟨_,(0),(0),(0),((⟨#[]⟩:ByteArray)),((⟨#[]⟩:ByteArray)),(false),H',⟨by first|omega|exact Nat.le_refl _⟩,⟨kq_ BK198.out⟩,⟨bq1_ HB.out GE198.out⟩⟩
  ·rw [if_neg c6] at H
   have c6b0:(a2.toList == ([]:List UInt8))=false:=beq_eq_false_iff_ne.mpr c6
   have c6b1:(a2.toList != ([]:List UInt8))=true:=bne_iff_ne.mpr c6
   have c6b5:(a2.toList).isEmpty=false:=by simpa using c6b0
   have c6b6:(!(a2.toList).isEmpty)=true:=by rw [c6b5];rfl
   (first|rw [c6b0]|(simp only [i64_w,i32_w];rw [c6b0])|rw [c6b6]|skip)
   replace H:=ob_ H
   obtain ⟨t199,A70,H⟩:=H
   replace H:(if t199>a1 then (if 0≤a1 then (if a1≤t199 then (if t199≤(a0.size:Int) then (some (1,a1,wrap64 (t199 - a1),(⟨#[]⟩:ByteArray),a0.extract (a1:Int).toNat (t199:Int).toNat,([]:List (S52)),false)) else (none)) else (none)) else (none)) else (spec_l04Next.j0 k a0 a1))=some (r1,r2,r3,r4,r5,r6,r7):=H
   have A7:=A_ A70
   clear A70
   by_cases c8:t199>a1
   ·rw [if_pos c8] at H
    have c8b0:decide (a1<t199)=true:=dt_ c8
    clear c8
    by_cases c9:0≤a1
    ·rw [if_pos c9] at H
     have c9b0:=eq_true c9
     have c9b1:decide (0≤a1)=true:=dt_ c9
     clear c9
     by_cases c10:a1≤t199
     ·rw [if_pos c10] at H
      have c10b0:=eq_true c10
      have c10b1:decide (a1≤t199)=true:=dt_ c10
      clear c10
      by_cases c11:t199≤(a0.size:Int)
      ·rw [if_pos c11] at H
       have c11b0:=eq_true c11
       have c11b1:decide (t199≤(a0.size:Int))=true:=dt_ c11
       clear c11
       simp only [Option.some.injEq,Prod.mk.injEq] at H
       obtain ⟨rfl,rfl,rfl,rfl,rfl,rfl,rfl⟩:=H
       go_wp2_with (first|((with_reducible refine gate_callee (f:=29) rfl ?_);refine gl_ (some 14) rfl rfl Tryz.func29 (by kernel_rfl) rfl #[.string a0,.int .i64 a1,.string a2] rfl  ?_;(with_reducible refine (spec_l04RawEnd.calls k a0 a1 a2 t199 _ A7.out).mono ?_);rintro e w12 ⟨rfl,hb⟩;refine ⟨_,rfl,?_⟩;have n0_:=A_ (kb_ (kq_ BK198.out) hb);have n1_:=A_ (bp_ (bq1_ HB.out GE198.out) hb);clear BK198;clear HB;have BK198:=n0_;have HB:=n1_;clear n0_ n1_;(try clear hb);(try clear hb2);(try clear hk);(try clear hi);obtain ⟨hcz13_0,hcz13_1,hcz13_2,hcz13_3,hcz13_4,hcz13_5,hcz13_6,hfz13_0,hfz13_1,hfz13_2,hfz13_3,hfz13_4,hfz13_5,hfz13_6⟩:=g7_ BK198.out))
       refine bodyPost_ret (results_cell_row rfl _ _ gb198 24 #[.int .i64 1,.int .i64 a1,.int .i64 (wrap64 (t199 - a1)),.string (⟨#[]⟩:ByteArray),.string (a0.extract (a1:Int).toNat (t199:Int).toNat),.slice none 0 0,.bool false] (0,0) _ rfl (by (with_reducible repeat first|apply kn_|apply kd_|apply ka_);exact p7_ (kq_ BK198.out)) Tryz.underlying24 rfl (by kernel_rfl)) rfl ?_
       exact ⟨_,by first|rfl|(simp [errW_none,errW_some] <;> rfl)|(simp [*,errW_none,errW_some] <;> rfl),by first|exact Kd.R_nil _ _ _ _ _|exact Kd.N_nil _ _ _ _ _|exact Kd.V_nil _ _ _ _ _|exact Kd.Q_nil _ _ _ _ _|exact Kd.S_nil _ _ _ _ _,bq1_ HB.out GE198.out⟩
      ·rw [if_neg c11] at H
       exact absurd H (by simp)
     ·rw [if_neg c10] at H
      exact absurd H (by simp)
    ·rw [if_neg c9] at H
     exact absurd H (by simp)
   ·rw [if_neg c8] at H
    have c8b0:decide (a1<t199)=false:=df_ c8
    clear c8
    have H':=A_ H
    clear H
    go_wp2_with (first|((with_reducible refine gate_callee (f:=29) rfl ?_);refine gl_ (some 14) rfl rfl Tryz.func29 (by kernel_rfl) rfl #[.string a0,.int .i64 a1,.string a2] rfl  ?_;(with_reducible refine (spec_l04RawEnd.calls k a0 a1 a2 t199 _ A7.out).mono ?_);rintro e w14 ⟨rfl,hb⟩;refine ⟨_,rfl,?_⟩;have n0_:=A_ (kb_ (kq_ BK198.out) hb);have n1_:=A_ (bp_ (bq1_ HB.out GE198.out) hb);clear BK198;clear HB;have BK198:=n0_;have HB:=n1_;clear n0_ n1_;(try clear hb);(try clear hb2);(try clear hk);(try clear hi)))
    go_meet
    case rel=>exact ⟨_,(0),(0),(0),((⟨#[]⟩:ByteArray)),((⟨#[]⟩:ByteArray)),(false),H',⟨by first|omega|exact Nat.le_refl _⟩,⟨kq_ BK198.out⟩,⟨bq1_ HB.out GE198.out⟩⟩
 case rest =>
  clear HC4
  try clear c1
  try clear c2
  try clear p2
  try clear c6
  try clear c6b0
  try clear c6b1
  try clear p6
  try clear c8
  try clear c8b0
  try clear c9
  try clear c9b0
  try clear c9b1
  try clear c10
  try clear c10b0
  try clear c10b1
  try clear c11
  try clear c11b0
  try clear c11b1
  try clear hcz13_0
  try clear hcz13_1
  try clear hcz13_2
  try clear hcz13_3
  try clear hcz13_4
  try clear hcz13_5
  try clear hcz13_6
  try clear hfz13_0
  try clear hfz13_1
  try clear hfz13_2
  try clear hfz13_3
  try clear hfz13_4
  try clear hfz13_5
  try clear hfz13_6
  obtain ⟨kq,x199000_3,x199001_3,x199002_3,x199003_3,x199004_3,x199006_3,HA,HJ3,BK198,HB⟩:=hcut
  cases kq with
  | zero=>exact absurd HA.out (by simp [spec_l04Next.j0])
  | succ kj3 =>
   have H:=HA.out
   clear HA
   simp only [spec_l04Next.j0] at H
   have HC15:=A_ H
   clear H
   go_upto_region 5 with (fail)
   go_cut [37] (fun v37 wc=>∃ (kq:Nat) (x37_14:Bool),v37=.bool x37_14∧Aside0 (spec_l04Next.j1 kq a0 a1 x37_14=some (r1,r2,r3,r4,r5,r6,r7))∧Aside0 (kq≤kj3)∧Aside0 (wc.heap[gb198]? = some (.cells #[.int .i64 x199000_3,.int .i64 x199001_3,.int .i64 x199002_3,.string x199003_3,.string x199004_3,(.slice none 0 0),.bool x199006_3] 24 (0,0)))∧Aside0 (Below w.heap.size w wc))
   case first =>
    have H:=HC15.out
    clear HC15
    by_cases c16:0≤a1
    ·rw [if_pos c16] at H
     have c16b0:decide (0≤a1)=true:=dt_ c16
     clear c16
     (first|rw [c16b0]|(simp only [i64_w,i32_w];rw [c16b0])|skip)
     by_cases c17:a1<(a0.size:Int)
     ·rw [if_pos c17] at H
      have c17b0:decide (a1<(a0.size:Int))=true:=dt_ c17
      clear c17
      by_cases c19:(bt a0 a1)=60
      ·rw [if_pos c19] at H
       have c19b0:((bt a0 a1) == 60)=true:=beq_iff_eq.mpr c19
       have c19b1:((bt a0 a1) != 60)=false:=bne_eq_false_iff_eq.mpr c19
       clear c19
       have H':=A_ H
       clear H
       have p18:0≤(a1:Int):=oa_
       have q18:a1<(a0.size:Int):=oa_
       have hx18:=bt_at a0 a1
       replace p18:=eq_true p18
       replace q18:=eq_true q18
       go_wp2
       go_meet
       case rel=>exact ⟨_,(((wrap64 (a1+1)) == (a0.size:Int))),rs_,H',⟨by have:=HJ3.out;first|omega|exact Nat.le_refl _⟩,⟨kq_ BK198.out⟩,⟨bq1_ HB.out GE198.out⟩⟩
      ·rw [if_neg c19] at H
       have c19b0:((bt a0 a1) == 60)=false:=beq_eq_false_iff_ne.mpr c19
       have c19b1:((bt a0 a1) != 60)=true:=bne_iff_ne.mpr c19
       have H':=A_ H
       clear H
       have p18:0≤(a1:Int):=oa_
       have q18:a1<(a0.size:Int):=oa_
       have hx18:=bt_at a0 a1
       replace p18:=eq_true p18
       replace q18:=eq_true q18
       go_wp2
       go_meet
       case rel=>exact ⟨_,(true),rs_,H',⟨by have:=HJ3.out;first|omega|exact Nat.le_refl _⟩,⟨kq_ BK198.out⟩,⟨bq1_ HB.out GE198.out⟩⟩
     ·rw [if_neg c17] at H
      exact absurd H (by simp)
    ·rw [if_neg c16] at H
     exact absurd H (by simp)
   case rest =>
    clear HC15
    try clear c1
    try clear p1
    try clear q1
    try clear hx1
    try clear c2
    try clear p2
    try clear c6
    try clear c6b0
    try clear c6b1
    try clear p6
    try clear c8
    try clear c8b0
    try clear c9
    try clear c9b0
    try clear c9b1
    try clear c10
    try clear c10b0
    try clear c10b1
    try clear c11
    try clear c11b0
    try clear c11b1
    try clear c16
    try clear c16b0
    try clear c17
    try clear c17b0
    try clear p18
    try clear q18
    try clear hx18
    try clear c19
    try clear c19b0
    try clear c19b1
    try clear hcz13_0
    try clear hcz13_1
    try clear hcz13_2
    try clear hcz13_3
    try clear hcz13_4
    try clear hcz13_5
    try clear hcz13_6
    try clear hfz13_0
    try clear hfz13_1
    try clear hfz13_2
    try clear hfz13_3
    try clear hfz13_4
    try clear hfz13_5
    try clear hfz13_6
    try clear p18
    try clear p2
    try clear p6
    try clear q18
    obtain ⟨kq,x37_14,rfl,HA,HJ14,BK198,HB⟩:=hcut
    cases kq with
    | zero=>exact absurd HA.out (by simp [spec_l04Next.j1])
    | succ kj14 =>
     have H:=HA.out
     clear HA
     simp only [spec_l04Next.j1] at H
     by_cases c20:x37_14=true
     ·subst c20
      have H1:((spec_l04Words.f kj14 a0 a1).bind fun bt200=>(some (bt200.1,bt200.2.1,bt200.2.2.1,bt200.2.2.2.1,bt200.2.2.2.2.1,bt200.2.2.2.2.2.1,bt200.2.2.2.2.2.2)))=some (r1,r2,r3,r4,r5,r6,r7):=by rw [if_pos rfl] at H;exact H
      clear H
      have H:=H1
      clear H1
      replace H:=ob_ H
      obtain ⟨⟨t200,t201,t202,t203,t204,t205,t208⟩,A210,H⟩:=H
      replace H:(some (t200,t201,t202,t203,t204,t205,t208))=some (r1,r2,r3,r4,r5,r6,r7):=H
      have A21:=A_ A210
      clear A210
      simp only [Option.some.injEq,Prod.mk.injEq] at H
      obtain ⟨rfl,rfl,rfl,rfl,rfl,rfl,rfl⟩:=H
      go_wp2_with (first|((with_reducible refine gate_callee (f:=30) rfl ?_);refine gl_ (some 40) rfl rfl Tryz.func30 (by kernel_rfl) rfl #[.string a0,.int .i64 a1] rfl  ?_;(with_reducible refine (spec_l04Words.calls kj14 a0 a1 t200 t201 t202 t203 t204 t205 t208 _ A21.out).mono ?_);rintro e w22 ⟨v206,rfl,ho0,hb⟩;refine ⟨_,rfl,?_⟩;have n0_:=A_ (Kd.R_lower ho0 (bz_ (bq1_ HB.out GE198.out)));have n1_:=A_ (kb_ (kq_ BK198.out) hb);have n2_:=A_ (bp_ (bq1_ HB.out GE198.out) hb);clear BK198;clear HB;have HO207:=n0_;have BK198:=n1_;have HB:=n2_;clear n0_ n1_ n2_;(try clear hb);(try clear hb2);(try clear hk);(try clear hi);(try clear ho0);obtain ⟨hcz23_0,hcz23_1,hcz23_2,hcz23_3,hcz23_4,hcz23_5,hcz23_6,hfz23_0,hfz23_1,hfz23_2,hfz23_3,hfz23_4,hfz23_5,hfz23_6⟩:=g7_ BK198.out;obtain ⟨Ao24,co24,eo24⟩:=Kd.R_slice HO207.out;subst eo24))
      refine bodyPost_ret (results_cell_row rfl _ _ gb198 24 #[.int .i64 t200,.int .i64 t201,.int .i64 t202,.string t203,.string t204,.slice Ao24 t205.length co24,.bool t208] (0,0) _ rfl (by (with_reducible repeat first|apply kn_|apply kd_|apply ka_);exact p7_ (kq_ BK198.out)) Tryz.underlying24 rfl (by kernel_rfl)) rfl ?_
      exact ⟨_,by first|rfl|(simp [errW_none,errW_some] <;> rfl)|(simp [*,errW_none,errW_some] <;> rfl),by (with_reducible repeat first|apply ra_|apply rn_|apply rd_);exact Kd.R_mono (f7_ (g:=gb198) (Kd.R_types HO207.out BK198.out (by decide)) (fun _ hk=>hk.2) (.int .i64 t200) (.int .i64 t201) (.int .i64 t202) (.string t203) (.string t204) (.slice Ao24 t205.length co24) (.bool t208)) (fun _ hk=>trivial),bq1_ HB.out GE198.out⟩
     ·replace c20:=bm_ c20
      subst c20
      have H1:(if 0≤(wrap64 (a1+1)) then (if (wrap64 (a1+1))<(a0.size:Int) then ((spec_l04Letter.f (bt a0 (wrap64 (a1+1)))).bind fun t209=>(if t209=true then ((spec_l04Open.f kj14 a0 a1).bind fun bt210=>(some (bt210.1,bt210.2.1,bt210.2.2.1,bt210.2.2.2.1,bt210.2.2.2.2.1,bt210.2.2.2.2.2.1,bt210.2.2.2.2.2.2))) else (if (bt a0 (wrap64 (a1+1)))=47 then (if (wrap64 (a1+2))<(a0.size:Int) then (if 0≤(wrap64 (a1+2)) then ((spec_l04Letter.f (bt a0 (wrap64 (a1+2)))).bind fun t219=>(spec_l04Next.j2 kj14 a0 a1 (bt a0 (wrap64 (a1+1))) t219)) else (none)) else (spec_l04Next.j2 kj14 a0 a1 (bt a0 (wrap64 (a1+1))) false)) else (spec_l04Next.j2 kj14 a0 a1 (bt a0 (wrap64 (a1+1))) false)))) else (none)) else (none))=some (r1,r2,r3,r4,r5,r6,r7):=by rw [if_neg (show ¬ (false=true) by decide)] at H;exact H
      clear H
      have H:=H1
      clear H1
      obtain ⟨ji25,hji25⟩:∃ j_:Int,(wrap64 (a1+1))=j_:=⟨_,rfl⟩
      replace H:(if 0≤(ji25) then (if (ji25)<(a0.size:Int) then ((spec_l04Letter.f (bt a0 (ji25))).bind fun t209=>(if t209=true then ((spec_l04Open.f kj14 a0 a1).bind fun bt210=>(some (bt210.1,bt210.2.1,bt210.2.2.1,bt210.2.2.2.1,bt210.2.2.2.2.1,bt210.2.2.2.2.2.1,bt210.2.2.2.2.2.2))) else (if (bt a0 (ji25))=47 then (if (wrap64 (a1+2))<(a0.size:Int) then (if 0≤(wrap64 (a1+2)) then ((spec_l04Letter.f (bt a0 (wrap64 (a1+2)))).bind fun t219=>(spec_l04Next.j2 kj14 a0 a1 (bt a0 (ji25)) t219)) else (none)) else (spec_l04Next.j2 kj14 a0 a1 (bt a0 (ji25)) false)) else (spec_l04Next.j2 kj14 a0 a1 (bt a0 (ji25)) false)))) else (none)) else (none))=some (r1,r2,r3,r4,r5,r6,r7):=by first|(rw [hji25] at H;exact H)|(simp only [hji25] at H ⊢;exact H)
      have hji25w:(IntKind.i64.wrap (a1+1))=ji25:=(i64_w _).trans hji25
      by_cases c26:0≤(ji25)
      ·rw [if_pos c26] at H
       have c26b0:decide (0≤(ji25))=true:=dt_ c26
       clear c26
       by_cases c27:(ji25)<(a0.size:Int)
       ·rw [if_pos c27] at H
        have c27b0:decide ((ji25)<(a0.size:Int))=true:=dt_ c27
        clear c27
        replace H:=ob_ H
        obtain ⟨t209,A290,H⟩:=H
        replace H:(if t209=true then ((spec_l04Open.f kj14 a0 a1).bind fun bt210=>(some (bt210.1,bt210.2.1,bt210.2.2.1,bt210.2.2.2.1,bt210.2.2.2.2.1,bt210.2.2.2.2.2.1,bt210.2.2.2.2.2.2))) else (if (bt a0 (ji25))=47 then (if (wrap64 (a1+2))<(a0.size:Int) then (if 0≤(wrap64 (a1+2)) then ((spec_l04Letter.f (bt a0 (wrap64 (a1+2)))).bind fun t219=>(spec_l04Next.j2 kj14 a0 a1 (bt a0 (ji25)) t219)) else (none)) else (spec_l04Next.j2 kj14 a0 a1 (bt a0 (ji25)) false)) else (spec_l04Next.j2 kj14 a0 a1 (bt a0 (ji25)) false)))=some (r1,r2,r3,r4,r5,r6,r7):=H
        have A29:=A_ A290
        clear A290
        by_cases c30:t209=true
        ·subst c30
         have H1:((spec_l04Open.f kj14 a0 a1).bind fun bt210=>(some (bt210.1,bt210.2.1,bt210.2.2.1,bt210.2.2.2.1,bt210.2.2.2.2.1,bt210.2.2.2.2.2.1,bt210.2.2.2.2.2.2)))=some (r1,r2,r3,r4,r5,r6,r7):=by rw [if_pos rfl] at H;exact H
         clear H
         have H:=H1
         clear H1
         replace H:=ob_ H
         obtain ⟨⟨t210,t211,t212,t213,t214,t215,t218⟩,A310,H⟩:=H
         replace H:(some (t210,t211,t212,t213,t214,t215,t218))=some (r1,r2,r3,r4,r5,r6,r7):=H
         have A31:=A_ A310
         clear A310
         simp only [Option.some.injEq,Prod.mk.injEq] at H
         obtain ⟨rfl,rfl,rfl,rfl,rfl,rfl,rfl⟩:=H
         have p28:0≤((ji25):Int):=oa_
         have q28:(ji25)<(a0.size:Int):=oa_
         have hx28:=bt_at a0 (ji25)
         replace p28:=eq_true p28
         replace q28:=eq_true q28
         go_wp2_with (first|((with_reducible refine gate_callee (f:=31) rfl ?_);refine goesL_ (some 47) rfl rfl Tryz.func31 (by kernel_rfl) rfl #[.int .u8 (bt a0 (ji25))] rfl (by (try simp only [List.map_toArray,List.map_cons,List.map_nil]);first|done|(simp only [hji25];rfl)|rfl|(simp only [ld_,lt_];rfl)) ?_;(with_reducible refine (spec_l04Letter.calls (bt a0 (ji25)) true _ A29.out).mono ?_);rintro e w' ⟨rfl,⟨nd,rfl⟩⟩;refine ⟨_,rfl,?_⟩;(try (rw [drewN_self wc];generalize hq_:World.drewN wc _=wc;have n0_:Aside0 (wc.heap[gb198]? = some (.cells #[.int .i64 x199000_3,.int .i64 x199001_3,.int .i64 x199002_3,.string x199003_3,.string x199004_3,.slice none 0 0,.bool x199006_3] 24 (0,0))):=⟨by rw [←hq_];exact (kq_ BK198.out)⟩;have n1_:Aside0 (Below w.heap.size w wc):=⟨by rw [←hq_];exact (bq1_ HB.out GE198.out)⟩;clear BK198 HB hq_;have BK198:=n0_;have HB:=n1_;clear n0_ n1_;obtain ⟨_,_,_,_,_,_,_,_,_,_,_,_,_,_⟩:=g7_ BK198.out)))|((with_reducible refine gate_callee (f:=32) rfl ?_);refine gl_ (some 50) rfl rfl Tryz.func32 (by kernel_rfl) rfl #[.string a0,.int .i64 a1] rfl  ?_;(with_reducible refine (spec_l04Open.calls kj14 a0 a1 t210 t211 t212 t213 t214 t215 t218 _ A31.out).mono ?_);rintro e w32 ⟨v216,rfl,ho0,hb⟩;refine ⟨_,rfl,?_⟩;have n0_:=A_ (Kd.R_lower ho0 (bz_ (bq1_ HB.out GE198.out)));have n1_:=A_ (kb_ (kq_ BK198.out) hb);have n2_:=A_ (bp_ (bq1_ HB.out GE198.out) hb);clear BK198;clear HB;have HO217:=n0_;have BK198:=n1_;have HB:=n2_;clear n0_ n1_ n2_;(try clear hb);(try clear hb2);(try clear hk);(try clear hi);(try clear ho0);obtain ⟨hcz33_0,hcz33_1,hcz33_2,hcz33_3,hcz33_4,hcz33_5,hcz33_6,hfz33_0,hfz33_1,hfz33_2,hfz33_3,hfz33_4,hfz33_5,hfz33_6⟩:=g7_ BK198.out;obtain ⟨Ao34,co34,eo34⟩:=Kd.R_slice HO217.out;subst eo34))
         refine bodyPost_ret (results_cell_row rfl _ _ gb198 24 #[.int .i64 t210,.int .i64 t211,.int .i64 t212,.string t213,.string t214,.slice Ao34 t215.length co34,.bool t218] (0,0) _ rfl (by (with_reducible repeat first|apply kn_|apply kd_|apply ka_);exact p7_ (kq_ BK198.out)) Tryz.underlying24 rfl (by kernel_rfl)) rfl ?_
         exact ⟨_,by first|rfl|(simp [errW_none,errW_some] <;> rfl)|(simp only [←hji25];first|rfl|(simp [errW_none,errW_some] <;> rfl))|(simp [*,errW_none,errW_some] <;> rfl),by (with_reducible repeat first|apply ra_|apply rn_|apply rd_);exact Kd.R_mono (f7_ (g:=gb198) (Kd.R_types HO217.out BK198.out (by decide)) (fun _ hk=>hk.2) (.int .i64 t210) (.int .i64 t211) (.int .i64 t212) (.string t213) (.string t214) (.slice Ao34 t215.length co34) (.bool t218)) (fun _ hk=>trivial),bq1_ HB.out GE198.out⟩
        ·replace c30:=bm_ c30
         subst c30
         have H1:(if (bt a0 (ji25))=47 then (if (wrap64 (a1+2))<(a0.size:Int) then (if 0≤(wrap64 (a1+2)) then ((spec_l04Letter.f (bt a0 (wrap64 (a1+2)))).bind fun t219=>(spec_l04Next.j2 kj14 a0 a1 (bt a0 (ji25)) t219)) else (none)) else (spec_l04Next.j2 kj14 a0 a1 (bt a0 (ji25)) false)) else (spec_l04Next.j2 kj14 a0 a1 (bt a0 (ji25)) false))=some (r1,r2,r3,r4,r5,r6,r7):=by rw [if_neg (show ¬ (false=true) by decide)] at H;exact H
         clear H
         have H:=H1
         clear H1
         have HC35:=A_ H
         clear H
         have p28:0≤((ji25):Int):=oa_
         have q28:(ji25)<(a0.size:Int):=oa_
         have hx28:=bt_at a0 (ji25)
         replace p28:=eq_true p28
         replace q28:=eq_true q28
         go_upto_region 10 with (first|((with_reducible refine gate_callee (f:=31) rfl ?_);refine goesL_ (some 47) rfl rfl Tryz.func31 (by kernel_rfl) rfl #[.int .u8 (bt a0 (ji25))] rfl (by (try simp only [List.map_toArray,List.map_cons,List.map_nil]);first|done|(simp only [hji25];rfl)|rfl|(simp only [ld_,lt_];rfl)) ?_;(with_reducible refine (spec_l04Letter.calls (bt a0 (ji25)) false _ A29.out).mono ?_);rintro e w' ⟨rfl,⟨nd,rfl⟩⟩;refine ⟨_,rfl,?_⟩))
         (try simp only [Act.put,ls_,lz_,lc_])
         go_cut [51] (fun v51 wc=>∃ (kq:Nat) (x51_34:Bool),v51=.bool x51_34∧Aside0 (spec_l04Next.j2 kq a0 a1 (bt a0 (ji25)) x51_34=some (r1,r2,r3,r4,r5,r6,r7))∧Aside0 (kq≤kj14)∧Aside0 (wc.heap[gb198]? = some (.cells #[.int .i64 x199000_3,.int .i64 x199001_3,.int .i64 x199002_3,.string x199003_3,.string x199004_3,(.slice none 0 0),.bool x199006_3] 24 (0,0)))∧Aside0 (Below w.heap.size w wc))
         case first =>
          have H:=HC35.out
          clear HC35
          by_cases c36:(bt a0 (ji25))=47
          ·rw [if_pos c36] at H
           have c36b0:((bt a0 (ji25)) == 47)=true:=beq_iff_eq.mpr c36
           have c36b1:((bt a0 (ji25)) != 47)=false:=bne_eq_false_iff_eq.mpr c36
           clear c36
           (first|rw [c36b0]|(simp only [i64_w,i32_w];rw [c36b0])|skip)
           by_cases c37:(wrap64 (a1+2))<(a0.size:Int)
           ·rw [if_pos c37] at H
            have c37b0:decide ((wrap64 (a1+2))<(a0.size:Int))=true:=dt_ c37
            clear c37
            obtain ⟨ji38,hji38⟩:∃ j_:Int,(wrap64 (a1+2))=j_:=⟨_,rfl⟩
            replace H:(if 0≤(ji38) then ((spec_l04Letter.f (bt a0 (ji38))).bind fun t219=>(spec_l04Next.j2 kj14 a0 a1 (bt a0 (ji25)) t219)) else (none))=some (r1,r2,r3,r4,r5,r6,r7):=by first|(rw [hji38] at H;exact H)|(simp only [hji38] at H ⊢;exact H)
            (try rw [hji38] at c37b0)
            have hji38w:(IntKind.i64.wrap (a1+2))=ji38:=(i64_w _).trans hji38
            (try rw [hji38] at hji25w)
            by_cases c39:0≤(ji38)
            ·rw [if_pos c39] at H
             have c39b0:decide (0≤(ji38))=true:=dt_ c39
             clear c39
             replace H:=ob_ H
             obtain ⟨t219,A410,H⟩:=H
             replace H:(spec_l04Next.j2 kj14 a0 a1 (bt a0 (ji25)) t219)=some (r1,r2,r3,r4,r5,r6,r7):=H
             have A41:=A_ A410
             clear A410
             have H':=A_ H
             clear H
             have p40:0≤((ji38):Int):=oa_
             have q40:(ji38)<(a0.size:Int):=oa_
             have hx40:=bt_at a0 (ji38)
             replace p40:=eq_true p40
             replace q40:=eq_true q40
             go_wp2_with (first|(go_at_call 31;(with_reducible refine (spec_l04Letter.calls (bt a0 (ji38)) t219 _ A41.out).mono ?_);rintro e w' ⟨rfl,⟨nd,rfl⟩⟩))
             go_meet
             case rel=>exact ⟨_,(t219),rs_,H',⟨by have:=HJ3.out;have:=HJ14.out;first|omega|exact Nat.le_refl _⟩,⟨kq_ BK198.out⟩,⟨bq1_ HB.out GE198.out⟩⟩
            ·rw [if_neg c39] at H
             exact absurd H (by simp)
           ·rw [if_neg c37] at H
            have c37b0:decide ((wrap64 (a1+2))<(a0.size:Int))=false:=df_ c37
            clear c37
            have H':=A_ H
            clear H
            go_wp2
            go_meet
            case rel=>exact ⟨_,(false),rs_,H',⟨by have:=HJ3.out;have:=HJ14.out;first|omega|exact Nat.le_refl _⟩,⟨kq_ BK198.out⟩,⟨bq1_ HB.out GE198.out⟩⟩
          ·rw [if_neg c36] at H
           have c36b0:((bt a0 (ji25)) == 47)=false:=beq_eq_false_iff_ne.mpr c36
           have c36b1:((bt a0 (ji25)) != 47)=true:=bne_iff_ne.mpr c36
           (first|rw [c36b0]|(simp only [i64_w,i32_w];rw [c36b0])|skip)
           have H':=A_ H
           clear H
           go_wp2
           go_meet
           case rel=>exact ⟨_,(false),rs_,H',⟨by have:=HJ3.out;have:=HJ14.out;first|omega|exact Nat.le_refl _⟩,⟨kq_ BK198.out⟩,⟨bq1_ HB.out GE198.out⟩⟩
         case rest =>
          clear HC35
          try clear c1
          try clear p1
          try clear q1
          try clear hx1
          try clear c2
          try clear p2
          try clear q2
          try clear hx2
          try clear c3
          try clear p4
          try clear q4
          try clear hx4
          try clear c6
          try clear c6b0
          try clear c6b1
          try clear p6
          try clear c8
          try clear c8b0
          try clear c9
          try clear c9b0
          try clear c9b1
          try clear c10
          try clear c10b0
          try clear c10b1
          try clear c11
          try clear c11b0
          try clear c11b1
          try clear c16
          try clear c16b0
          try clear c17
          try clear c17b0
          try clear p18
          try clear q18
          try clear hx18
          try clear c19
          try clear c19b0
          try clear c19b1
          try clear c20
          try clear c26
          try clear c26b0
          try clear c27
          try clear c27b0
          try clear p28
          try clear q28
          try clear hx28
          try clear c29
          try clear c30
          try clear c31
          try clear c32
          try clear c36
          try clear c36b0
          try clear c36b1
          try clear c37
          try clear c37b0
          try clear c39
          try clear c39b0
          try clear p40
          try clear q40
          try clear hx40
          try clear hcz13_0
          try clear hcz13_1
          try clear hcz13_2
          try clear hcz13_3
          try clear hcz13_4
          try clear hcz13_5
          try clear hcz13_6
          try clear hcz23_0
          try clear hcz23_1
          try clear hcz23_2
          try clear hcz23_3
          try clear hcz23_4
          try clear hcz23_5
          try clear hcz23_6
          try clear hcz33_0
          try clear hcz33_1
          try clear hcz33_2
          try clear hcz33_3
          try clear hcz33_4
          try clear hcz33_5
          try clear hcz33_6
          try clear hfz13_0
          try clear hfz13_1
          try clear hfz13_2
          try clear hfz13_3
          try clear hfz13_4
          try clear hfz13_5
          try clear hfz13_6
          try clear hfz23_0
          try clear hfz23_1
          try clear hfz23_2
          try clear hfz23_3
          try clear hfz23_4
          try clear hfz23_5
          try clear hfz23_6
          try clear hfz33_0
          try clear hfz33_1
          try clear hfz33_2
          try clear hfz33_3
          try clear hfz33_4
          try clear hfz33_5
          try clear hfz33_6
          try clear p1
          try clear p18
          try clear p2
          try clear p28
          try clear p40
          try clear p6
          try clear q1
          try clear q18
          try clear q28
          try clear q40
          obtain ⟨kq,x51_34,rfl,HA,HJ34,BK198,HB⟩:=hcut
          cases kq with
          | zero=>exact absurd HA.out (by simp [spec_l04Next.j2])
          | succ kj34 =>
           have H:=HA.out
           clear HA
           simp only [spec_l04Next.j2] at H
           by_cases c42:x51_34=true
           ·subst c42
            have H1:((spec_l04Close.f kj34 a0 a1).bind fun bt220=>(some (bt220.1,bt220.2.1,bt220.2.2.1,bt220.2.2.2.1,bt220.2.2.2.2.1,bt220.2.2.2.2.2.1,bt220.2.2.2.2.2.2)))=some (r1,r2,r3,r4,r5,r6,r7):=by rw [if_pos rfl] at H;exact H
            clear H
            have H:=H1
            clear H1
            replace H:=ob_ H
            obtain ⟨⟨t220,t221,t222,t223,t224,t225,t228⟩,A430,H⟩:=H
            replace H:(some (t220,t221,t222,t223,t224,t225,t228))=some (r1,r2,r3,r4,r5,r6,r7):=H
            have A43:=A_ A430
            clear A430
            simp only [Option.some.injEq,Prod.mk.injEq] at H
            obtain ⟨rfl,rfl,rfl,rfl,rfl,rfl,rfl⟩:=H
            go_wp2_with (first|((with_reducible refine gate_callee (f:=33) rfl ?_);refine gl_ (some 70) rfl rfl Tryz.func33 (by kernel_rfl) rfl #[.string a0,.int .i64 a1] rfl  ?_;(with_reducible refine (spec_l04Close.calls kj34 a0 a1 t220 t221 t222 t223 t224 t225 t228 _ A43.out).mono ?_);rintro e w44 ⟨v226,rfl,ho0,hb⟩;refine ⟨_,rfl,?_⟩;have n0_:=A_ (Kd.R_lower ho0 (bz_ (bq1_ HB.out GE198.out)));have n1_:=A_ (kb_ (kq_ BK198.out) hb);have n2_:=A_ (bp_ (bq1_ HB.out GE198.out) hb);clear BK198;clear HB;have HO227:=n0_;have BK198:=n1_;have HB:=n2_;clear n0_ n1_ n2_;(try clear hb);(try clear hb2);(try clear hk);(try clear hi);(try clear ho0);obtain ⟨hcz45_0,hcz45_1,hcz45_2,hcz45_3,hcz45_4,hcz45_5,hcz45_6,hfz45_0,hfz45_1,hfz45_2,hfz45_3,hfz45_4,hfz45_5,hfz45_6⟩:=g7_ BK198.out;obtain ⟨Ao46,co46,eo46⟩:=Kd.R_slice HO227.out;subst eo46))
            refine bodyPost_ret (results_cell_row rfl _ _ gb198 24 #[.int .i64 t220,.int .i64 t221,.int .i64 t222,.string t223,.string t224,.slice Ao46 t225.length co46,.bool t228] (0,0) _ rfl (by (with_reducible repeat first|apply kn_|apply kd_|apply ka_);exact p7_ (kq_ BK198.out)) Tryz.underlying24 rfl (by kernel_rfl)) rfl ?_
            exact ⟨_,by first|rfl|(simp [errW_none,errW_some] <;> rfl)|(simp only [←hji25];first|rfl|(simp [errW_none,errW_some] <;> rfl))|(simp [*,errW_none,errW_some] <;> rfl),by (with_reducible repeat first|apply ra_|apply rn_|apply rd_);exact Kd.R_mono (f7_ (g:=gb198) (Kd.R_types HO227.out BK198.out (by decide)) (fun _ hk=>hk.2) (.int .i64 t220) (.int .i64 t221) (.int .i64 t222) (.string t223) (.string t224) (.slice Ao46 t225.length co46) (.bool t228)) (fun _ hk=>trivial),bq1_ HB.out GE198.out⟩
           ·replace c42:=bm_ c42
            subst c42
            have H1:(if (wrap64 (a1+4))≤(a0.size:Int) then (if 0≤a1 then (if a1≤(wrap64 (a1+4)) then (spec_l04Next.j3 kj34 a0 a1 (bt a0 (ji25)) ((a0.extract (a1:Int).toNat ((wrap64 (a1+4)):Int).toNat).toList == ([60,33,45,45]:List UInt8))) else (none)) else (none)) else (spec_l04Next.j3 kj34 a0 a1 (bt a0 (ji25)) false))=some (r1,r2,r3,r4,r5,r6,r7):=by rw [if_neg (show ¬ (false=true) by decide)] at H;exact H
            clear H
            have H:=H1
            clear H1
            have HC47:=A_ H
            clear H
            go_upto_region 12 with (fail)
            go_cut [71] (fun v71 wc=>∃ (kq:Nat) (x71_46:Bool),v71=.bool x71_46∧Aside0 (spec_l04Next.j3 kq a0 a1 (bt a0 (ji25)) x71_46=some (r1,r2,r3,r4,r5,r6,r7))∧Aside0 (kq≤kj34)∧Aside0 (wc.heap[gb198]? = some (.cells #[.int .i64 x199000_3,.int .i64 x199001_3,.int .i64 x199002_3,.string x199003_3,.string x199004_3,(.slice none 0 0),.bool x199006_3] 24 (0,0)))∧Aside0 (Below w.heap.size w wc))
            case first =>
             have H:=HC47.out
             clear HC47
             by_cases c48:(wrap64 (a1+4))≤(a0.size:Int)
             ·rw [if_pos c48] at H
              have c48b0:decide ((wrap64 (a1+4))≤(a0.size:Int))=true:=dt_ c48
              clear c48
              (first|rw [c48b0]|(simp only [i64_w,i32_w];rw [c48b0])|skip)
              by_cases c49:0≤a1
              ·rw [if_pos c49] at H
               have c49b0:=eq_true c49
               have c49b1:decide (0≤a1)=true:=dt_ c49
               clear c49
               by_cases c50:a1≤(wrap64 (a1+4))
               ·rw [if_pos c50] at H
                have c50b0:=eq_true c50
                have c50b1:decide (a1≤(wrap64 (a1+4)))=true:=dt_ c50
                have c51b0:=eq_true (oa_:(wrap64 (a1+4))≤(a0.size:Int))
                have H':=A_ H
                clear H
                go_wp2
                go_meet
                case rel=>exact ⟨_,(((a0.extract (a1:Int).toNat ((wrap64 (a1+4)):Int).toNat).toList == ([60,33,45,45]:List UInt8))),rs_,H',⟨by have:=HJ3.out;have:=HJ14.out;have:=HJ34.out;first|omega|exact Nat.le_refl _⟩,⟨kq_ BK198.out⟩,⟨bq1_ HB.out GE198.out⟩⟩
               ·rw [if_neg c50] at H
                exact absurd H (by simp)
              ·rw [if_neg c49] at H
               exact absurd H (by simp)
             ·rw [if_neg c48] at H
              have c48b0:decide ((wrap64 (a1+4))≤(a0.size:Int))=false:=df_ c48
              clear c48
              (first|rw [c48b0]|(simp only [i64_w,i32_w];rw [c48b0])|skip)
              have H':=A_ H
              clear H
              go_wp2
              go_meet
              case rel=>exact ⟨_,(false),rs_,H',⟨by have:=HJ3.out;have:=HJ14.out;have:=HJ34.out;first|omega|exact Nat.le_refl _⟩,⟨kq_ BK198.out⟩,⟨bq1_ HB.out GE198.out⟩⟩
            case rest =>
             clear HC47
             try clear c1
             try clear p1
             try clear q1
             try clear hx1
             try clear c2
             try clear p2
             try clear q2
             try clear hx2
             try clear c3
             try clear c4
             try clear p4
             try clear q4
             try clear hx4
             try clear c5
             try clear c6
             try clear c6b0
             try clear c6b1
             try clear p6
             try clear c8
             try clear c8b0
             try clear c9
             try clear c9b0
             try clear c9b1
             try clear c10
             try clear c10b0
             try clear c10b1
             try clear c11
             try clear c11b0
             try clear c11b1
             try clear c16
             try clear c16b0
             try clear c17
             try clear c17b0
             try clear p18
             try clear q18
             try clear hx18
             try clear c19
             try clear c19b0
             try clear c19b1
             try clear c20
             try clear c26
             try clear c26b0
             try clear c27
             try clear c27b0
             try clear p28
             try clear q28
             try clear hx28
             try clear c29
             try clear c30
             try clear c31
             try clear c32
             try clear c33
             try clear c36
             try clear c36b0
             try clear c36b1
             try clear c37
             try clear c37b0
             try clear c39
             try clear c39b0
             try clear p40
             try clear q40
             try clear hx40
             try clear c42
             try clear c48
             try clear c48b0
             try clear c49
             try clear c49b0
             try clear c49b1
             try clear c50
             try clear c50b0
             try clear c50b1
             try clear c51
             try clear c51b0
             try clear hcz13_0
             try clear hcz13_1
             try clear hcz13_2
             try clear hcz13_3
             try clear hcz13_4
             try clear hcz13_5
             try clear hcz13_6
             try clear hcz23_0
             try clear hcz23_1
             try clear hcz23_2
             try clear hcz23_3
             try clear hcz23_4
             try clear hcz23_5
             try clear hcz23_6
             try clear hcz33_0
             try clear hcz33_1
             try clear hcz33_2
             try clear hcz33_3
             try clear hcz33_4
             try clear hcz33_5
             try clear hcz33_6
             try clear hcz45_0
             try clear hcz45_1
             try clear hcz45_2
             try clear hcz45_3
             try clear hcz45_4
             try clear hcz45_5
             try clear hcz45_6
             try clear hfz13_0
             try clear hfz13_1
             try clear hfz13_2
             try clear hfz13_3
             try clear hfz13_4
             try clear hfz13_5
             try clear hfz13_6
             try clear hfz23_0
             try clear hfz23_1
             try clear hfz23_2
             try clear hfz23_3
             try clear hfz23_4
             try clear hfz23_5
             try clear hfz23_6
             try clear hfz33_0
             try clear hfz33_1
             try clear hfz33_2
             try clear hfz33_3
             try clear hfz33_4
             try clear hfz33_5
             try clear hfz33_6
             try clear hfz45_0
             try clear hfz45_1
             try clear hfz45_2
             try clear hfz45_3
             try clear hfz45_4
             try clear hfz45_5
             try clear hfz45_6
             try clear p1
             try clear p18
             try clear p2
             try clear p28
             try clear p4
             try clear p40
             try clear p6
             try clear q1
             try clear q18
             try clear q2
             try clear q28
             try clear q4
             try clear q40
             obtain ⟨kq,x71_46,rfl,HA,HJ46,BK198,HB⟩:=hcut
             cases kq with
             | zero=>exact absurd HA.out (by simp [spec_l04Next.j3])
             | succ kj46 =>
              have H:=HA.out
              clear HA
              simp only [spec_l04Next.j3] at H
              by_cases c52:x71_46=true
              ·subst c52
               have H1:((spec_l04Comment.f kj46 a0 a1 (wrap64 (a1+4)) (⟨#[45,45,62]⟩:ByteArray)).bind fun bt229=>(some (bt229.1,bt229.2.1,bt229.2.2.1,bt229.2.2.2.1,bt229.2.2.2.2.1,bt229.2.2.2.2.2.1,bt229.2.2.2.2.2.2)))=some (r1,r2,r3,r4,r5,r6,r7):=by rw [if_pos rfl] at H;exact H
               clear H
               have H:=H1
               clear H1
               replace H:=ob_ H
               obtain ⟨⟨t229,t230,t231,t232,t233,t234,t237⟩,A530,H⟩:=H
               replace H:(some (t229,t230,t231,t232,t233,t234,t237))=some (r1,r2,r3,r4,r5,r6,r7):=H
               have A53:=A_ A530
               clear A530
               simp only [Option.some.injEq,Prod.mk.injEq] at H
               obtain ⟨rfl,rfl,rfl,rfl,rfl,rfl,rfl⟩:=H
               go_wp2_with (first|((with_reducible refine gate_callee (f:=34) rfl ?_);refine gl_ (some 89) rfl rfl Tryz.func34 (by kernel_rfl) rfl #[.string a0,.int .i64 a1,.int .i64 (wrap64 (a1+4)),.string (⟨#[45,45,62]⟩:ByteArray)] rfl  ?_;(with_reducible refine (spec_l04Comment.calls kj46 a0 a1 (wrap64 (a1+4)) (⟨#[45,45,62]⟩:ByteArray) t229 t230 t231 t232 t233 t234 t237 _ A53.out).mono ?_);rintro e w54 ⟨v235,rfl,ho0,hb⟩;refine ⟨_,rfl,?_⟩;have n0_:=A_ (Kd.R_lower ho0 (bz_ (bq1_ HB.out GE198.out)));have n1_:=A_ (kb_ (kq_ BK198.out) hb);have n2_:=A_ (bp_ (bq1_ HB.out GE198.out) hb);clear BK198;clear HB;have HO236:=n0_;have BK198:=n1_;have HB:=n2_;clear n0_ n1_ n2_;(try clear hb);(try clear hb2);(try clear hk);(try clear hi);(try clear ho0);obtain ⟨hcz55_0,hcz55_1,hcz55_2,hcz55_3,hcz55_4,hcz55_5,hcz55_6,hfz55_0,hfz55_1,hfz55_2,hfz55_3,hfz55_4,hfz55_5,hfz55_6⟩:=g7_ BK198.out;obtain ⟨Ao56,co56,eo56⟩:=Kd.R_slice HO236.out;subst eo56))
               refine bodyPost_ret (results_cell_row rfl _ _ gb198 24 #[.int .i64 t229,.int .i64 t230,.int .i64 t231,.string t232,.string t233,.slice Ao56 t234.length co56,.bool t237] (0,0) _ rfl (by (with_reducible repeat first|apply kn_|apply kd_|apply ka_);exact p7_ (kq_ BK198.out)) Tryz.underlying24 rfl (by kernel_rfl)) rfl ?_
               exact ⟨_,by first|rfl|(simp [errW_none,errW_some] <;> rfl)|(simp only [←hji25];first|rfl|(simp [errW_none,errW_some] <;> rfl))|(simp [*,errW_none,errW_some] <;> rfl),by (with_reducible repeat first|apply ra_|apply rn_|apply rd_);exact Kd.R_mono (f7_ (g:=gb198) (Kd.R_types HO236.out BK198.out (by decide)) (fun _ hk=>hk.2) (.int .i64 t229) (.int .i64 t230) (.int .i64 t231) (.string t232) (.string t233) (.slice Ao56 t234.length co56) (.bool t237)) (fun _ hk=>trivial),bq1_ HB.out GE198.out⟩
              ·replace c52:=bm_ c52
               subst c52
               have H1:(if (bt a0 (ji25))=33 then (spec_l04Next.j4 kj46 a0 a1 true) else (if (bt a0 (ji25))=63 then (spec_l04Next.j4 kj46 a0 a1 true) else (spec_l04Next.j4 kj46 a0 a1 ((bt a0 (ji25)) == 47))))=some (r1,r2,r3,r4,r5,r6,r7):=by rw [if_neg (show ¬ (false=true) by decide)] at H;exact H
               clear H
               have H:=H1
               clear H1
               have HC57:=A_ H
               clear H
               go_upto_region 14 with (fail)
               go_cut [90] (fun v90 wc=>∃ (kq:Nat) (x90_56:Bool),v90=.bool x90_56∧Aside0 (spec_l04Next.j4 kq a0 a1 x90_56=some (r1,r2,r3,r4,r5,r6,r7))∧Aside0 (kq≤kj46)∧Aside0 (wc.heap[gb198]? = some (.cells #[.int .i64 x199000_3,.int .i64 x199001_3,.int .i64 x199002_3,.string x199003_3,.string x199004_3,(.slice none 0 0),.bool x199006_3] 24 (0,0)))∧Aside0 (Below w.heap.size w wc))
               case first =>
                have H:=HC57.out
                clear HC57
                by_cases c58:(bt a0 (ji25))=33
                ·rw [if_pos c58] at H
                 have c58b0:((bt a0 (ji25)) == 33)=true:=beq_iff_eq.mpr c58
                 have c58b1:((bt a0 (ji25)) != 33)=false:=bne_eq_false_iff_eq.mpr c58
                 clear c58
                 (first|rw [c58b0]|(simp only [i64_w,i32_w];rw [c58b0])|skip)
                 have H':=A_ H
                 clear H
                 go_wp2
                 go_meet
                 case rel=>exact ⟨_,(true),rs_,H',⟨by have:=HJ3.out;have:=HJ14.out;have:=HJ34.out;have:=HJ46.out;first|omega|exact Nat.le_refl _⟩,⟨kq_ BK198.out⟩,⟨bq1_ HB.out GE198.out⟩⟩
                ·rw [if_neg c58] at H
                 have c58b0:((bt a0 (ji25)) == 33)=false:=beq_eq_false_iff_ne.mpr c58
                 have c58b1:((bt a0 (ji25)) != 33)=true:=bne_iff_ne.mpr c58
                 (first|rw [c58b0]|(simp only [i64_w,i32_w];rw [c58b0])|skip)
                 by_cases c59:(bt a0 (ji25))=63
                 ·rw [if_pos c59] at H
                  have c59b0:((bt a0 (ji25)) == 63)=true:=beq_iff_eq.mpr c59
                  have c59b1:((bt a0 (ji25)) != 63)=false:=bne_eq_false_iff_eq.mpr c59
                  clear c59
                  have H':=A_ H
                  clear H
                  go_wp2
                  go_meet
                  case rel=>exact ⟨_,(true),rs_,H',⟨by have:=HJ3.out;have:=HJ14.out;have:=HJ34.out;have:=HJ46.out;first|omega|exact Nat.le_refl _⟩,⟨kq_ BK198.out⟩,⟨bq1_ HB.out GE198.out⟩⟩
                 ·rw [if_neg c59] at H
                  have c59b0:((bt a0 (ji25)) == 63)=false:=beq_eq_false_iff_ne.mpr c59
                  have c59b1:((bt a0 (ji25)) != 63)=true:=bne_iff_ne.mpr c59
                  have H':=A_ H
                  clear H
                  go_wp2
                  go_meet
                  case rel=>exact ⟨_,(((bt a0 (ji25)) == 47)),(by first|rfl|(simp;done)|(simp only [←hji25] <;> (first|rfl|simp))|(simp [*];done)),H',⟨by have:=HJ3.out;have:=HJ14.out;have:=HJ34.out;have:=HJ46.out;first|omega|exact Nat.le_refl _⟩,⟨kq_ BK198.out⟩,⟨bq1_ HB.out GE198.out⟩⟩
               case rest =>
                clear HC57
                try clear c1
                try clear p1
                try clear q1
                try clear hx1
                try clear c2
                try clear p2
                try clear q2
                try clear hx2
                try clear c3
                try clear c4
                try clear p4
                try clear q4
                try clear hx4
                try clear c5
                try clear c6
                try clear c6b0
                try clear c6b1
                try clear p6
                try clear c8
                try clear c8b0
                try clear c9
                try clear c9b0
                try clear c9b1
                try clear c10
                try clear c10b0
                try clear c10b1
                try clear c11
                try clear c11b0
                try clear c11b1
                try clear c16
                try clear c16b0
                try clear c17
                try clear c17b0
                try clear p18
                try clear q18
                try clear hx18
                try clear c19
                try clear c19b0
                try clear c19b1
                try clear c20
                try clear c26
                try clear c26b0
                try clear c27
                try clear c27b0
                try clear p28
                try clear q28
                try clear hx28
                try clear c29
                try clear c30
                try clear c31
                try clear c32
                try clear c33
                try clear c34
                try clear c36
                try clear c36b0
                try clear c36b1
                try clear c37
                try clear c37b0
                try clear c39
                try clear c39b0
                try clear p40
                try clear q40
                try clear hx40
                try clear c42
                try clear c48
                try clear c48b0
                try clear c49
                try clear c49b0
                try clear c49b1
                try clear c50
                try clear c50b0
                try clear c50b1
                try clear c51
                try clear c51b0
                try clear c52
                try clear c58
                try clear c58b0
                try clear c58b1
                try clear c59
                try clear c59b0
                try clear c59b1
                try clear hcz13_0
                try clear hcz13_1
                try clear hcz13_2
                try clear hcz13_3
                try clear hcz13_4
                try clear hcz13_5
                try clear hcz13_6
                try clear hcz23_0
                try clear hcz23_1
                try clear hcz23_2
                try clear hcz23_3
                try clear hcz23_4
                try clear hcz23_5
                try clear hcz23_6
                try clear hcz33_0
                try clear hcz33_1
                try clear hcz33_2
                try clear hcz33_3
                try clear hcz33_4
                try clear hcz33_5
                try clear hcz33_6
                try clear hcz45_0
                try clear hcz45_1
                try clear hcz45_2
                try clear hcz45_3
                try clear hcz45_4
                try clear hcz45_5
                try clear hcz45_6
                try clear hcz55_0
                try clear hcz55_1
                try clear hcz55_2
                try clear hcz55_3
                try clear hcz55_4
                try clear hcz55_5
                try clear hcz55_6
                try clear hfz13_0
                try clear hfz13_1
                try clear hfz13_2
                try clear hfz13_3
                try clear hfz13_4
                try clear hfz13_5
                try clear hfz13_6
                try clear hfz23_0
                try clear hfz23_1
                try clear hfz23_2
                try clear hfz23_3
                try clear hfz23_4
                try clear hfz23_5
                try clear hfz23_6
                try clear hfz33_0
                try clear hfz33_1
                try clear hfz33_2
                try clear hfz33_3
                try clear hfz33_4
                try clear hfz33_5
                try clear hfz33_6
                try clear hfz45_0
                try clear hfz45_1
                try clear hfz45_2
                try clear hfz45_3
                try clear hfz45_4
                try clear hfz45_5
                try clear hfz45_6
                try clear hfz55_0
                try clear hfz55_1
                try clear hfz55_2
                try clear hfz55_3
                try clear hfz55_4
                try clear hfz55_5
                try clear hfz55_6
                try clear p1
                try clear p18
                try clear p2
                try clear p28
                try clear p4
                try clear p40
                try clear p6
                try clear q1
                try clear q18
                try clear q2
                try clear q28
                try clear q4
                try clear q40
                obtain ⟨kq,x90_56,rfl,HA,HJ56,BK198,HB⟩:=hcut
                cases kq with
                | zero=>exact absurd HA.out (by simp [spec_l04Next.j4])
                | succ kj56 =>
                 have H:=HA.out
                 clear HA
                 simp only [spec_l04Next.j4] at H
                 by_cases c60:x90_56=true
                 ·subst c60
                  have H1:((spec_l04Comment.f kj56 a0 a1 (wrap64 (a1+2)) (⟨#[62]⟩:ByteArray)).bind fun bt238=>(some (bt238.1,bt238.2.1,bt238.2.2.1,bt238.2.2.2.1,bt238.2.2.2.2.1,bt238.2.2.2.2.2.1,bt238.2.2.2.2.2.2)))=some (r1,r2,r3,r4,r5,r6,r7):=by rw [if_pos rfl] at H;exact H
                  clear H
                  have H:=H1
                  clear H1
                  replace H:=ob_ H
                  obtain ⟨⟨t238,t239,t240,t241,t242,t243,t246⟩,A610,H⟩:=H
                  replace H:(some (t238,t239,t240,t241,t242,t243,t246))=some (r1,r2,r3,r4,r5,r6,r7):=H
                  have A61:=A_ A610
                  clear A610
                  simp only [Option.some.injEq,Prod.mk.injEq] at H
                  obtain ⟨rfl,rfl,rfl,rfl,rfl,rfl,rfl⟩:=H
                  go_wp2_with (first|((with_reducible refine gate_callee (f:=34) rfl ?_);refine gl_ (some 105) rfl rfl Tryz.func34 (by kernel_rfl) rfl #[.string a0,.int .i64 a1,.int .i64 (wrap64 (a1+2)),.string (⟨#[62]⟩:ByteArray)] rfl  ?_;(with_reducible refine (spec_l04Comment.calls kj56 a0 a1 (wrap64 (a1+2)) (⟨#[62]⟩:ByteArray) t238 t239 t240 t241 t242 t243 t246 _ A61.out).mono ?_);rintro e w62 ⟨v244,rfl,ho0,hb⟩;refine ⟨_,rfl,?_⟩;have n0_:=A_ (Kd.R_lower ho0 (bz_ (bq1_ HB.out GE198.out)));have n1_:=A_ (kb_ (kq_ BK198.out) hb);have n2_:=A_ (bp_ (bq1_ HB.out GE198.out) hb);clear BK198;clear HB;have HO245:=n0_;have BK198:=n1_;have HB:=n2_;clear n0_ n1_ n2_;(try clear hb);(try clear hb2);(try clear hk);(try clear hi);(try clear ho0);obtain ⟨_,_,_,_,_,_,_,_,_,_,_,_,_,_⟩:=g7_ BK198.out;obtain ⟨Ao64,co64,eo64⟩:=Kd.R_slice HO245.out;subst eo64))
                  refine bodyPost_ret (results_cell_row rfl _ _ gb198 24 #[.int .i64 t238,.int .i64 t239,.int .i64 t240,.string t241,.string t242,.slice Ao64 t243.length co64,.bool t246] (0,0) _ rfl (by (with_reducible repeat first|apply kn_|apply kd_|apply ka_);exact p7_ (kq_ BK198.out)) Tryz.underlying24 rfl (by kernel_rfl)) rfl ?_
                  exact ⟨_,by first|rfl|(simp [errW_none,errW_some] <;> rfl)|(simp only [←hji25];first|rfl|(simp [errW_none,errW_some] <;> rfl))|(simp [*,errW_none,errW_some] <;> rfl),by (with_reducible repeat first|apply ra_|apply rn_|apply rd_);exact Kd.R_mono (f7_ (g:=gb198) (Kd.R_types HO245.out BK198.out (by decide)) (fun _ hk=>hk.2) (.int .i64 t238) (.int .i64 t239) (.int .i64 t240) (.string t241) (.string t242) (.slice Ao64 t243.length co64) (.bool t246)) (fun _ hk=>trivial),bq1_ HB.out GE198.out⟩
                 ·replace c60:=bm_ c60
                  subst c60
                  have H1:((spec_l04Words.f kj56 a0 a1).bind fun bt247=>(some (bt247.1,bt247.2.1,bt247.2.2.1,bt247.2.2.2.1,bt247.2.2.2.2.1,bt247.2.2.2.2.2.1,bt247.2.2.2.2.2.2)))=some (r1,r2,r3,r4,r5,r6,r7):=by rw [if_neg (show ¬ (false=true) by decide)] at H;exact H
                  clear H
                  have H:=H1
                  clear H1
                  replace H:=ob_ H
                  obtain ⟨⟨t247,t248,t249,t250,t251,t252,t255⟩,A650,H⟩:=H
                  replace H:(some (t247,t248,t249,t250,t251,t252,t255))=some (r1,r2,r3,r4,r5,r6,r7):=H
                  have A65:=A_ A650
                  clear A650
                  simp only [Option.some.injEq,Prod.mk.injEq] at H
                  obtain ⟨rfl,rfl,rfl,rfl,rfl,rfl,rfl⟩:=H
                  go_wp2_with (first|((with_reducible refine gate_callee (f:=30) rfl ?_);refine gl_ (some 108) rfl rfl Tryz.func30 (by kernel_rfl) rfl #[.string a0,.int .i64 a1] rfl  ?_;(with_reducible refine (spec_l04Words.calls kj56 a0 a1 t247 t248 t249 t250 t251 t252 t255 _ A65.out).mono ?_);rintro e w66 ⟨v253,rfl,ho0,hb⟩;refine ⟨_,rfl,?_⟩;have n0_:=A_ (Kd.R_lower ho0 (bz_ (bq1_ HB.out GE198.out)));have n1_:=A_ (kb_ (kq_ BK198.out) hb);have n2_:=A_ (bp_ (bq1_ HB.out GE198.out) hb);clear BK198;clear HB;have HO254:=n0_;have BK198:=n1_;have HB:=n2_;clear n0_ n1_ n2_;(try clear hb);(try clear hb2);(try clear hk);(try clear hi);(try clear ho0);obtain ⟨_,_,_,_,_,_,_,_,_,_,_,_,_,_⟩:=g7_ BK198.out;obtain ⟨Ao68,co68,eo68⟩:=Kd.R_slice HO254.out;subst eo68))
                  refine bodyPost_ret (results_cell_row rfl _ _ gb198 24 #[.int .i64 t247,.int .i64 t248,.int .i64 t249,.string t250,.string t251,.slice Ao68 t252.length co68,.bool t255] (0,0) _ rfl (by (with_reducible repeat first|apply kn_|apply kd_|apply ka_);exact p7_ (kq_ BK198.out)) Tryz.underlying24 rfl (by kernel_rfl)) rfl ?_
                  exact ⟨_,by first|rfl|(simp [errW_none,errW_some] <;> rfl)|(simp only [←hji25];first|rfl|(simp [errW_none,errW_some] <;> rfl))|(simp [*,errW_none,errW_some] <;> rfl),by (with_reducible repeat first|apply ra_|apply rn_|apply rd_);exact Kd.R_mono (f7_ (g:=gb198) (Kd.R_types HO254.out BK198.out (by decide)) (fun _ hk=>hk.2) (.int .i64 t247) (.int .i64 t248) (.int .i64 t249) (.string t250) (.string t251) (.slice Ao68 t252.length co68) (.bool t255)) (fun _ hk=>trivial),bq1_ HB.out GE198.out⟩
       ·rw [if_neg c27] at H
        exact absurd H (by simp)
      ·rw [if_neg c26] at H
       exact absurd H (by simp)
end Go.Proofs.YtfkanlbmgbkniaaGreatDoor.PFnExactTokensOf
