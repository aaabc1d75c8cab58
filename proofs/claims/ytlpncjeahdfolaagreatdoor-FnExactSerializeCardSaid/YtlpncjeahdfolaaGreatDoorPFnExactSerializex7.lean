/- By a program of this session, out of the kit's print and contracts made by hand: the machine side of a law; Lean checks it. No conditions. -/
import Derived.Test.YtlpncjeahdfolaaGreatDoorPFnExactSerializex0
import Derived.Test.YtlpncjeahdfolaaGreatDoorPFnExactSerializex5
import Derived.Test.YtlpncjeahdfolaaGreatDoorPFnExactSerializex6
namespace Go.Proofs.YtlpncjeahdfolaaGreatDoor.PFnExactSerialize
open Go.RowKit Go.Proofs.YtlpncjeahdfolaaGreatDoorW.PrintWords Go.Proofs.YtlpncjeahdfolaaGreatDoorW.PrintLast Go.Proofs.YtlpncjeahdfolaaGreatDoorW.PrintMore
attribute [local go_sem] max2_int min2_int max_two min_two max_three min_three max_four min_four
set_option linter.unusedVariables false
set_option linter.unusedSimpArgs false
/-! ### spec_l03Holds: function 45 -/
mutual
def spec_l03Holds.j0:Nat→Bool→Int→Int→ByteArray→ByteArray→List (S63)→List (S38)→Option (Bool)
 | 0,_,_,_,_,_,_,_=>none
 | k+1,x11,x132000,x132001,x132002,x132003,x132004,x132005=>if x11=true then (some true) else ((spec_l01Void.f k x132002).bind fun t132=>(if t132=true then (some ((x132005.length:Int) == 0)) else (spec_l03Holds.l0 k 0 x132000 x132001 x132002 x132003 x132004 x132005)))
def spec_l03Holds.l0:Nat→Int→Int→Int→ByteArray→ByteArray→List (S63)→List (S38)→Option (Bool)
 | 0,_,_,_,_,_,_,_=>none
 | k+1,x3,x132000,x132001,x132002,x132003,x132004,x132005=>if x3<(x132005.length:Int) then ((spec_l01Raw.f k x132002).bind fun t133=>(if t133=true then (if 0≤x3 then (if ((rd_T38 x132005 x3).f0)=2 then (spec_l03Holds.l0 k (wrap64 (x3+1)) x132000 x132001 x132002 x132003 x132004 x132005) else (some false)) else (none)) else (spec_l03Holds.l0 k (wrap64 (x3+1)) x132000 x132001 x132002 x132003 x132004 x132005))) else (some true)
end
def spec_l03Holds.f (k:Nat) (a0_0:Int) (a0_1:Int) (a0_2:ByteArray) (a0_3:ByteArray) (l0_4:List (S63)) (l0_5:List (S38)):Option (Bool):=if a0_0=1 then (spec_l03Holds.j0 k (a0_1 != 0) a0_0 a0_1 a0_2 a0_3 l0_4 l0_5) else (spec_l03Holds.j0 k true a0_0 a0_1 a0_2 a0_3 l0_4 l0_5)
theorem spec_l03Holds.mono_l:∀ k,(∀ y0 y1 y2 y3 y4 y5 y6,LeO (spec_l03Holds.j0 k y0 y1 y2 y3 y4 y5 y6) (spec_l03Holds.j0 (k+1) y0 y1 y2 y3 y4 y5 y6))∧(∀ y0 y1 y2 y3 y4 y5 y6,LeO (spec_l03Holds.l0 k y0 y1 y2 y3 y4 y5 y6) (spec_l03Holds.l0 (k+1) y0 y1 y2 y3 y4 y5 y6))
 | 0=>⟨fun _ _ _ _ _ _ _ r h=>by simp [spec_l03Holds.j0] at h,fun _ _ _ _ _ _ _ r h=>by simp [spec_l03Holds.l0] at h⟩
 | k+1=>by
  obtain ⟨ih0,ih1⟩:=spec_l03Holds.mono_l k
  refine ⟨?_,?_⟩
  ·intro y0 y1 y2 y3 y4 y5 y6
   unfold spec_l03Holds.j0
   repeat' first
   | (with_reducible exact ih0 _ _ _ _ _ _ _)
   | (with_reducible exact ih1 _ _ _ _ _ _ _)
   | (with_reducible exact spec_l01Raw.mono _ _)
   | (with_reducible exact spec_l01Void.mono _ _)
   | (with_reducible exact LeO.refl _)
   | (with_reducible exact LeO.none _)
   | (with_reducible refine LeO.ite ?_ ?_)
   | (with_reducible refine LeO.bind ?_ (fun _=>?_))
   | exact ih0 _ _ _ _ _ _ _
   | exact ih1 _ _ _ _ _ _ _
   | exact spec_l01Raw.mono _ _
   | exact spec_l01Void.mono _ _
   | exact LeO.none _
   | refine LeO.ite ?_ ?_
   | refine LeO.bind ?_ (fun _=>?_)
  ·intro y0 y1 y2 y3 y4 y5 y6
   unfold spec_l03Holds.l0
   repeat' first
   | (with_reducible exact ih0 _ _ _ _ _ _ _)
   | (with_reducible exact ih1 _ _ _ _ _ _ _)
   | (with_reducible exact spec_l01Raw.mono _ _)
   | (with_reducible exact spec_l01Void.mono _ _)
   | (with_reducible exact LeO.refl _)
   | (with_reducible exact LeO.none _)
   | (with_reducible refine LeO.ite ?_ ?_)
   | (with_reducible refine LeO.bind ?_ (fun _=>?_))
   | exact ih0 _ _ _ _ _ _ _
   | exact ih1 _ _ _ _ _ _ _
   | exact spec_l01Raw.mono _ _
   | exact spec_l01Void.mono _ _
   | exact LeO.none _
   | refine LeO.ite ?_ ?_
   | refine LeO.bind ?_ (fun _=>?_)
theorem spec_l03Holds.mono:∀ a0 a1 a2 a3 a4 a5 k,LeO (spec_l03Holds.f k a0 a1 a2 a3 a4 a5) (spec_l03Holds.f (k+1) a0 a1 a2 a3 a4 a5):=by
 intro a0 a1 a2 a3 a4 a5 k
 obtain ⟨ih0,ih1⟩:=spec_l03Holds.mono_l k
 unfold spec_l03Holds.f
 repeat' first
  | (with_reducible exact ih0 _ _ _ _ _ _ _)
  | (with_reducible exact ih1 _ _ _ _ _ _ _)
  | (with_reducible exact spec_l01Raw.mono _ _)
  | (with_reducible exact spec_l01Void.mono _ _)
  | (with_reducible exact LeO.refl _)
  | (with_reducible exact LeO.none _)
  | (with_reducible refine LeO.ite ?_ ?_)
  | (with_reducible refine LeO.bind ?_ (fun _=>?_))
  | exact ih0 _ _ _ _ _ _ _
  | exact ih1 _ _ _ _ _ _ _
  | exact spec_l01Raw.mono _ _
  | exact spec_l01Void.mono _ _
  | exact LeO.none _
  | refine LeO.ite ?_ ?_
  | refine LeO.bind ?_ (fun _=>?_)
set_option maxHeartbeats 8000000 in
set_option maxRecDepth 100000 in
theorem spec_l03Holds.calls (k:Nat) (a0_0:Int) (a0_1:Int) (a0_2:ByteArray) (a0_3:ByteArray) (A0_4:Option Addr) (c0_4:Nat) (l0_4:List (S63)) (A0_5:Option Addr) (c0_5:Nat) (l0_5:List (S38)) (r:Bool) (w:World) (hr0_4:Kd.C k63 w A0_4 l0_4.length l0_4) (hc0_4:l0_4.length≤c0_4) (hr0_5:Kd.C k38 w A0_5 l0_5.length l0_5) (hc0_5:l0_5.length≤c0_5) (h:spec_l03Holds.f k a0_0 a0_1 a0_2 a0_3 l0_4 l0_5=some r) :
 Calls Tryz.prog 45 #[.agg #[.int .i64 a0_0,.int .i64 a0_1,.string a0_2,.string a0_3,.slice A0_4 l0_4.length c0_4,.slice A0_5 l0_5.length c0_5]] w fun e w'=>e=.returned (.bool r)∧Below w.heap.size w w':=by
 have hu38:=Tryz.underlying38
 have HR0_4:=A_ hr0_4
 have HC0_4:=A_ hc0_4
 clear hr0_4 hc0_4
 have HR0_5:=A_ hr0_5
 have HC0_5:=A_ hc0_5
 clear hr0_5 hc0_5
 have HB:=A_ (Below.refl w.heap.size w)
 have H:(if a0_0=1 then (spec_l03Holds.j0 k (a0_1 != 0) a0_0 a0_1 a0_2 a0_3 l0_4 l0_5) else (spec_l03Holds.j0 k true a0_0 a0_1 a0_2 a0_3 l0_4 l0_5))=some r:=h
 clear h
 have HC2:=A_ H
 clear H
 go_enter Tryz.func45,Tryz.ntmps45
 go_upto_region 1 with (first|((with_reducible refine gate_dst (N:=1) rfl ?_);refine box_event ?hg (N:=1) ?hd (cs:=#[.int .i64 a0_0,.int .i64 a0_1,.string a0_2,.string a0_3,.slice A0_4 l0_4.length c0_4,.slice A0_5 l0_5.length c0_5]) (t:=38) ?hr ?_;(case hd=>rfl);(case hg=>rfl);(case hr=>first|(go_simp;done)|(go_simp;rfl));intro gb131 hg w3 hbox hb;have n0_:=A_ (bp_ (by repeat (first|(with_reducible first|exact HB.out|apply ba_|apply pd_|apply b1_)|exact HB.out)) hb);have n1_:=A_ (hbox);have n2_:=A_ ((by rw [hg];exact (bz_ (by repeat (first|(with_reducible first|exact HB.out|apply ba_|apply pd_|apply b1_)|exact HB.out))):w.heap.size≤gb131));have n3_:=A_ ((by rw [hg];exact (bz_ (by repeat (first|(with_reducible first|exact HB.out|apply ba_|apply pd_|apply b1_)|exact HB.out))):w.heap.size≤gb131));clear HB;have HB:=n0_;have BK131:=n1_;have GW131:=n2_;have GE131:=n3_;clear n0_ n1_ n2_ n3_;clear hb hbox hg))
 (try simp only [Act.put,ls_,lz_,lc_])
 go_cut [11] (fun v11 wc=>∃ (kq:Nat) (x11_1:Bool),v11=.bool x11_1∧Aside0 (spec_l03Holds.j0 kq x11_1 a0_0 a0_1 a0_2 a0_3 l0_4 l0_5=some r)∧Aside0 (kq≤k)∧Aside0 (wc.heap[gb131]? = some (.cells #[.int .i64 a0_0,.int .i64 a0_1,.string a0_2,.string a0_3,(.slice A0_4 l0_4.length c0_4),(.slice A0_5 l0_5.length c0_5)] 38 (0,0)))∧Aside0 (Below w.heap.size w wc))
 case first =>
  have H:=HC2.out
  clear HC2
  by_cases c4:a0_0=1
  ·rw [if_pos c4] at H
   have c4b0:(a0_0 == 1)=true:=beq_iff_eq.mpr c4
   have c4b1:(a0_0 != 1)=false:=bne_eq_false_iff_eq.mpr c4
   clear c4
   (first|rw [c4b0]|(simp only [i64_w,i32_w];rw [c4b0])|skip)
   have H':=A_ H
   clear H
   have hcz5_0:w3.cell? ⟨gb131,0,none⟩=some (.int .i64 a0_0):=(bc_ BK131.out 0).trans rfl
   have hcz5_1:w3.cell? ⟨gb131,1,none⟩=some (.int .i64 a0_1):=(bc_ BK131.out 1).trans rfl
   have hcz5_2:w3.cell? ⟨gb131,2,none⟩=some (.string a0_2):=(bc_ BK131.out 2).trans rfl
   have hcz5_3:w3.cell? ⟨gb131,3,none⟩=some (.string a0_3):=(bc_ BK131.out 3).trans rfl
   have hcz5_4:w3.cell? ⟨gb131,4,none⟩=some (.slice A0_4 l0_4.length c0_4):=(bc_ BK131.out 4).trans rfl
   have hcz5_5:w3.cell? ⟨gb131,5,none⟩=some (.slice A0_5 l0_5.length c0_5):=(bc_ BK131.out 5).trans rfl
   have hfz5_0:=bf_ BK131.out 0
   have hfz5_1:=bf_ BK131.out 1
   have hfz5_2:=bf_ BK131.out 2
   have hfz5_3:=bf_ BK131.out 3
   have hfz5_4:=bf_ BK131.out 4
   have hfz5_5:=bf_ BK131.out 5
   go_wp2
   go_meet
   case rel=>exact ⟨_,((a0_1 != 0)),(by first|rfl|(simp;done)|(simp [*];done)),H',⟨by first|omega|exact Nat.le_refl _⟩,⟨by (with_reducible repeat (first|refine kn_ ?_ _|refine kd_ ?_|refine ka_ ?_ _));exact BK131.out⟩,⟨by repeat (first|(with_reducible first|exact HB.out|apply ba_|apply pd_|apply b1_|refine bs_ ?_ GE131.out)|exact HB.out)⟩⟩
  ·rw [if_neg c4] at H
   have c4b0:(a0_0 == 1)=false:=beq_eq_false_iff_ne.mpr c4
   have c4b1:(a0_0 != 1)=true:=bne_iff_ne.mpr c4
   (first|rw [c4b0]|(simp only [i64_w,i32_w];rw [c4b0])|skip)
   have H':=A_ H
   clear H
   have hcz6_0:w3.cell? ⟨gb131,0,none⟩=some (.int .i64 a0_0):=(bc_ BK131.out 0).trans rfl
   have hcz6_1:w3.cell? ⟨gb131,1,none⟩=some (.int .i64 a0_1):=(bc_ BK131.out 1).trans rfl
   have hcz6_2:w3.cell? ⟨gb131,2,none⟩=some (.string a0_2):=(bc_ BK131.out 2).trans rfl
   have hcz6_3:w3.cell? ⟨gb131,3,none⟩=some (.string a0_3):=(bc_ BK131.out 3).trans rfl
   have hcz6_4:w3.cell? ⟨gb131,4,none⟩=some (.slice A0_4 l0_4.length c0_4):=(bc_ BK131.out 4).trans rfl
   have hcz6_5:w3.cell? ⟨gb131,5,none⟩=some (.slice A0_5 l0_5.length c0_5):=(bc_ BK131.out 5).trans rfl
   have hfz6_0:=bf_ BK131.out 0
   have hfz6_1:=bf_ BK131.out 1
   have hfz6_2:=bf_ BK131.out 2
   have hfz6_3:=bf_ BK131.out 3
   have hfz6_4:=bf_ BK131.out 4
   have hfz6_5:=bf_ BK131.out 5
   go_wp2
   go_meet
   case rel=>exact ⟨_,(true),(by first|rfl|(simp;done)|(simp [*];done)),H',⟨by first|omega|exact Nat.le_refl _⟩,⟨by (with_reducible repeat (first|refine kn_ ?_ _|refine kd_ ?_|refine ka_ ?_ _));exact BK131.out⟩,⟨by repeat (first|(with_reducible first|exact HB.out|apply ba_|apply pd_|apply b1_|refine bs_ ?_ GE131.out)|exact HB.out)⟩⟩
 case rest =>
  clear HC2
  try clear p2
  try clear c4
  try clear c4b0
  try clear c4b1
  try clear hcz5_0
  try clear hcz5_1
  try clear hcz5_2
  try clear hcz5_3
  try clear hcz5_4
  try clear hcz5_5
  try clear hcz6_0
  try clear hcz6_1
  try clear hcz6_2
  try clear hcz6_3
  try clear hcz6_4
  try clear hcz6_5
  try clear hfz5_0
  try clear hfz5_1
  try clear hfz5_2
  try clear hfz5_3
  try clear hfz5_4
  try clear hfz5_5
  try clear hfz6_0
  try clear hfz6_1
  try clear hfz6_2
  try clear hfz6_3
  try clear hfz6_4
  try clear hfz6_5
  obtain ⟨kq,x11_1,rfl,HA,HJ1,BK131,HB⟩:=hcut
  cases kq with
  | zero=>exact absurd HA.out (by simp [spec_l03Holds.j0])
  | succ kj1 =>
   have H:=HA.out
   clear HA
   simp only [spec_l03Holds.j0] at H
   by_cases c7:x11_1=true
   ·subst c7
    have H1:(some true)=some r:=by rw [if_pos rfl] at H;exact H
    clear H
    have H:=H1
    clear H1
    obtain rfl:=oi_ H
    go_wp2
    go_ret
    exact ⟨by first|rfl|(simp [errW_none,errW_some] <;> rfl)|(simp [*,errW_none,errW_some] <;> rfl),by repeat (first|(with_reducible first|exact HB.out|apply ba_|apply pd_|apply b1_|refine bs_ ?_ GE131.out)|exact HB.out)⟩
   ·replace c7:=bm_ c7
    subst c7
    have H1:((spec_l01Void.f kj1 a0_2).bind fun t132=>(if t132=true then (some ((l0_5.length:Int) == 0)) else (spec_l03Holds.l0 kj1 0 a0_0 a0_1 a0_2 a0_3 l0_4 l0_5)))=some r:=by rw [if_neg (show ¬ (false=true) by decide)] at H;exact H
    clear H
    have H:=H1
    clear H1
    replace H:=ob_ H
    obtain ⟨t132,A80,H⟩:=H
    replace H:(if t132=true then (some ((l0_5.length:Int) == 0)) else (spec_l03Holds.l0 kj1 0 a0_0 a0_1 a0_2 a0_3 l0_4 l0_5))=some r:=H
    have A8:=A_ A80
    clear A80
    by_cases c9:t132=true
    ·subst c9
     have H1:(some ((l0_5.length:Int) == 0))=some r:=by rw [if_pos rfl] at H;exact H
     clear H
     have H:=H1
     clear H1
     obtain rfl:=oi_ H
     have hcz10_0:wc.cell? ⟨gb131,0,none⟩=some (.int .i64 a0_0):=(bc_ BK131.out 0).trans rfl
     have hcz10_1:wc.cell? ⟨gb131,1,none⟩=some (.int .i64 a0_1):=(bc_ BK131.out 1).trans rfl
     have hcz10_2:wc.cell? ⟨gb131,2,none⟩=some (.string a0_2):=(bc_ BK131.out 2).trans rfl
     have hcz10_3:wc.cell? ⟨gb131,3,none⟩=some (.string a0_3):=(bc_ BK131.out 3).trans rfl
     have hcz10_4:wc.cell? ⟨gb131,4,none⟩=some (.slice A0_4 l0_4.length c0_4):=(bc_ BK131.out 4).trans rfl
     have hcz10_5:wc.cell? ⟨gb131,5,none⟩=some (.slice A0_5 l0_5.length c0_5):=(bc_ BK131.out 5).trans rfl
     have hfz10_0:=bf_ BK131.out 0
     have hfz10_1:=bf_ BK131.out 1
     have hfz10_2:=bf_ BK131.out 2
     have hfz10_3:=bf_ BK131.out 3
     have hfz10_4:=bf_ BK131.out 4
     have hfz10_5:=bf_ BK131.out 5
     go_wp2_with (first|((with_reducible refine gate_callee (f:=20) rfl ?_);refine goesL_ (some 14) rfl rfl Tryz.func20 (by kernel_rfl) rfl #[.string a0_2] rfl (by (try simp only [List.map_toArray,List.map_cons,List.map_nil]);first|done|rfl|(simp only [ld_,lt_];rfl)) ?_;(with_reducible refine (spec_l01Void.calls kj1 a0_2 true _ A8.out).mono ?_);rintro e w11 ⟨rfl,hb⟩;refine ⟨_,rfl,?_⟩;have n0_:=A_ (kb_ (g:=gb131) (o:=.cells #[.int .i64 a0_0,.int .i64 a0_1,.string a0_2,.string a0_3,.slice A0_4 l0_4.length c0_4,.slice A0_5 l0_5.length c0_5] 38 (0,0)) (by (with_reducible repeat (first|refine kn_ ?_ _|refine kd_ ?_|refine ka_ ?_ _));exact BK131.out) hb);have n1_:=A_ (bp_ (by repeat (first|(with_reducible first|exact HB.out|apply ba_|apply pd_|apply b1_|refine bs_ ?_ GE131.out)|exact HB.out)) hb);clear BK131;clear HB;have BK131:=n0_;have HB:=n1_;clear n0_ n1_;(try clear hb);(try clear hb2);(try clear hk);(try clear hi);have hcz12_0:w11.cell? ⟨gb131,0,none⟩=some (.int .i64 a0_0):=(bc_ BK131.out 0).trans rfl;have hcz12_1:w11.cell? ⟨gb131,1,none⟩=some (.int .i64 a0_1):=(bc_ BK131.out 1).trans rfl;have hcz12_2:w11.cell? ⟨gb131,2,none⟩=some (.string a0_2):=(bc_ BK131.out 2).trans rfl;have hcz12_3:w11.cell? ⟨gb131,3,none⟩=some (.string a0_3):=(bc_ BK131.out 3).trans rfl;have hcz12_4:w11.cell? ⟨gb131,4,none⟩=some (.slice A0_4 l0_4.length c0_4):=(bc_ BK131.out 4).trans rfl;have hcz12_5:w11.cell? ⟨gb131,5,none⟩=some (.slice A0_5 l0_5.length c0_5):=(bc_ BK131.out 5).trans rfl;have hfz12_0:=bf_ BK131.out 0;have hfz12_1:=bf_ BK131.out 1;have hfz12_2:=bf_ BK131.out 2;have hfz12_3:=bf_ BK131.out 3;have hfz12_4:=bf_ BK131.out 4;have hfz12_5:=bf_ BK131.out 5))
     go_ret
     exact ⟨by first|rfl|(simp [errW_none,errW_some] <;> rfl)|(simp [*,errW_none,errW_some] <;> rfl),by repeat (first|(with_reducible first|exact HB.out|apply ba_|apply pd_|apply b1_|refine bs_ ?_ GE131.out)|exact HB.out)⟩
    ·replace c9:=bm_ c9
     subst c9
     have H1:(spec_l03Holds.l0 kj1 0 a0_0 a0_1 a0_2 a0_3 l0_4 l0_5)=some r:=by rw [if_neg (show ¬ (false=true) by decide)] at H;exact H
     clear H
     have H:=H1
     clear H1
     have H':=A_ H
     clear H
     have hcz13_0:wc.cell? ⟨gb131,0,none⟩=some (.int .i64 a0_0):=(bc_ BK131.out 0).trans rfl
     have hcz13_1:wc.cell? ⟨gb131,1,none⟩=some (.int .i64 a0_1):=(bc_ BK131.out 1).trans rfl
     have hcz13_2:wc.cell? ⟨gb131,2,none⟩=some (.string a0_2):=(bc_ BK131.out 2).trans rfl
     have hcz13_3:wc.cell? ⟨gb131,3,none⟩=some (.string a0_3):=(bc_ BK131.out 3).trans rfl
     have hcz13_4:wc.cell? ⟨gb131,4,none⟩=some (.slice A0_4 l0_4.length c0_4):=(bc_ BK131.out 4).trans rfl
     have hcz13_5:wc.cell? ⟨gb131,5,none⟩=some (.slice A0_5 l0_5.length c0_5):=(bc_ BK131.out 5).trans rfl
     have hfz13_0:=bf_ BK131.out 0
     have hfz13_1:=bf_ BK131.out 1
     have hfz13_2:=bf_ BK131.out 2
     have hfz13_3:=bf_ BK131.out 3
     have hfz13_4:=bf_ BK131.out 4
     have hfz13_5:=bf_ BK131.out 5
     go_wp2_with (first|((with_reducible refine gate_callee (f:=20) rfl ?_);refine goesL_ (some 14) rfl rfl Tryz.func20 (by kernel_rfl) rfl #[.string a0_2] rfl (by (try simp only [List.map_toArray,List.map_cons,List.map_nil]);first|done|rfl|(simp only [ld_,lt_];rfl)) ?_;(with_reducible refine (spec_l01Void.calls kj1 a0_2 false _ A8.out).mono ?_);rintro e w14 ⟨rfl,hb⟩;refine ⟨_,rfl,?_⟩;have n0_:=A_ (kb_ (g:=gb131) (o:=.cells #[.int .i64 a0_0,.int .i64 a0_1,.string a0_2,.string a0_3,.slice A0_4 l0_4.length c0_4,.slice A0_5 l0_5.length c0_5] 38 (0,0)) (by (with_reducible repeat (first|refine kn_ ?_ _|refine kd_ ?_|refine ka_ ?_ _));exact BK131.out) hb);have n1_:=A_ (bp_ (by repeat (first|(with_reducible first|exact HB.out|apply ba_|apply pd_|apply b1_|refine bs_ ?_ GE131.out)|exact HB.out)) hb);clear BK131;clear HB;have BK131:=n0_;have HB:=n1_;clear n0_ n1_;(try clear hb);(try clear hb2);(try clear hk);(try clear hi)))
     go_loopg [3] kj1 (fun kq v3 w'=>∃ (x3_2:Int),v3=.int .i64 x3_2∧Aside0 (spec_l03Holds.l0 kq x3_2 a0_0 a0_1 a0_2 a0_3 l0_4 l0_5=some r)∧Aside0 (kq≤kj1)∧Aside0 (w'.heap[gb131]? = some (.cells #[.int .i64 a0_0,.int .i64 a0_1,.string a0_2,.string a0_3,(.slice A0_4 l0_4.length c0_4),(.slice A0_5 l0_5.length c0_5)] 38 (0,0)))∧Aside0 (Below w.heap.size w w'))
     case atStart=>exact ⟨(0),(by first|rfl|(simp;done)|(simp [*];done)),H',⟨Nat.le_refl _⟩,⟨by (with_reducible repeat (first|refine kn_ ?_ _|refine kd_ ?_|refine ka_ ?_ _));exact BK131.out⟩,⟨by repeat (first|(with_reducible first|exact HB.out|apply ba_|apply pd_|apply b1_|refine bs_ ?_ GE131.out)|exact HB.out)⟩⟩
     case round =>
      clear H'
      try clear c2
      try clear p2
      try clear c4
      try clear c4b0
      try clear c4b1
      try clear c7
      try clear c9
      try clear hcz10_0
      try clear hcz10_1
      try clear hcz10_2
      try clear hcz10_3
      try clear hcz10_4
      try clear hcz10_5
      try clear hcz12_0
      try clear hcz12_1
      try clear hcz12_2
      try clear hcz12_3
      try clear hcz12_4
      try clear hcz12_5
      try clear hcz13_0
      try clear hcz13_1
      try clear hcz13_2
      try clear hcz13_3
      try clear hcz13_4
      try clear hcz13_5
      try clear hcz5_0
      try clear hcz5_1
      try clear hcz5_2
      try clear hcz5_3
      try clear hcz5_4
      try clear hcz5_5
      try clear hcz6_0
      try clear hcz6_1
      try clear hcz6_2
      try clear hcz6_3
      try clear hcz6_4
      try clear hcz6_5
      try clear hfz10_0
      try clear hfz10_1
      try clear hfz10_2
      try clear hfz10_3
      try clear hfz10_4
      try clear hfz10_5
      try clear hfz12_0
      try clear hfz12_1
      try clear hfz12_2
      try clear hfz12_3
      try clear hfz12_4
      try clear hfz12_5
      try clear hfz13_0
      try clear hfz13_1
      try clear hfz13_2
      try clear hfz13_3
      try clear hfz13_4
      try clear hfz13_5
      try clear hfz5_0
      try clear hfz5_1
      try clear hfz5_2
      try clear hfz5_3
      try clear hfz5_4
      try clear hfz5_5
      try clear hfz6_0
      try clear hfz6_1
      try clear hfz6_2
      try clear hfz6_3
      try clear hfz6_4
      try clear hfz6_5
      try clear p2
      obtain ⟨x3_2,rfl,HA,HK2,BK131,HB⟩:=hrel
      cases gk with
      | zero=>exact absurd HA.out (by simp [spec_l03Holds.l0])
      | succ k2 =>
       have H:=HA.out
       clear HA
       simp only [spec_l03Holds.l0] at H
       by_cases c15:x3_2<(l0_5.length:Int)
       ·rw [if_pos c15] at H
        have c15b0:decide (x3_2<(l0_5.length:Int))=true:=dt_ c15
        clear c15
        replace H:=ob_ H
        obtain ⟨t133,A160,H⟩:=H
        replace H:(if t133=true then (if 0≤x3_2 then (if ((rd_T38 l0_5 x3_2).f0)=2 then (spec_l03Holds.l0 k2 (wrap64 (x3_2+1)) a0_0 a0_1 a0_2 a0_3 l0_4 l0_5) else (some false)) else (none)) else (spec_l03Holds.l0 k2 (wrap64 (x3_2+1)) a0_0 a0_1 a0_2 a0_3 l0_4 l0_5))=some r:=H
        have A16:=A_ A160
        clear A160
        by_cases c17:t133=true
        ·subst c17
         have H1:(if 0≤x3_2 then (if ((rd_T38 l0_5 x3_2).f0)=2 then (spec_l03Holds.l0 k2 (wrap64 (x3_2+1)) a0_0 a0_1 a0_2 a0_3 l0_4 l0_5) else (some false)) else (none))=some r:=by rw [if_pos rfl] at H;exact H
         clear H
         have H:=H1
         clear H1
         by_cases c18:0≤x3_2
         ·rw [if_pos c18] at H
          have c18b0:decide (0≤x3_2)=true:=dt_ c18
          clear c18
          by_cases c19:((rd_T38 l0_5 x3_2).f0)=2
          ·rw [if_pos c19] at H
           have c19b0:(((rd_T38 l0_5 x3_2).f0) == 2)=true:=beq_iff_eq.mpr c19
           have c19b1:(((rd_T38 l0_5 x3_2).f0) != 2)=false:=bne_eq_false_iff_eq.mpr c19
           clear c19
           have H':=A_ H
           clear H
           have hcz20_0:wr.cell? ⟨gb131,0,none⟩=some (.int .i64 a0_0):=(bc_ BK131.out 0).trans rfl
           have hcz20_1:wr.cell? ⟨gb131,1,none⟩=some (.int .i64 a0_1):=(bc_ BK131.out 1).trans rfl
           have hcz20_2:wr.cell? ⟨gb131,2,none⟩=some (.string a0_2):=(bc_ BK131.out 2).trans rfl
           have hcz20_3:wr.cell? ⟨gb131,3,none⟩=some (.string a0_3):=(bc_ BK131.out 3).trans rfl
           have hcz20_4:wr.cell? ⟨gb131,4,none⟩=some (.slice A0_4 l0_4.length c0_4):=(bc_ BK131.out 4).trans rfl
           have hcz20_5:wr.cell? ⟨gb131,5,none⟩=some (.slice A0_5 l0_5.length c0_5):=(bc_ BK131.out 5).trans rfl
           have hfz20_0:=bf_ BK131.out 0
           have hfz20_1:=bf_ BK131.out 1
           have hfz20_2:=bf_ BK131.out 2
           have hfz20_3:=bf_ BK131.out 3
           have hfz20_4:=bf_ BK131.out 4
           have hfz20_5:=bf_ BK131.out 5
           go_wp2_with (first|((with_reducible refine gate_callee (f:=21) rfl ?_);refine goesL_ (some 28) rfl rfl Tryz.func21 (by kernel_rfl) rfl #[.string a0_2] rfl (by (try simp only [List.map_toArray,List.map_cons,List.map_nil]);first|done|rfl|(simp only [ld_,lt_];rfl)) ?_;(with_reducible refine (spec_l01Raw.calls k2 a0_2 true _ A16.out).mono ?_);rintro e w21 ⟨rfl,hb⟩;refine ⟨_,rfl,?_⟩;have n0_:=A_ (kb_ (g:=gb131) (o:=.cells #[.int .i64 a0_0,.int .i64 a0_1,.string a0_2,.string a0_3,.slice A0_4 l0_4.length c0_4,.slice A0_5 l0_5.length c0_5] 38 (0,0)) (by (with_reducible repeat (first|refine kn_ ?_ _|refine kd_ ?_|refine ka_ ?_ _));exact BK131.out) hb);have n1_:=A_ (bp_ (by repeat (first|(with_reducible first|exact HB.out|apply ba_|apply pd_|apply b1_|refine bs_ ?_ GE131.out)|exact HB.out)) hb);clear BK131;clear HB;have BK131:=n0_;have HB:=n1_;clear n0_ n1_;(try clear hb);(try clear hb2);(try clear hk);(try clear hi);have hcz22_0:w21.cell? ⟨gb131,0,none⟩=some (.int .i64 a0_0):=(bc_ BK131.out 0).trans rfl;have hcz22_1:w21.cell? ⟨gb131,1,none⟩=some (.int .i64 a0_1):=(bc_ BK131.out 1).trans rfl;have hcz22_2:w21.cell? ⟨gb131,2,none⟩=some (.string a0_2):=(bc_ BK131.out 2).trans rfl;have hcz22_3:w21.cell? ⟨gb131,3,none⟩=some (.string a0_3):=(bc_ BK131.out 3).trans rfl;have hcz22_4:w21.cell? ⟨gb131,4,none⟩=some (.slice A0_4 l0_4.length c0_4):=(bc_ BK131.out 4).trans rfl;have hcz22_5:w21.cell? ⟨gb131,5,none⟩=some (.slice A0_5 l0_5.length c0_5):=(bc_ BK131.out 5).trans rfl;have hfz22_0:=bf_ BK131.out 0;have hfz22_1:=bf_ BK131.out 1;have hfz22_2:=bf_ BK131.out 2;have hfz22_3:=bf_ BK131.out 3;have hfz22_4:=bf_ BK131.out 4;have hfz22_5:=bf_ BK131.out 5;have p134:0≤(x3_2:Int):=od_ (by first|(with_reducible assumption)|assumption);have q134:x3_2<(l0_5.length:Int):=od_ (by first|(with_reducible assumption)|assumption);obtain ⟨ad134,A134_4,c134_4,A134_5,c134_5,e134,hx134_0,hx134_1,hx134_2,hx134_3,hx134_4,hx134_5,hl134_4,hi134_4,hl134_5,hi134_5⟩:=at_T38 HR0_5.out x3_2 p134 q134;cases e134;replace hx134_0:=(HB.out.cell (bl_ w _ hx134_0)).trans hx134_0;replace hx134_1:=(HB.out.cell (bl_ w _ hx134_1)).trans hx134_1;replace hx134_2:=(HB.out.cell (bl_ w _ hx134_2)).trans hx134_2;replace hx134_3:=(HB.out.cell (bl_ w _ hx134_3)).trans hx134_3;replace hx134_4:=(HB.out.cell (bl_ w _ hx134_4)).trans hx134_4;replace hx134_5:=(HB.out.cell (bl_ w _ hx134_5)).trans hx134_5;have HR134_4:=A_ hi134_4;have HC134_4:=A_ hl134_4;clear hi134_4 hl134_4;have HR134_5:=A_ hi134_5;have HC134_5:=A_ hl134_5;clear hi134_5 hl134_5;replace p134:=eq_true p134;replace q134:=eq_true q134))
           go_roundg k2
           case measure=>have:=HJ1.out;have:=HK2.out;omega
           case rel=>exact ⟨(wrap64 (x3_2+1)),(by first|rfl|(simp;done)|(simp [*];done)),H',⟨by have:=HJ1.out;have:=HK2.out;omega⟩,⟨by (with_reducible repeat (first|refine kn_ ?_ _|refine kd_ ?_|refine ka_ ?_ _));exact BK131.out⟩,⟨by repeat (first|(with_reducible first|exact HB.out|apply ba_|apply pd_|apply b1_|refine bs_ ?_ GE131.out)|exact HB.out)⟩⟩
          ·rw [if_neg c19] at H
           have c19b0:(((rd_T38 l0_5 x3_2).f0) == 2)=false:=beq_eq_false_iff_ne.mpr c19
           have c19b1:(((rd_T38 l0_5 x3_2).f0) != 2)=true:=bne_iff_ne.mpr c19
           obtain rfl:=oi_ H
           have hcz23_0:wr.cell? ⟨gb131,0,none⟩=some (.int .i64 a0_0):=(bc_ BK131.out 0).trans rfl
           have hcz23_1:wr.cell? ⟨gb131,1,none⟩=some (.int .i64 a0_1):=(bc_ BK131.out 1).trans rfl
           have hcz23_2:wr.cell? ⟨gb131,2,none⟩=some (.string a0_2):=(bc_ BK131.out 2).trans rfl
           have hcz23_3:wr.cell? ⟨gb131,3,none⟩=some (.string a0_3):=(bc_ BK131.out 3).trans rfl
           have hcz23_4:wr.cell? ⟨gb131,4,none⟩=some (.slice A0_4 l0_4.length c0_4):=(bc_ BK131.out 4).trans rfl
           have hcz23_5:wr.cell? ⟨gb131,5,none⟩=some (.slice A0_5 l0_5.length c0_5):=(bc_ BK131.out 5).trans rfl
           have hfz23_0:=bf_ BK131.out 0
           have hfz23_1:=bf_ BK131.out 1
           have hfz23_2:=bf_ BK131.out 2
           have hfz23_3:=bf_ BK131.out 3
           have hfz23_4:=bf_ BK131.out 4
           have hfz23_5:=bf_ BK131.out 5
           go_wp2_with (first|((with_reducible refine gate_callee (f:=21) rfl ?_);refine goesL_ (some 28) rfl rfl Tryz.func21 (by kernel_rfl) rfl #[.string a0_2] rfl (by (try simp only [List.map_toArray,List.map_cons,List.map_nil]);first|done|rfl|(simp only [ld_,lt_];rfl)) ?_;(with_reducible refine (spec_l01Raw.calls k2 a0_2 true _ A16.out).mono ?_);rintro e w24 ⟨rfl,hb⟩;refine ⟨_,rfl,?_⟩;have n0_:=A_ (kb_ (g:=gb131) (o:=.cells #[.int .i64 a0_0,.int .i64 a0_1,.string a0_2,.string a0_3,.slice A0_4 l0_4.length c0_4,.slice A0_5 l0_5.length c0_5] 38 (0,0)) (by (with_reducible repeat (first|refine kn_ ?_ _|refine kd_ ?_|refine ka_ ?_ _));exact BK131.out) hb);have n1_:=A_ (bp_ (by repeat (first|(with_reducible first|exact HB.out|apply ba_|apply pd_|apply b1_|refine bs_ ?_ GE131.out)|exact HB.out)) hb);clear BK131;clear HB;have BK131:=n0_;have HB:=n1_;clear n0_ n1_;(try clear hb);(try clear hb2);(try clear hk);(try clear hi);have hcz25_0:w24.cell? ⟨gb131,0,none⟩=some (.int .i64 a0_0):=(bc_ BK131.out 0).trans rfl;have hcz25_1:w24.cell? ⟨gb131,1,none⟩=some (.int .i64 a0_1):=(bc_ BK131.out 1).trans rfl;have hcz25_2:w24.cell? ⟨gb131,2,none⟩=some (.string a0_2):=(bc_ BK131.out 2).trans rfl;have hcz25_3:w24.cell? ⟨gb131,3,none⟩=some (.string a0_3):=(bc_ BK131.out 3).trans rfl;have hcz25_4:w24.cell? ⟨gb131,4,none⟩=some (.slice A0_4 l0_4.length c0_4):=(bc_ BK131.out 4).trans rfl;have hcz25_5:w24.cell? ⟨gb131,5,none⟩=some (.slice A0_5 l0_5.length c0_5):=(bc_ BK131.out 5).trans rfl;have hfz25_0:=bf_ BK131.out 0;have hfz25_1:=bf_ BK131.out 1;have hfz25_2:=bf_ BK131.out 2;have hfz25_3:=bf_ BK131.out 3;have hfz25_4:=bf_ BK131.out 4;have hfz25_5:=bf_ BK131.out 5;have p134:0≤(x3_2:Int):=od_ (by first|(with_reducible assumption)|assumption);have q134:x3_2<(l0_5.length:Int):=od_ (by first|(with_reducible assumption)|assumption);obtain ⟨ad134,A134_4,c134_4,A134_5,c134_5,e134,hx134_0,hx134_1,hx134_2,hx134_3,hx134_4,hx134_5,hl134_4,hi134_4,hl134_5,hi134_5⟩:=at_T38 HR0_5.out x3_2 p134 q134;cases e134;replace hx134_0:=(HB.out.cell (bl_ w _ hx134_0)).trans hx134_0;replace hx134_1:=(HB.out.cell (bl_ w _ hx134_1)).trans hx134_1;replace hx134_2:=(HB.out.cell (bl_ w _ hx134_2)).trans hx134_2;replace hx134_3:=(HB.out.cell (bl_ w _ hx134_3)).trans hx134_3;replace hx134_4:=(HB.out.cell (bl_ w _ hx134_4)).trans hx134_4;replace hx134_5:=(HB.out.cell (bl_ w _ hx134_5)).trans hx134_5;have HR134_4:=A_ hi134_4;have HC134_4:=A_ hl134_4;clear hi134_4 hl134_4;have HR134_5:=A_ hi134_5;have HC134_5:=A_ hl134_5;clear hi134_5 hl134_5;replace p134:=eq_true p134;replace q134:=eq_true q134))
           go_ret
           exact ⟨by first|rfl|(simp [errW_none,errW_some] <;> rfl)|(simp [*,errW_none,errW_some] <;> rfl),by repeat (first|(with_reducible first|exact HB.out|apply ba_|apply pd_|apply b1_|refine bs_ ?_ GE131.out)|exact HB.out)⟩
         ·rw [if_neg c18] at H
          exact absurd H (by simp)
        ·replace c17:=bm_ c17
         subst c17
         have H1:(spec_l03Holds.l0 k2 (wrap64 (x3_2+1)) a0_0 a0_1 a0_2 a0_3 l0_4 l0_5)=some r:=by rw [if_neg (show ¬ (false=true) by decide)] at H;exact H
         clear H
         have H:=H1
         clear H1
         have H':=A_ H
         clear H
         have hcz26_0:wr.cell? ⟨gb131,0,none⟩=some (.int .i64 a0_0):=(bc_ BK131.out 0).trans rfl
         have hcz26_1:wr.cell? ⟨gb131,1,none⟩=some (.int .i64 a0_1):=(bc_ BK131.out 1).trans rfl
         have hcz26_2:wr.cell? ⟨gb131,2,none⟩=some (.string a0_2):=(bc_ BK131.out 2).trans rfl
         have hcz26_3:wr.cell? ⟨gb131,3,none⟩=some (.string a0_3):=(bc_ BK131.out 3).trans rfl
         have hcz26_4:wr.cell? ⟨gb131,4,none⟩=some (.slice A0_4 l0_4.length c0_4):=(bc_ BK131.out 4).trans rfl
         have hcz26_5:wr.cell? ⟨gb131,5,none⟩=some (.slice A0_5 l0_5.length c0_5):=(bc_ BK131.out 5).trans rfl
         have hfz26_0:=bf_ BK131.out 0
         have hfz26_1:=bf_ BK131.out 1
         have hfz26_2:=bf_ BK131.out 2
         have hfz26_3:=bf_ BK131.out 3
         have hfz26_4:=bf_ BK131.out 4
         have hfz26_5:=bf_ BK131.out 5
         go_wp2_with (first|((with_reducible refine gate_callee (f:=21) rfl ?_);refine goesL_ (some 28) rfl rfl Tryz.func21 (by kernel_rfl) rfl #[.string a0_2] rfl (by (try simp only [List.map_toArray,List.map_cons,List.map_nil]);first|done|rfl|(simp only [ld_,lt_];rfl)) ?_;(with_reducible refine (spec_l01Raw.calls k2 a0_2 false _ A16.out).mono ?_);rintro e w27 ⟨rfl,hb⟩;refine ⟨_,rfl,?_⟩;have n0_:=A_ (kb_ (g:=gb131) (o:=.cells #[.int .i64 a0_0,.int .i64 a0_1,.string a0_2,.string a0_3,.slice A0_4 l0_4.length c0_4,.slice A0_5 l0_5.length c0_5] 38 (0,0)) (by (with_reducible repeat (first|refine kn_ ?_ _|refine kd_ ?_|refine ka_ ?_ _));exact BK131.out) hb);have n1_:=A_ (bp_ (by repeat (first|(with_reducible first|exact HB.out|apply ba_|apply pd_|apply b1_|refine bs_ ?_ GE131.out)|exact HB.out)) hb);clear BK131;clear HB;have BK131:=n0_;have HB:=n1_;clear n0_ n1_;(try clear hb);(try clear hb2);(try clear hk);(try clear hi)))
         go_roundg k2
         case measure=>have:=HJ1.out;have:=HK2.out;omega
         case rel=>exact ⟨(wrap64 (x3_2+1)),(by first|rfl|(simp;done)|(simp [*];done)),H',⟨by have:=HJ1.out;have:=HK2.out;omega⟩,⟨by (with_reducible repeat (first|refine kn_ ?_ _|refine kd_ ?_|refine ka_ ?_ _));exact BK131.out⟩,⟨by repeat (first|(with_reducible first|exact HB.out|apply ba_|apply pd_|apply b1_|refine bs_ ?_ GE131.out)|exact HB.out)⟩⟩
       ·rw [if_neg c15] at H
        have c15b0:decide (x3_2<(l0_5.length:Int))=false:=df_ c15
        clear c15
        obtain rfl:=oi_ H
        have hcz28_0:wr.cell? ⟨gb131,0,none⟩=some (.int .i64 a0_0):=(bc_ BK131.out 0).trans rfl
        have hcz28_1:wr.cell? ⟨gb131,1,none⟩=some (.int .i64 a0_1):=(bc_ BK131.out 1).trans rfl
        have hcz28_2:wr.cell? ⟨gb131,2,none⟩=some (.string a0_2):=(bc_ BK131.out 2).trans rfl
        have hcz28_3:wr.cell? ⟨gb131,3,none⟩=some (.string a0_3):=(bc_ BK131.out 3).trans rfl
        have hcz28_4:wr.cell? ⟨gb131,4,none⟩=some (.slice A0_4 l0_4.length c0_4):=(bc_ BK131.out 4).trans rfl
        have hcz28_5:wr.cell? ⟨gb131,5,none⟩=some (.slice A0_5 l0_5.length c0_5):=(bc_ BK131.out 5).trans rfl
        have hfz28_0:=bf_ BK131.out 0
        have hfz28_1:=bf_ BK131.out 1
        have hfz28_2:=bf_ BK131.out 2
        have hfz28_3:=bf_ BK131.out 3
        have hfz28_4:=bf_ BK131.out 4
        have hfz28_5:=bf_ BK131.out 5
        go_wp2
        go_ret
        exact ⟨by first|rfl|(simp [errW_none,errW_some] <;> rfl)|(simp [*,errW_none,errW_some] <;> rfl),by repeat (first|(with_reducible first|exact HB.out|apply ba_|apply pd_|apply b1_|refine bs_ ?_ GE131.out)|exact HB.out)⟩
end Go.Proofs.YtlpncjeahdfolaaGreatDoor.PFnExactSerialize
