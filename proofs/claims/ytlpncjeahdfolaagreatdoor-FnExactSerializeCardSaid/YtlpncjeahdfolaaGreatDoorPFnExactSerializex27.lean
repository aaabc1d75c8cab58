/- By a program of this session, out of the kit's print and contracts made by hand: the machine side of a law; Lean checks it. No conditions. -/
import Derived.Test.YtlpncjeahdfolaaGreatDoorPFnExactSerializex0
import Derived.Test.YtlpncjeahdfolaaGreatDoorPFnExactSerializex26
namespace Go.Proofs.YtlpncjeahdfolaaGreatDoor.PFnExactSerialize
open Go.RowKit Go.Proofs.YtlpncjeahdfolaaGreatDoorW.PrintWords Go.Proofs.YtlpncjeahdfolaaGreatDoorW.PrintLast Go.Proofs.YtlpncjeahdfolaaGreatDoorW.PrintMore
attribute [local go_sem] max2_int min2_int max_two min_two max_three min_three max_four min_four
set_option linter.unusedVariables false
set_option linter.unusedSimpArgs false
/-! ### laws_eqNode: function 15 -/
mutual
def laws_eqNode.f:Nat→Int→Int→ByteArray→ByteArray→List (S63)→List (S38)→Int→Int→ByteArray→ByteArray→List (S63)→List (S38)→Option (Bool)
 | 0,_,_,_,_,_,_,_,_,_,_,_,_=>none
 | k+1,a0_0,a0_1,a0_2,a0_3,l0_4,l0_5,a1_0,a1_1,a1_2,a1_3,l1_4,l1_5=>if a0_0=a1_0 then (if a0_1=a1_1 then (if a0_2.toList=a1_2.toList then (if a0_3.toList=a1_3.toList then ((laws_eqAttrS.f k l0_4 l1_4).bind fun t245=>(if t245=true then ((laws_eqNodeS.f k l0_5 l1_5).bind fun t246=>(if t246=true then (some true) else (some false))) else (some false))) else (some false)) else (some false)) else (some false)) else (some false)
def laws_eqNodeS.l0:Nat→List (S38)→List (S38)→Int→Option (Bool)
 | 0,_,_,_=>none
 | k+1,x0,x1,x5=>if x5<(x0.length:Int) then (if 0≤x5 then (if x5<(x1.length:Int) then ((laws_eqNode.f k ((rd_T38 x0 x5).f0) ((rd_T38 x0 x5).f1) ((rd_T38 x0 x5).f2) ((rd_T38 x0 x5).f3) ((rd_T38 x0 x5).f4) ((rd_T38 x0 x5).f5) ((rd_T38 x1 x5).f0) ((rd_T38 x1 x5).f1) ((rd_T38 x1 x5).f2) ((rd_T38 x1 x5).f3) ((rd_T38 x1 x5).f4) ((rd_T38 x1 x5).f5)).bind fun t249=>(if t249=true then (laws_eqNodeS.l0 k x0 x1 (wrap64 (x5+1))) else (some false))) else (none)) else (none)) else (some true)
def laws_eqNodeS.f:Nat→List (S38)→List (S38)→Option (Bool)
 | 0,_,_=>none
 | k+1,l0,l1=>if (l0.length:Int)=(l1.length:Int) then (laws_eqNodeS.l0 k l0 l1 0) else (some false)
end
theorem laws_eqNode.mono_l:∀ k,(∀ y0 y1 y2 y3 y4 y5 y6 y7 y8 y9 y10 y11,LeO (laws_eqNode.f k y0 y1 y2 y3 y4 y5 y6 y7 y8 y9 y10 y11) (laws_eqNode.f (k+1) y0 y1 y2 y3 y4 y5 y6 y7 y8 y9 y10 y11))∧(∀ y0 y1,LeO (laws_eqNodeS.f k y0 y1) (laws_eqNodeS.f (k+1) y0 y1))∧(∀ y0 y1 y2,LeO (laws_eqNodeS.l0 k y0 y1 y2) (laws_eqNodeS.l0 (k+1) y0 y1 y2))
 | 0=>⟨fun _ _ _ _ _ _ _ _ _ _ _ _ r h=>by simp [laws_eqNode.f] at h,fun _ _ r h=>by simp [laws_eqNodeS.f] at h,fun _ _ _ r h=>by simp [laws_eqNodeS.l0] at h⟩
 | k+1=>by
  obtain ⟨ih0,ih1,ih2⟩:=laws_eqNode.mono_l k
  refine ⟨?_,?_,?_⟩
  ·intro y0 y1 y2 y3 y4 y5 y6 y7 y8 y9 y10 y11
   unfold laws_eqNode.f
   repeat' first
   | (with_reducible exact ih0 _ _ _ _ _ _ _ _ _ _ _ _)
   | (with_reducible exact ih1 _ _)
   | (with_reducible exact ih2 _ _ _)
   | (with_reducible exact laws_eqAttrS.mono _ _ _)
   | (with_reducible exact LeO.refl _)
   | (with_reducible exact LeO.none _)
   | (with_reducible refine LeO.ite ?_ ?_)
   | (with_reducible refine LeO.bind ?_ (fun _=>?_))
   | exact ih0 _ _ _ _ _ _ _ _ _ _ _ _
   | exact ih1 _ _
   | exact ih2 _ _ _
   | exact laws_eqAttrS.mono _ _ _
   | exact LeO.none _
   | refine LeO.ite ?_ ?_
   | refine LeO.bind ?_ (fun _=>?_)
  ·intro y0 y1
   unfold laws_eqNodeS.f
   repeat' first
   | (with_reducible exact ih0 _ _ _ _ _ _ _ _ _ _ _ _)
   | (with_reducible exact ih1 _ _)
   | (with_reducible exact ih2 _ _ _)
   | (with_reducible exact laws_eqAttrS.mono _ _ _)
   | (with_reducible exact LeO.refl _)
   | (with_reducible exact LeO.none _)
   | (with_reducible refine LeO.ite ?_ ?_)
   | (with_reducible refine LeO.bind ?_ (fun _=>?_))
   | exact ih0 _ _ _ _ _ _ _ _ _ _ _ _
   | exact ih1 _ _
   | exact ih2 _ _ _
   | exact laws_eqAttrS.mono _ _ _
   | exact LeO.none _
   | refine LeO.ite ?_ ?_
   | refine LeO.bind ?_ (fun _=>?_)
  ·intro y0 y1 y2
   unfold laws_eqNodeS.l0
   repeat' first
   | (with_reducible exact ih0 _ _ _ _ _ _ _ _ _ _ _ _)
   | (with_reducible exact ih1 _ _)
   | (with_reducible exact ih2 _ _ _)
   | (with_reducible exact laws_eqAttrS.mono _ _ _)
   | (with_reducible exact LeO.refl _)
   | (with_reducible exact LeO.none _)
   | (with_reducible refine LeO.ite ?_ ?_)
   | (with_reducible refine LeO.bind ?_ (fun _=>?_))
   | exact ih0 _ _ _ _ _ _ _ _ _ _ _ _
   | exact ih1 _ _
   | exact ih2 _ _ _
   | exact laws_eqAttrS.mono _ _ _
   | exact LeO.none _
   | refine LeO.ite ?_ ?_
   | refine LeO.bind ?_ (fun _=>?_)
theorem laws_eqNode.mono:∀ a0 a1 a2 a3 a4 a5 a6 a7 a8 a9 a10 a11 k,LeO (laws_eqNode.f k a0 a1 a2 a3 a4 a5 a6 a7 a8 a9 a10 a11) (laws_eqNode.f (k+1) a0 a1 a2 a3 a4 a5 a6 a7 a8 a9 a10 a11):=by
 intro a0 a1 a2 a3 a4 a5 a6 a7 a8 a9 a10 a11 k
 obtain ⟨ih0,ih1,ih2⟩:=laws_eqNode.mono_l k
 exact ih0 a0 a1 a2 a3 a4 a5 a6 a7 a8 a9 a10 a11
theorem laws_eqNodeS.mono:∀ a0 a1 k,LeO (laws_eqNodeS.f k a0 a1) (laws_eqNodeS.f (k+1) a0 a1):=by
 intro a0 a1 k
 obtain ⟨ih0,ih1,ih2⟩:=laws_eqNode.mono_l k
 exact ih1 a0 a1
set_option maxHeartbeats 8000000 in
set_option maxRecDepth 100000 in
theorem laws_eqNode.step (k:Nat) (ihP:∀ j,j<k→∀ (A0:Option Addr) (c0:Nat) (l0:List (S38)) (A1:Option Addr) (c1:Nat) (l1:List (S38)) (r:Bool) (w:World) (hr0:Kd.C k38 w A0 l0.length l0) (hc0:l0.length≤c0) (hr1:Kd.C k38 w A1 l1.length l1) (hc1:l1.length≤c1) (h:laws_eqNodeS.f j l0 l1=some r),
 Calls Tryz.prog 8 #[.slice A0 l0.length c0,.slice A1 l1.length c1] w fun e w'=>e=.returned (.bool r)∧Below w.heap.size w w'):∀ (a0_0:Int) (a0_1:Int) (a0_2:ByteArray) (a0_3:ByteArray) (A0_4:Option Addr) (c0_4:Nat) (l0_4:List (S63)) (A0_5:Option Addr) (c0_5:Nat) (l0_5:List (S38)) (a1_0:Int) (a1_1:Int) (a1_2:ByteArray) (a1_3:ByteArray) (A1_4:Option Addr) (c1_4:Nat) (l1_4:List (S63)) (A1_5:Option Addr) (c1_5:Nat) (l1_5:List (S38)) (r:Bool) (w:World) (hr0_4:Kd.C k63 w A0_4 l0_4.length l0_4) (hc0_4:l0_4.length≤c0_4) (hr0_5:Kd.C k38 w A0_5 l0_5.length l0_5) (hc0_5:l0_5.length≤c0_5) (hr1_4:Kd.C k63 w A1_4 l1_4.length l1_4) (hc1_4:l1_4.length≤c1_4) (hr1_5:Kd.C k38 w A1_5 l1_5.length l1_5) (hc1_5:l1_5.length≤c1_5) (h:laws_eqNode.f k a0_0 a0_1 a0_2 a0_3 l0_4 l0_5 a1_0 a1_1 a1_2 a1_3 l1_4 l1_5=some r),
 Calls Tryz.prog 15 #[.agg #[.int .i64 a0_0,.int .i64 a0_1,.string a0_2,.string a0_3,.slice A0_4 l0_4.length c0_4,.slice A0_5 l0_5.length c0_5],.agg #[.int .i64 a1_0,.int .i64 a1_1,.string a1_2,.string a1_3,.slice A1_4 l1_4.length c1_4,.slice A1_5 l1_5.length c1_5]] w fun e w'=>e=.returned (.bool r)∧Below w.heap.size w w':=by
 intro a0_0 a0_1 a0_2 a0_3 A0_4 c0_4 l0_4 A0_5 c0_5 l0_5 a1_0 a1_1 a1_2 a1_3 A1_4 c1_4 l1_4 A1_5 c1_5 l1_5 r w hr0_4 hc0_4 hr0_5 hc0_5 hr1_4 hc1_4 hr1_5 hc1_5 h
 cases k with
 | zero=>exact absurd h (by simp [laws_eqNode.f])
 | succ k =>
 simp only [laws_eqNode.f] at h
 have hu38:=Tryz.underlying38
 have HR0_4:=A_ hr0_4
 have HC0_4:=A_ hc0_4
 clear hr0_4 hc0_4
 have HR0_5:=A_ hr0_5
 have HC0_5:=A_ hc0_5
 clear hr0_5 hc0_5
 have HR1_4:=A_ hr1_4
 have HC1_4:=A_ hc1_4
 clear hr1_4 hc1_4
 have HR1_5:=A_ hr1_5
 have HC1_5:=A_ hc1_5
 clear hr1_5 hc1_5
 have HB:=A_ (Below.refl w.heap.size w)
 have H:(if a0_0=a1_0 then (if a0_1=a1_1 then (if a0_2.toList=a1_2.toList then (if a0_3.toList=a1_3.toList then ((laws_eqAttrS.f k l0_4 l1_4).bind fun t245=>(if t245=true then ((laws_eqNodeS.f k l0_5 l1_5).bind fun t246=>(if t246=true then (some true) else (some false))) else (some false))) else (some false)) else (some false)) else (some false)) else (some false))=some r:=h
 clear h
 by_cases c3:a0_0=a1_0
 ·rw [if_pos c3] at H
  have c3b0:(a0_0 == a1_0)=true:=beq_iff_eq.mpr c3
  have c3b1:(a0_0 != a1_0)=false:=bne_eq_false_iff_eq.mpr c3
  clear c3
  by_cases c4:a0_1=a1_1
  ·rw [if_pos c4] at H
   have c4b0:(a0_1 == a1_1)=true:=beq_iff_eq.mpr c4
   have c4b1:(a0_1 != a1_1)=false:=bne_eq_false_iff_eq.mpr c4
   clear c4
   by_cases c5:a0_2.toList=a1_2.toList
   ·rw [if_pos c5] at H
    have c5b0:(a0_2.toList == a1_2.toList)=true:=beq_iff_eq.mpr c5
    have c5b1:(a0_2.toList != a1_2.toList)=false:=bne_eq_false_iff_eq.mpr c5
    clear c5
    by_cases c6:a0_3.toList=a1_3.toList
    ·rw [if_pos c6] at H
     have c6b0:(a0_3.toList == a1_3.toList)=true:=beq_iff_eq.mpr c6
     have c6b1:(a0_3.toList != a1_3.toList)=false:=bne_eq_false_iff_eq.mpr c6
     clear c6
     replace H:=ob_ H
     obtain ⟨t245,A70,H⟩:=H
     replace H:(if t245=true then ((laws_eqNodeS.f k l0_5 l1_5).bind fun t246=>(if t246=true then (some true) else (some false))) else (some false))=some r:=H
     have A7:=A_ A70
     clear A70
     by_cases c8:t245=true
     ·subst c8
      have H1:((laws_eqNodeS.f k l0_5 l1_5).bind fun t246=>(if t246=true then (some true) else (some false)))=some r:=by rw [if_pos rfl] at H;exact H
      clear H
      have H:=H1
      clear H1
      replace H:=ob_ H
      obtain ⟨t246,A90,H⟩:=H
      replace H:(if t246=true then (some true) else (some false))=some r:=H
      have A9:=A_ A90
      clear A90
      by_cases c10:t246=true
      ·subst c10
       have H1:(some true)=some r:=by rw [if_pos rfl] at H;exact H
       clear H
       have H:=H1
       clear H1
       obtain rfl:=oi_ H
       go_enter Tryz.func15,Tryz.ntmps15
       go_wp2_with (first|((with_reducible refine gate_dst (N:=2) rfl ?_);refine box_event ?hg (N:=2) ?hd (cs:=#[.int .i64 a0_0,.int .i64 a0_1,.string a0_2,.string a0_3,.slice A0_4 l0_4.length c0_4,.slice A0_5 l0_5.length c0_5]) (t:=38) ?hr ?_;(case hd=>rfl);(case hg=>rfl);(case hr=>first|(go_simp;done)|(go_simp;rfl));intro gb243 hg w11 hbox hb;have n0_:=A_ (bp_ (by repeat (first|(with_reducible first|exact HB.out|apply ba_|apply pd_|apply b1_)|exact HB.out)) hb);have n1_:=A_ (hbox);have n2_:=A_ ((by rw [hg];exact (bz_ (by repeat (first|(with_reducible first|exact HB.out|apply ba_|apply pd_|apply b1_)|exact HB.out))):w.heap.size≤gb243));have n3_:=A_ ((by rw [hg];exact (bz_ (by repeat (first|(with_reducible first|exact HB.out|apply ba_|apply pd_|apply b1_)|exact HB.out))):w.heap.size≤gb243));clear HB;have HB:=n0_;have BK243:=n1_;have GW243:=n2_;have GE243:=n3_;clear n0_ n1_ n2_ n3_;clear hb hbox hg)|((with_reducible refine gate_dst (N:=3) rfl ?_);refine box_event ?hg (N:=3) ?hd (cs:=#[.int .i64 a1_0,.int .i64 a1_1,.string a1_2,.string a1_3,.slice A1_4 l1_4.length c1_4,.slice A1_5 l1_5.length c1_5]) (t:=38) ?hr ?_;(case hd=>rfl);(case hg=>rfl);(case hr=>first|(go_simp;done)|(go_simp;rfl));intro gb244 hg w12 hbox hb;have n0_:=A_ (kb_ (g:=gb243) (o:=.cells #[.int .i64 a0_0,.int .i64 a0_1,.string a0_2,.string a0_3,.slice A0_4 l0_4.length c0_4,.slice A0_5 l0_5.length c0_5] 38 (0,0)) (by (with_reducible repeat (first|refine kn_ ?_ _|refine kd_ ?_|refine ka_ ?_ _));exact BK243.out) hb);have n1_:=A_ (bp_ (by repeat (first|(with_reducible first|exact HB.out|apply ba_|apply pd_|apply b1_|refine bs_ ?_ GE243.out)|exact HB.out)) hb);have n2_:=A_ (hbox);have n3_:=A_ ((by rw [hg];exact (bz_ (by repeat (first|(with_reducible first|exact HB.out|apply ba_|apply pd_|apply b1_|refine bs_ ?_ GE243.out)|exact HB.out))):w.heap.size≤gb244));have n4_:=A_ ((by rw [hg];exact (bz_ (by repeat (first|(with_reducible first|exact HB.out|apply ba_|apply pd_|apply b1_|refine bs_ ?_ GE243.out)|exact HB.out))):w.heap.size≤gb244));have n5_:=A_ ((by rw [hg];exact Nat.ne_of_lt (blk_lt (g:=gb243) (o:=.cells #[.int .i64 a0_0,.int .i64 a0_1,.string a0_2,.string a0_3,.slice A0_4 l0_4.length c0_4,.slice A0_5 l0_5.length c0_5] 38 (0,0)) (by (with_reducible repeat (first|refine kn_ ?_ _|refine kd_ ?_|refine ka_ ?_ _));exact BK243.out)):gb243≠gb244));have n6_:=A_ ((by rw [hg];exact Nat.ne_of_gt (blk_lt (g:=gb243) (o:=.cells #[.int .i64 a0_0,.int .i64 a0_1,.string a0_2,.string a0_3,.slice A0_4 l0_4.length c0_4,.slice A0_5 l0_5.length c0_5] 38 (0,0)) (by (with_reducible repeat (first|refine kn_ ?_ _|refine kd_ ?_|refine ka_ ?_ _));exact BK243.out)):gb244≠gb243));clear BK243;clear HB;have BK243:=n0_;have HB:=n1_;have BK244:=n2_;have GW244:=n3_;have GE244:=n4_;have NB243_244:=n5_;have NB244_243:=n6_;clear n0_ n1_ n2_ n3_ n4_ n5_ n6_;clear hb hbox hg;have hnb13:=NB243_244.out;have hnc13:=NB244_243.out;have hcz14_0:w12.cell? ⟨gb243,0,none⟩=some (.int .i64 a0_0):=(bc_ BK243.out 0).trans rfl;have hcz14_1:w12.cell? ⟨gb243,1,none⟩=some (.int .i64 a0_1):=(bc_ BK243.out 1).trans rfl;have hcz14_2:w12.cell? ⟨gb243,2,none⟩=some (.string a0_2):=(bc_ BK243.out 2).trans rfl;have hcz14_3:w12.cell? ⟨gb243,3,none⟩=some (.string a0_3):=(bc_ BK243.out 3).trans rfl;have hcz14_4:w12.cell? ⟨gb243,4,none⟩=some (.slice A0_4 l0_4.length c0_4):=(bc_ BK243.out 4).trans rfl;have hcz14_5:w12.cell? ⟨gb243,5,none⟩=some (.slice A0_5 l0_5.length c0_5):=(bc_ BK243.out 5).trans rfl;have hfz14_0:=bf_ BK243.out 0;have hfz14_1:=bf_ BK243.out 1;have hfz14_2:=bf_ BK243.out 2;have hfz14_3:=bf_ BK243.out 3;have hfz14_4:=bf_ BK243.out 4;have hfz14_5:=bf_ BK243.out 5;have hcz15_0:w12.cell? ⟨gb244,0,none⟩=some (.int .i64 a1_0):=(bc_ BK244.out 0).trans rfl;have hcz15_1:w12.cell? ⟨gb244,1,none⟩=some (.int .i64 a1_1):=(bc_ BK244.out 1).trans rfl;have hcz15_2:w12.cell? ⟨gb244,2,none⟩=some (.string a1_2):=(bc_ BK244.out 2).trans rfl;have hcz15_3:w12.cell? ⟨gb244,3,none⟩=some (.string a1_3):=(bc_ BK244.out 3).trans rfl;have hcz15_4:w12.cell? ⟨gb244,4,none⟩=some (.slice A1_4 l1_4.length c1_4):=(bc_ BK244.out 4).trans rfl;have hcz15_5:w12.cell? ⟨gb244,5,none⟩=some (.slice A1_5 l1_5.length c1_5):=(bc_ BK244.out 5).trans rfl;have hfz15_0:=bf_ BK244.out 0;have hfz15_1:=bf_ BK244.out 1;have hfz15_2:=bf_ BK244.out 2;have hfz15_3:=bf_ BK244.out 3;have hfz15_4:=bf_ BK244.out 4;have hfz15_5:=bf_ BK244.out 5)|((with_reducible refine gate_callee (f:=30) rfl ?_);refine goesL_ (some 29) rfl rfl Tryz.func30 (by kernel_rfl) rfl #[.slice A0_4 l0_4.length c0_4,.slice A1_4 l1_4.length c1_4] rfl (by (try simp only [List.map_toArray,List.map_cons,List.map_nil]);first|done|rfl|(simp only [ld_,lt_];rfl)) ?_;(with_reducible refine (laws_eqAttrS.calls k _ _ l0_4 _ _ l1_4 true _ ?side1 ?side2 ?side3 ?side4 A7.out).mono ?_);(case side1=>repeat (first|exact (cb_ HR0_4.out HB.out)|(with_reducible refine ca_ ?_ _)|(with_reducible refine cn_ ?_ _)|(with_reducible refine cd_ ?_)));(case side2=>exact HC0_4.out);(case side3=>repeat (first|exact (cb_ HR1_4.out HB.out)|(with_reducible refine ca_ ?_ _)|(with_reducible refine cn_ ?_ _)|(with_reducible refine cd_ ?_)));(case side4=>exact HC1_4.out);rintro e w16 ⟨rfl,hb⟩;refine ⟨_,rfl,?_⟩;have n0_:=A_ (kb_ (g:=gb243) (o:=.cells #[.int .i64 a0_0,.int .i64 a0_1,.string a0_2,.string a0_3,.slice A0_4 l0_4.length c0_4,.slice A0_5 l0_5.length c0_5] 38 (0,0)) (by (with_reducible repeat (first|refine kn_ ?_ _|refine kd_ ?_|refine ka_ ?_ _));exact BK243.out) hb);have n1_:=A_ (kb_ (g:=gb244) (o:=.cells #[.int .i64 a1_0,.int .i64 a1_1,.string a1_2,.string a1_3,.slice A1_4 l1_4.length c1_4,.slice A1_5 l1_5.length c1_5] 38 (0,0)) (by (with_reducible repeat (first|refine kn_ ?_ _|refine kd_ ?_|refine ka_ ?_ _));exact BK244.out) hb);have n2_:=A_ (bp_ (by repeat (first|(with_reducible first|exact HB.out|apply ba_|apply pd_|apply b1_|refine bs_ ?_ GE243.out|refine bs_ ?_ GE244.out)|exact HB.out)) hb);clear BK243;clear BK244;clear HB;have BK243:=n0_;have BK244:=n1_;have HB:=n2_;clear n0_ n1_ n2_;(try clear hb);(try clear hb2);(try clear hk);(try clear hi);have hcz17_0:w16.cell? ⟨gb243,0,none⟩=some (.int .i64 a0_0):=(bc_ BK243.out 0).trans rfl;have hcz17_1:w16.cell? ⟨gb243,1,none⟩=some (.int .i64 a0_1):=(bc_ BK243.out 1).trans rfl;have hcz17_2:w16.cell? ⟨gb243,2,none⟩=some (.string a0_2):=(bc_ BK243.out 2).trans rfl;have hcz17_3:w16.cell? ⟨gb243,3,none⟩=some (.string a0_3):=(bc_ BK243.out 3).trans rfl;have hcz17_4:w16.cell? ⟨gb243,4,none⟩=some (.slice A0_4 l0_4.length c0_4):=(bc_ BK243.out 4).trans rfl;have hcz17_5:w16.cell? ⟨gb243,5,none⟩=some (.slice A0_5 l0_5.length c0_5):=(bc_ BK243.out 5).trans rfl;have hfz17_0:=bf_ BK243.out 0;have hfz17_1:=bf_ BK243.out 1;have hfz17_2:=bf_ BK243.out 2;have hfz17_3:=bf_ BK243.out 3;have hfz17_4:=bf_ BK243.out 4;have hfz17_5:=bf_ BK243.out 5;have hcz18_0:w16.cell? ⟨gb244,0,none⟩=some (.int .i64 a1_0):=(bc_ BK244.out 0).trans rfl;have hcz18_1:w16.cell? ⟨gb244,1,none⟩=some (.int .i64 a1_1):=(bc_ BK244.out 1).trans rfl;have hcz18_2:w16.cell? ⟨gb244,2,none⟩=some (.string a1_2):=(bc_ BK244.out 2).trans rfl;have hcz18_3:w16.cell? ⟨gb244,3,none⟩=some (.string a1_3):=(bc_ BK244.out 3).trans rfl;have hcz18_4:w16.cell? ⟨gb244,4,none⟩=some (.slice A1_4 l1_4.length c1_4):=(bc_ BK244.out 4).trans rfl;have hcz18_5:w16.cell? ⟨gb244,5,none⟩=some (.slice A1_5 l1_5.length c1_5):=(bc_ BK244.out 5).trans rfl;have hfz18_0:=bf_ BK244.out 0;have hfz18_1:=bf_ BK244.out 1;have hfz18_2:=bf_ BK244.out 2;have hfz18_3:=bf_ BK244.out 3;have hfz18_4:=bf_ BK244.out 4;have hfz18_5:=bf_ BK244.out 5)|((with_reducible refine gate_callee (f:=8) rfl ?_);refine goesL_ (some 35) rfl rfl Tryz.func8 (by kernel_rfl) rfl #[.slice A0_5 l0_5.length c0_5,.slice A1_5 l1_5.length c1_5] rfl (by (try simp only [List.map_toArray,List.map_cons,List.map_nil]);first|done|rfl|(simp only [ld_,lt_];rfl)) ?_;(with_reducible refine (ihP k (by omega) _ _ l0_5 _ _ l1_5 true _ ?side1 ?side2 ?side3 ?side4 A9.out).mono ?_);(case side1=>repeat (first|exact (cb_ HR0_5.out HB.out)|(with_reducible refine ca_ ?_ _)|(with_reducible refine cn_ ?_ _)|(with_reducible refine cd_ ?_)));(case side2=>exact HC0_5.out);(case side3=>repeat (first|exact (cb_ HR1_5.out HB.out)|(with_reducible refine ca_ ?_ _)|(with_reducible refine cn_ ?_ _)|(with_reducible refine cd_ ?_)));(case side4=>exact HC1_5.out);rintro e w19 ⟨rfl,hb⟩;refine ⟨_,rfl,?_⟩;have n0_:=A_ (kb_ (g:=gb243) (o:=.cells #[.int .i64 a0_0,.int .i64 a0_1,.string a0_2,.string a0_3,.slice A0_4 l0_4.length c0_4,.slice A0_5 l0_5.length c0_5] 38 (0,0)) (by (with_reducible repeat (first|refine kn_ ?_ _|refine kd_ ?_|refine ka_ ?_ _));exact BK243.out) hb);have n1_:=A_ (kb_ (g:=gb244) (o:=.cells #[.int .i64 a1_0,.int .i64 a1_1,.string a1_2,.string a1_3,.slice A1_4 l1_4.length c1_4,.slice A1_5 l1_5.length c1_5] 38 (0,0)) (by (with_reducible repeat (first|refine kn_ ?_ _|refine kd_ ?_|refine ka_ ?_ _));exact BK244.out) hb);have n2_:=A_ (bp_ (by repeat (first|(with_reducible first|exact HB.out|apply ba_|apply pd_|apply b1_|refine bs_ ?_ GE243.out|refine bs_ ?_ GE244.out)|exact HB.out)) hb);clear BK243;clear BK244;clear HB;have BK243:=n0_;have BK244:=n1_;have HB:=n2_;clear n0_ n1_ n2_;(try clear hb);(try clear hb2);(try clear hk);(try clear hi)))
       go_ret
       exact ⟨by first|rfl|(simp [errW_none,errW_some] <;> rfl)|(simp [*,errW_none,errW_some] <;> rfl),by repeat (first|(with_reducible first|exact HB.out|apply ba_|apply pd_|apply b1_|refine bs_ ?_ GE243.out|refine bs_ ?_ GE244.out)|exact HB.out)⟩
      ·replace c10:=bm_ c10
       subst c10
       have H1:(some false)=some r:=by rw [if_neg (show ¬ (false=true) by decide)] at H;exact H
       clear H
       have H:=H1
       clear H1
       obtain rfl:=oi_ H
       go_enter Tryz.func15,Tryz.ntmps15
       go_wp2_with (first|((with_reducible refine gate_dst (N:=2) rfl ?_);refine box_event ?hg (N:=2) ?hd (cs:=#[.int .i64 a0_0,.int .i64 a0_1,.string a0_2,.string a0_3,.slice A0_4 l0_4.length c0_4,.slice A0_5 l0_5.length c0_5]) (t:=38) ?hr ?_;(case hd=>rfl);(case hg=>rfl);(case hr=>first|(go_simp;done)|(go_simp;rfl));intro gb243 hg w20 hbox hb;have n0_:=A_ (bp_ (by repeat (first|(with_reducible first|exact HB.out|apply ba_|apply pd_|apply b1_)|exact HB.out)) hb);have n1_:=A_ (hbox);have n2_:=A_ ((by rw [hg];exact (bz_ (by repeat (first|(with_reducible first|exact HB.out|apply ba_|apply pd_|apply b1_)|exact HB.out))):w.heap.size≤gb243));have n3_:=A_ ((by rw [hg];exact (bz_ (by repeat (first|(with_reducible first|exact HB.out|apply ba_|apply pd_|apply b1_)|exact HB.out))):w.heap.size≤gb243));clear HB;have HB:=n0_;have BK243:=n1_;have GW243:=n2_;have GE243:=n3_;clear n0_ n1_ n2_ n3_;clear hb hbox hg)|((with_reducible refine gate_dst (N:=3) rfl ?_);refine box_event ?hg (N:=3) ?hd (cs:=#[.int .i64 a1_0,.int .i64 a1_1,.string a1_2,.string a1_3,.slice A1_4 l1_4.length c1_4,.slice A1_5 l1_5.length c1_5]) (t:=38) ?hr ?_;(case hd=>rfl);(case hg=>rfl);(case hr=>first|(go_simp;done)|(go_simp;rfl));intro gb244 hg w21 hbox hb;have n0_:=A_ (kb_ (g:=gb243) (o:=.cells #[.int .i64 a0_0,.int .i64 a0_1,.string a0_2,.string a0_3,.slice A0_4 l0_4.length c0_4,.slice A0_5 l0_5.length c0_5] 38 (0,0)) (by (with_reducible repeat (first|refine kn_ ?_ _|refine kd_ ?_|refine ka_ ?_ _));exact BK243.out) hb);have n1_:=A_ (bp_ (by repeat (first|(with_reducible first|exact HB.out|apply ba_|apply pd_|apply b1_|refine bs_ ?_ GE243.out)|exact HB.out)) hb);have n2_:=A_ (hbox);have n3_:=A_ ((by rw [hg];exact (bz_ (by repeat (first|(with_reducible first|exact HB.out|apply ba_|apply pd_|apply b1_|refine bs_ ?_ GE243.out)|exact HB.out))):w.heap.size≤gb244));have n4_:=A_ ((by rw [hg];exact (bz_ (by repeat (first|(with_reducible first|exact HB.out|apply ba_|apply pd_|apply b1_|refine bs_ ?_ GE243.out)|exact HB.out))):w.heap.size≤gb244));have n5_:=A_ ((by rw [hg];exact Nat.ne_of_lt (blk_lt (g:=gb243) (o:=.cells #[.int .i64 a0_0,.int .i64 a0_1,.string a0_2,.string a0_3,.slice A0_4 l0_4.length c0_4,.slice A0_5 l0_5.length c0_5] 38 (0,0)) (by (with_reducible repeat (first|refine kn_ ?_ _|refine kd_ ?_|refine ka_ ?_ _));exact BK243.out)):gb243≠gb244));have n6_:=A_ ((by rw [hg];exact Nat.ne_of_gt (blk_lt (g:=gb243) (o:=.cells #[.int .i64 a0_0,.int .i64 a0_1,.string a0_2,.string a0_3,.slice A0_4 l0_4.length c0_4,.slice A0_5 l0_5.length c0_5] 38 (0,0)) (by (with_reducible repeat (first|refine kn_ ?_ _|refine kd_ ?_|refine ka_ ?_ _));exact BK243.out)):gb244≠gb243));clear BK243;clear HB;have BK243:=n0_;have HB:=n1_;have BK244:=n2_;have GW244:=n3_;have GE244:=n4_;have NB243_244:=n5_;have NB244_243:=n6_;clear n0_ n1_ n2_ n3_ n4_ n5_ n6_;clear hb hbox hg;have hnb22:=NB243_244.out;have hnc22:=NB244_243.out;have hcz23_0:w21.cell? ⟨gb243,0,none⟩=some (.int .i64 a0_0):=(bc_ BK243.out 0).trans rfl;have hcz23_1:w21.cell? ⟨gb243,1,none⟩=some (.int .i64 a0_1):=(bc_ BK243.out 1).trans rfl;have hcz23_2:w21.cell? ⟨gb243,2,none⟩=some (.string a0_2):=(bc_ BK243.out 2).trans rfl;have hcz23_3:w21.cell? ⟨gb243,3,none⟩=some (.string a0_3):=(bc_ BK243.out 3).trans rfl;have hcz23_4:w21.cell? ⟨gb243,4,none⟩=some (.slice A0_4 l0_4.length c0_4):=(bc_ BK243.out 4).trans rfl;have hcz23_5:w21.cell? ⟨gb243,5,none⟩=some (.slice A0_5 l0_5.length c0_5):=(bc_ BK243.out 5).trans rfl;have hfz23_0:=bf_ BK243.out 0;have hfz23_1:=bf_ BK243.out 1;have hfz23_2:=bf_ BK243.out 2;have hfz23_3:=bf_ BK243.out 3;have hfz23_4:=bf_ BK243.out 4;have hfz23_5:=bf_ BK243.out 5;have hcz24_0:w21.cell? ⟨gb244,0,none⟩=some (.int .i64 a1_0):=(bc_ BK244.out 0).trans rfl;have hcz24_1:w21.cell? ⟨gb244,1,none⟩=some (.int .i64 a1_1):=(bc_ BK244.out 1).trans rfl;have hcz24_2:w21.cell? ⟨gb244,2,none⟩=some (.string a1_2):=(bc_ BK244.out 2).trans rfl;have hcz24_3:w21.cell? ⟨gb244,3,none⟩=some (.string a1_3):=(bc_ BK244.out 3).trans rfl;have hcz24_4:w21.cell? ⟨gb244,4,none⟩=some (.slice A1_4 l1_4.length c1_4):=(bc_ BK244.out 4).trans rfl;have hcz24_5:w21.cell? ⟨gb244,5,none⟩=some (.slice A1_5 l1_5.length c1_5):=(bc_ BK244.out 5).trans rfl;have hfz24_0:=bf_ BK244.out 0;have hfz24_1:=bf_ BK244.out 1;have hfz24_2:=bf_ BK244.out 2;have hfz24_3:=bf_ BK244.out 3;have hfz24_4:=bf_ BK244.out 4;have hfz24_5:=bf_ BK244.out 5)|((with_reducible refine gate_callee (f:=30) rfl ?_);refine goesL_ (some 29) rfl rfl Tryz.func30 (by kernel_rfl) rfl #[.slice A0_4 l0_4.length c0_4,.slice A1_4 l1_4.length c1_4] rfl (by (try simp only [List.map_toArray,List.map_cons,List.map_nil]);first|done|rfl|(simp only [ld_,lt_];rfl)) ?_;(with_reducible refine (laws_eqAttrS.calls k _ _ l0_4 _ _ l1_4 true _ ?side1 ?side2 ?side3 ?side4 A7.out).mono ?_);(case side1=>repeat (first|exact (cb_ HR0_4.out HB.out)|(with_reducible refine ca_ ?_ _)|(with_reducible refine cn_ ?_ _)|(with_reducible refine cd_ ?_)));(case side2=>exact HC0_4.out);(case side3=>repeat (first|exact (cb_ HR1_4.out HB.out)|(with_reducible refine ca_ ?_ _)|(with_reducible refine cn_ ?_ _)|(with_reducible refine cd_ ?_)));(case side4=>exact HC1_4.out);rintro e w25 ⟨rfl,hb⟩;refine ⟨_,rfl,?_⟩;have n0_:=A_ (kb_ (g:=gb243) (o:=.cells #[.int .i64 a0_0,.int .i64 a0_1,.string a0_2,.string a0_3,.slice A0_4 l0_4.length c0_4,.slice A0_5 l0_5.length c0_5] 38 (0,0)) (by (with_reducible repeat (first|refine kn_ ?_ _|refine kd_ ?_|refine ka_ ?_ _));exact BK243.out) hb);have n1_:=A_ (kb_ (g:=gb244) (o:=.cells #[.int .i64 a1_0,.int .i64 a1_1,.string a1_2,.string a1_3,.slice A1_4 l1_4.length c1_4,.slice A1_5 l1_5.length c1_5] 38 (0,0)) (by (with_reducible repeat (first|refine kn_ ?_ _|refine kd_ ?_|refine ka_ ?_ _));exact BK244.out) hb);have n2_:=A_ (bp_ (by repeat (first|(with_reducible first|exact HB.out|apply ba_|apply pd_|apply b1_|refine bs_ ?_ GE243.out|refine bs_ ?_ GE244.out)|exact HB.out)) hb);clear BK243;clear BK244;clear HB;have BK243:=n0_;have BK244:=n1_;have HB:=n2_;clear n0_ n1_ n2_;(try clear hb);(try clear hb2);(try clear hk);(try clear hi);have hcz26_0:w25.cell? ⟨gb243,0,none⟩=some (.int .i64 a0_0):=(bc_ BK243.out 0).trans rfl;have hcz26_1:w25.cell? ⟨gb243,1,none⟩=some (.int .i64 a0_1):=(bc_ BK243.out 1).trans rfl;have hcz26_2:w25.cell? ⟨gb243,2,none⟩=some (.string a0_2):=(bc_ BK243.out 2).trans rfl;have hcz26_3:w25.cell? ⟨gb243,3,none⟩=some (.string a0_3):=(bc_ BK243.out 3).trans rfl;have hcz26_4:w25.cell? ⟨gb243,4,none⟩=some (.slice A0_4 l0_4.length c0_4):=(bc_ BK243.out 4).trans rfl;have hcz26_5:w25.cell? ⟨gb243,5,none⟩=some (.slice A0_5 l0_5.length c0_5):=(bc_ BK243.out 5).trans rfl;have hfz26_0:=bf_ BK243.out 0;have hfz26_1:=bf_ BK243.out 1;have hfz26_2:=bf_ BK243.out 2;have hfz26_3:=bf_ BK243.out 3;have hfz26_4:=bf_ BK243.out 4;have hfz26_5:=bf_ BK243.out 5;have hcz27_0:w25.cell? ⟨gb244,0,none⟩=some (.int .i64 a1_0):=(bc_ BK244.out 0).trans rfl;have hcz27_1:w25.cell? ⟨gb244,1,none⟩=some (.int .i64 a1_1):=(bc_ BK244.out 1).trans rfl;have hcz27_2:w25.cell? ⟨gb244,2,none⟩=some (.string a1_2):=(bc_ BK244.out 2).trans rfl;have hcz27_3:w25.cell? ⟨gb244,3,none⟩=some (.string a1_3):=(bc_ BK244.out 3).trans rfl;have hcz27_4:w25.cell? ⟨gb244,4,none⟩=some (.slice A1_4 l1_4.length c1_4):=(bc_ BK244.out 4).trans rfl;have hcz27_5:w25.cell? ⟨gb244,5,none⟩=some (.slice A1_5 l1_5.length c1_5):=(bc_ BK244.out 5).trans rfl;have hfz27_0:=bf_ BK244.out 0;have hfz27_1:=bf_ BK244.out 1;have hfz27_2:=bf_ BK244.out 2;have hfz27_3:=bf_ BK244.out 3;have hfz27_4:=bf_ BK244.out 4;have hfz27_5:=bf_ BK244.out 5)|((with_reducible refine gate_callee (f:=8) rfl ?_);refine goesL_ (some 35) rfl rfl Tryz.func8 (by kernel_rfl) rfl #[.slice A0_5 l0_5.length c0_5,.slice A1_5 l1_5.length c1_5] rfl (by (try simp only [List.map_toArray,List.map_cons,List.map_nil]);first|done|rfl|(simp only [ld_,lt_];rfl)) ?_;(with_reducible refine (ihP k (by omega) _ _ l0_5 _ _ l1_5 false _ ?side1 ?side2 ?side3 ?side4 A9.out).mono ?_);(case side1=>repeat (first|exact (cb_ HR0_5.out HB.out)|(with_reducible refine ca_ ?_ _)|(with_reducible refine cn_ ?_ _)|(with_reducible refine cd_ ?_)));(case side2=>exact HC0_5.out);(case side3=>repeat (first|exact (cb_ HR1_5.out HB.out)|(with_reducible refine ca_ ?_ _)|(with_reducible refine cn_ ?_ _)|(with_reducible refine cd_ ?_)));(case side4=>exact HC1_5.out);rintro e w28 ⟨rfl,hb⟩;refine ⟨_,rfl,?_⟩;have n0_:=A_ (kb_ (g:=gb243) (o:=.cells #[.int .i64 a0_0,.int .i64 a0_1,.string a0_2,.string a0_3,.slice A0_4 l0_4.length c0_4,.slice A0_5 l0_5.length c0_5] 38 (0,0)) (by (with_reducible repeat (first|refine kn_ ?_ _|refine kd_ ?_|refine ka_ ?_ _));exact BK243.out) hb);have n1_:=A_ (kb_ (g:=gb244) (o:=.cells #[.int .i64 a1_0,.int .i64 a1_1,.string a1_2,.string a1_3,.slice A1_4 l1_4.length c1_4,.slice A1_5 l1_5.length c1_5] 38 (0,0)) (by (with_reducible repeat (first|refine kn_ ?_ _|refine kd_ ?_|refine ka_ ?_ _));exact BK244.out) hb);have n2_:=A_ (bp_ (by repeat (first|(with_reducible first|exact HB.out|apply ba_|apply pd_|apply b1_|refine bs_ ?_ GE243.out|refine bs_ ?_ GE244.out)|exact HB.out)) hb);clear BK243;clear BK244;clear HB;have BK243:=n0_;have BK244:=n1_;have HB:=n2_;clear n0_ n1_ n2_;(try clear hb);(try clear hb2);(try clear hk);(try clear hi)))
       go_ret
       exact ⟨by first|rfl|(simp [errW_none,errW_some] <;> rfl)|(simp [*,errW_none,errW_some] <;> rfl),by repeat (first|(with_reducible first|exact HB.out|apply ba_|apply pd_|apply b1_|refine bs_ ?_ GE243.out|refine bs_ ?_ GE244.out)|exact HB.out)⟩
     ·replace c8:=bm_ c8
      subst c8
      have H1:(some false)=some r:=by rw [if_neg (show ¬ (false=true) by decide)] at H;exact H
      clear H
      have H:=H1
      clear H1
      obtain rfl:=oi_ H
      go_enter Tryz.func15,Tryz.ntmps15
      go_wp2_with (first|((with_reducible refine gate_dst (N:=2) rfl ?_);refine box_event ?hg (N:=2) ?hd (cs:=#[.int .i64 a0_0,.int .i64 a0_1,.string a0_2,.string a0_3,.slice A0_4 l0_4.length c0_4,.slice A0_5 l0_5.length c0_5]) (t:=38) ?hr ?_;(case hd=>rfl);(case hg=>rfl);(case hr=>first|(go_simp;done)|(go_simp;rfl));intro gb243 hg w29 hbox hb;have n0_:=A_ (bp_ (by repeat (first|(with_reducible first|exact HB.out|apply ba_|apply pd_|apply b1_)|exact HB.out)) hb);have n1_:=A_ (hbox);have n2_:=A_ ((by rw [hg];exact (bz_ (by repeat (first|(with_reducible first|exact HB.out|apply ba_|apply pd_|apply b1_)|exact HB.out))):w.heap.size≤gb243));have n3_:=A_ ((by rw [hg];exact (bz_ (by repeat (first|(with_reducible first|exact HB.out|apply ba_|apply pd_|apply b1_)|exact HB.out))):w.heap.size≤gb243));clear HB;have HB:=n0_;have BK243:=n1_;have GW243:=n2_;have GE243:=n3_;clear n0_ n1_ n2_ n3_;clear hb hbox hg)|((with_reducible refine gate_dst (N:=3) rfl ?_);refine box_event ?hg (N:=3) ?hd (cs:=#[.int .i64 a1_0,.int .i64 a1_1,.string a1_2,.string a1_3,.slice A1_4 l1_4.length c1_4,.slice A1_5 l1_5.length c1_5]) (t:=38) ?hr ?_;(case hd=>rfl);(case hg=>rfl);(case hr=>first|(go_simp;done)|(go_simp;rfl));intro gb244 hg w30 hbox hb;have n0_:=A_ (kb_ (g:=gb243) (o:=.cells #[.int .i64 a0_0,.int .i64 a0_1,.string a0_2,.string a0_3,.slice A0_4 l0_4.length c0_4,.slice A0_5 l0_5.length c0_5] 38 (0,0)) (by (with_reducible repeat (first|refine kn_ ?_ _|refine kd_ ?_|refine ka_ ?_ _));exact BK243.out) hb);have n1_:=A_ (bp_ (by repeat (first|(with_reducible first|exact HB.out|apply ba_|apply pd_|apply b1_|refine bs_ ?_ GE243.out)|exact HB.out)) hb);have n2_:=A_ (hbox);have n3_:=A_ ((by rw [hg];exact (bz_ (by repeat (first|(with_reducible first|exact HB.out|apply ba_|apply pd_|apply b1_|refine bs_ ?_ GE243.out)|exact HB.out))):w.heap.size≤gb244));have n4_:=A_ ((by rw [hg];exact (bz_ (by repeat (first|(with_reducible first|exact HB.out|apply ba_|apply pd_|apply b1_|refine bs_ ?_ GE243.out)|exact HB.out))):w.heap.size≤gb244));have n5_:=A_ ((by rw [hg];exact Nat.ne_of_lt (blk_lt (g:=gb243) (o:=.cells #[.int .i64 a0_0,.int .i64 a0_1,.string a0_2,.string a0_3,.slice A0_4 l0_4.length c0_4,.slice A0_5 l0_5.length c0_5] 38 (0,0)) (by (with_reducible repeat (first|refine kn_ ?_ _|refine kd_ ?_|refine ka_ ?_ _));exact BK243.out)):gb243≠gb244));have n6_:=A_ ((by rw [hg];exact Nat.ne_of_gt (blk_lt (g:=gb243) (o:=.cells #[.int .i64 a0_0,.int .i64 a0_1,.string a0_2,.string a0_3,.slice A0_4 l0_4.length c0_4,.slice A0_5 l0_5.length c0_5] 38 (0,0)) (by (with_reducible repeat (first|refine kn_ ?_ _|refine kd_ ?_|refine ka_ ?_ _));exact BK243.out)):gb244≠gb243));clear BK243;clear HB;have BK243:=n0_;have HB:=n1_;have BK244:=n2_;have GW244:=n3_;have GE244:=n4_;have NB243_244:=n5_;have NB244_243:=n6_;clear n0_ n1_ n2_ n3_ n4_ n5_ n6_;clear hb hbox hg;have hnb31:=NB243_244.out;have hnc31:=NB244_243.out;have hcz32_0:w30.cell? ⟨gb243,0,none⟩=some (.int .i64 a0_0):=(bc_ BK243.out 0).trans rfl;have hcz32_1:w30.cell? ⟨gb243,1,none⟩=some (.int .i64 a0_1):=(bc_ BK243.out 1).trans rfl;have hcz32_2:w30.cell? ⟨gb243,2,none⟩=some (.string a0_2):=(bc_ BK243.out 2).trans rfl;have hcz32_3:w30.cell? ⟨gb243,3,none⟩=some (.string a0_3):=(bc_ BK243.out 3).trans rfl;have hcz32_4:w30.cell? ⟨gb243,4,none⟩=some (.slice A0_4 l0_4.length c0_4):=(bc_ BK243.out 4).trans rfl;have hcz32_5:w30.cell? ⟨gb243,5,none⟩=some (.slice A0_5 l0_5.length c0_5):=(bc_ BK243.out 5).trans rfl;have hfz32_0:=bf_ BK243.out 0;have hfz32_1:=bf_ BK243.out 1;have hfz32_2:=bf_ BK243.out 2;have hfz32_3:=bf_ BK243.out 3;have hfz32_4:=bf_ BK243.out 4;have hfz32_5:=bf_ BK243.out 5;have hcz33_0:w30.cell? ⟨gb244,0,none⟩=some (.int .i64 a1_0):=(bc_ BK244.out 0).trans rfl;have hcz33_1:w30.cell? ⟨gb244,1,none⟩=some (.int .i64 a1_1):=(bc_ BK244.out 1).trans rfl;have hcz33_2:w30.cell? ⟨gb244,2,none⟩=some (.string a1_2):=(bc_ BK244.out 2).trans rfl;have hcz33_3:w30.cell? ⟨gb244,3,none⟩=some (.string a1_3):=(bc_ BK244.out 3).trans rfl;have hcz33_4:w30.cell? ⟨gb244,4,none⟩=some (.slice A1_4 l1_4.length c1_4):=(bc_ BK244.out 4).trans rfl;have hcz33_5:w30.cell? ⟨gb244,5,none⟩=some (.slice A1_5 l1_5.length c1_5):=(bc_ BK244.out 5).trans rfl;have hfz33_0:=bf_ BK244.out 0;have hfz33_1:=bf_ BK244.out 1;have hfz33_2:=bf_ BK244.out 2;have hfz33_3:=bf_ BK244.out 3;have hfz33_4:=bf_ BK244.out 4;have hfz33_5:=bf_ BK244.out 5)|((with_reducible refine gate_callee (f:=30) rfl ?_);refine goesL_ (some 29) rfl rfl Tryz.func30 (by kernel_rfl) rfl #[.slice A0_4 l0_4.length c0_4,.slice A1_4 l1_4.length c1_4] rfl (by (try simp only [List.map_toArray,List.map_cons,List.map_nil]);first|done|rfl|(simp only [ld_,lt_];rfl)) ?_;(with_reducible refine (laws_eqAttrS.calls k _ _ l0_4 _ _ l1_4 false _ ?side1 ?side2 ?side3 ?side4 A7.out).mono ?_);(case side1=>repeat (first|exact (cb_ HR0_4.out HB.out)|(with_reducible refine ca_ ?_ _)|(with_reducible refine cn_ ?_ _)|(with_reducible refine cd_ ?_)));(case side2=>exact HC0_4.out);(case side3=>repeat (first|exact (cb_ HR1_4.out HB.out)|(with_reducible refine ca_ ?_ _)|(with_reducible refine cn_ ?_ _)|(with_reducible refine cd_ ?_)));(case side4=>exact HC1_4.out);rintro e w34 ⟨rfl,hb⟩;refine ⟨_,rfl,?_⟩;have n0_:=A_ (kb_ (g:=gb243) (o:=.cells #[.int .i64 a0_0,.int .i64 a0_1,.string a0_2,.string a0_3,.slice A0_4 l0_4.length c0_4,.slice A0_5 l0_5.length c0_5] 38 (0,0)) (by (with_reducible repeat (first|refine kn_ ?_ _|refine kd_ ?_|refine ka_ ?_ _));exact BK243.out) hb);have n1_:=A_ (kb_ (g:=gb244) (o:=.cells #[.int .i64 a1_0,.int .i64 a1_1,.string a1_2,.string a1_3,.slice A1_4 l1_4.length c1_4,.slice A1_5 l1_5.length c1_5] 38 (0,0)) (by (with_reducible repeat (first|refine kn_ ?_ _|refine kd_ ?_|refine ka_ ?_ _));exact BK244.out) hb);have n2_:=A_ (bp_ (by repeat (first|(with_reducible first|exact HB.out|apply ba_|apply pd_|apply b1_|refine bs_ ?_ GE243.out|refine bs_ ?_ GE244.out)|exact HB.out)) hb);clear BK243;clear BK244;clear HB;have BK243:=n0_;have BK244:=n1_;have HB:=n2_;clear n0_ n1_ n2_;(try clear hb);(try clear hb2);(try clear hk);(try clear hi)))
      go_ret
      exact ⟨by first|rfl|(simp [errW_none,errW_some] <;> rfl)|(simp [*,errW_none,errW_some] <;> rfl),by repeat (first|(with_reducible first|exact HB.out|apply ba_|apply pd_|apply b1_|refine bs_ ?_ GE243.out|refine bs_ ?_ GE244.out)|exact HB.out)⟩
    ·rw [if_neg c6] at H
     have c6b0:(a0_3.toList == a1_3.toList)=false:=beq_eq_false_iff_ne.mpr c6
     have c6b1:(a0_3.toList != a1_3.toList)=true:=bne_iff_ne.mpr c6
     obtain rfl:=oi_ H
     go_enter Tryz.func15,Tryz.ntmps15
     go_wp2_with (first|((with_reducible refine gate_dst (N:=2) rfl ?_);refine box_event ?hg (N:=2) ?hd (cs:=#[.int .i64 a0_0,.int .i64 a0_1,.string a0_2,.string a0_3,.slice A0_4 l0_4.length c0_4,.slice A0_5 l0_5.length c0_5]) (t:=38) ?hr ?_;(case hd=>rfl);(case hg=>rfl);(case hr=>first|(go_simp;done)|(go_simp;rfl));intro gb243 hg w35 hbox hb;have n0_:=A_ (bp_ (by repeat (first|(with_reducible first|exact HB.out|apply ba_|apply pd_|apply b1_)|exact HB.out)) hb);have n1_:=A_ (hbox);have n2_:=A_ ((by rw [hg];exact (bz_ (by repeat (first|(with_reducible first|exact HB.out|apply ba_|apply pd_|apply b1_)|exact HB.out))):w.heap.size≤gb243));have n3_:=A_ ((by rw [hg];exact (bz_ (by repeat (first|(with_reducible first|exact HB.out|apply ba_|apply pd_|apply b1_)|exact HB.out))):w.heap.size≤gb243));clear HB;have HB:=n0_;have BK243:=n1_;have GW243:=n2_;have GE243:=n3_;clear n0_ n1_ n2_ n3_;clear hb hbox hg)|((with_reducible refine gate_dst (N:=3) rfl ?_);refine box_event ?hg (N:=3) ?hd (cs:=#[.int .i64 a1_0,.int .i64 a1_1,.string a1_2,.string a1_3,.slice A1_4 l1_4.length c1_4,.slice A1_5 l1_5.length c1_5]) (t:=38) ?hr ?_;(case hd=>rfl);(case hg=>rfl);(case hr=>first|(go_simp;done)|(go_simp;rfl));intro gb244 hg w36 hbox hb;have n0_:=A_ (kb_ (g:=gb243) (o:=.cells #[.int .i64 a0_0,.int .i64 a0_1,.string a0_2,.string a0_3,.slice A0_4 l0_4.length c0_4,.slice A0_5 l0_5.length c0_5] 38 (0,0)) (by (with_reducible repeat (first|refine kn_ ?_ _|refine kd_ ?_|refine ka_ ?_ _));exact BK243.out) hb);have n1_:=A_ (bp_ (by repeat (first|(with_reducible first|exact HB.out|apply ba_|apply pd_|apply b1_|refine bs_ ?_ GE243.out)|exact HB.out)) hb);have n2_:=A_ (hbox);have n3_:=A_ ((by rw [hg];exact (bz_ (by repeat (first|(with_reducible first|exact HB.out|apply ba_|apply pd_|apply b1_|refine bs_ ?_ GE243.out)|exact HB.out))):w.heap.size≤gb244));have n4_:=A_ ((by rw [hg];exact (bz_ (by repeat (first|(with_reducible first|exact HB.out|apply ba_|apply pd_|apply b1_|refine bs_ ?_ GE243.out)|exact HB.out))):w.heap.size≤gb244));have n5_:=A_ ((by rw [hg];exact Nat.ne_of_lt (blk_lt (g:=gb243) (o:=.cells #[.int .i64 a0_0,.int .i64 a0_1,.string a0_2,.string a0_3,.slice A0_4 l0_4.length c0_4,.slice A0_5 l0_5.length c0_5] 38 (0,0)) (by (with_reducible repeat (first|refine kn_ ?_ _|refine kd_ ?_|refine ka_ ?_ _));exact BK243.out)):gb243≠gb244));have n6_:=A_ ((by rw [hg];exact Nat.ne_of_gt (blk_lt (g:=gb243) (o:=.cells #[.int .i64 a0_0,.int .i64 a0_1,.string a0_2,.string a0_3,.slice A0_4 l0_4.length c0_4,.slice A0_5 l0_5.length c0_5] 38 (0,0)) (by (with_reducible repeat (first|refine kn_ ?_ _|refine kd_ ?_|refine ka_ ?_ _));exact BK243.out)):gb244≠gb243));clear BK243;clear HB;have BK243:=n0_;have HB:=n1_;have BK244:=n2_;have GW244:=n3_;have GE244:=n4_;have NB243_244:=n5_;have NB244_243:=n6_;clear n0_ n1_ n2_ n3_ n4_ n5_ n6_;clear hb hbox hg;have hnb37:=NB243_244.out;have hnc37:=NB244_243.out;have hcz38_0:w36.cell? ⟨gb243,0,none⟩=some (.int .i64 a0_0):=(bc_ BK243.out 0).trans rfl;have hcz38_1:w36.cell? ⟨gb243,1,none⟩=some (.int .i64 a0_1):=(bc_ BK243.out 1).trans rfl;have hcz38_2:w36.cell? ⟨gb243,2,none⟩=some (.string a0_2):=(bc_ BK243.out 2).trans rfl;have hcz38_3:w36.cell? ⟨gb243,3,none⟩=some (.string a0_3):=(bc_ BK243.out 3).trans rfl;have hcz38_4:w36.cell? ⟨gb243,4,none⟩=some (.slice A0_4 l0_4.length c0_4):=(bc_ BK243.out 4).trans rfl;have hcz38_5:w36.cell? ⟨gb243,5,none⟩=some (.slice A0_5 l0_5.length c0_5):=(bc_ BK243.out 5).trans rfl;have hfz38_0:=bf_ BK243.out 0;have hfz38_1:=bf_ BK243.out 1;have hfz38_2:=bf_ BK243.out 2;have hfz38_3:=bf_ BK243.out 3;have hfz38_4:=bf_ BK243.out 4;have hfz38_5:=bf_ BK243.out 5;have hcz39_0:w36.cell? ⟨gb244,0,none⟩=some (.int .i64 a1_0):=(bc_ BK244.out 0).trans rfl;have hcz39_1:w36.cell? ⟨gb244,1,none⟩=some (.int .i64 a1_1):=(bc_ BK244.out 1).trans rfl;have hcz39_2:w36.cell? ⟨gb244,2,none⟩=some (.string a1_2):=(bc_ BK244.out 2).trans rfl;have hcz39_3:w36.cell? ⟨gb244,3,none⟩=some (.string a1_3):=(bc_ BK244.out 3).trans rfl;have hcz39_4:w36.cell? ⟨gb244,4,none⟩=some (.slice A1_4 l1_4.length c1_4):=(bc_ BK244.out 4).trans rfl;have hcz39_5:w36.cell? ⟨gb244,5,none⟩=some (.slice A1_5 l1_5.length c1_5):=(bc_ BK244.out 5).trans rfl;have hfz39_0:=bf_ BK244.out 0;have hfz39_1:=bf_ BK244.out 1;have hfz39_2:=bf_ BK244.out 2;have hfz39_3:=bf_ BK244.out 3;have hfz39_4:=bf_ BK244.out 4;have hfz39_5:=bf_ BK244.out 5))
     go_ret
     exact ⟨by first|rfl|(simp [errW_none,errW_some] <;> rfl)|(simp [*,errW_none,errW_some] <;> rfl),by repeat (first|(with_reducible first|exact HB.out|apply ba_|apply pd_|apply b1_|refine bs_ ?_ GE243.out|refine bs_ ?_ GE244.out)|exact HB.out)⟩
   ·rw [if_neg c5] at H
    have c5b0:(a0_2.toList == a1_2.toList)=false:=beq_eq_false_iff_ne.mpr c5
    have c5b1:(a0_2.toList != a1_2.toList)=true:=bne_iff_ne.mpr c5
    obtain rfl:=oi_ H
    go_enter Tryz.func15,Tryz.ntmps15
    go_wp2_with (first|((with_reducible refine gate_dst (N:=2) rfl ?_);refine box_event ?hg (N:=2) ?hd (cs:=#[.int .i64 a0_0,.int .i64 a0_1,.string a0_2,.string a0_3,.slice A0_4 l0_4.length c0_4,.slice A0_5 l0_5.length c0_5]) (t:=38) ?hr ?_;(case hd=>rfl);(case hg=>rfl);(case hr=>first|(go_simp;done)|(go_simp;rfl));intro gb243 hg w40 hbox hb;have n0_:=A_ (bp_ (by repeat (first|(with_reducible first|exact HB.out|apply ba_|apply pd_|apply b1_)|exact HB.out)) hb);have n1_:=A_ (hbox);have n2_:=A_ ((by rw [hg];exact (bz_ (by repeat (first|(with_reducible first|exact HB.out|apply ba_|apply pd_|apply b1_)|exact HB.out))):w.heap.size≤gb243));have n3_:=A_ ((by rw [hg];exact (bz_ (by repeat (first|(with_reducible first|exact HB.out|apply ba_|apply pd_|apply b1_)|exact HB.out))):w.heap.size≤gb243));clear HB;have HB:=n0_;have BK243:=n1_;have GW243:=n2_;have GE243:=n3_;clear n0_ n1_ n2_ n3_;clear hb hbox hg)|((with_reducible refine gate_dst (N:=3) rfl ?_);refine box_event ?hg (N:=3) ?hd (cs:=#[.int .i64 a1_0,.int .i64 a1_1,.string a1_2,.string a1_3,.slice A1_4 l1_4.length c1_4,.slice A1_5 l1_5.length c1_5]) (t:=38) ?hr ?_;(case hd=>rfl);(case hg=>rfl);(case hr=>first|(go_simp;done)|(go_simp;rfl));intro gb244 hg w41 hbox hb;have n0_:=A_ (kb_ (g:=gb243) (o:=.cells #[.int .i64 a0_0,.int .i64 a0_1,.string a0_2,.string a0_3,.slice A0_4 l0_4.length c0_4,.slice A0_5 l0_5.length c0_5] 38 (0,0)) (by (with_reducible repeat (first|refine kn_ ?_ _|refine kd_ ?_|refine ka_ ?_ _));exact BK243.out) hb);have n1_:=A_ (bp_ (by repeat (first|(with_reducible first|exact HB.out|apply ba_|apply pd_|apply b1_|refine bs_ ?_ GE243.out)|exact HB.out)) hb);have n2_:=A_ (hbox);have n3_:=A_ ((by rw [hg];exact (bz_ (by repeat (first|(with_reducible first|exact HB.out|apply ba_|apply pd_|apply b1_|refine bs_ ?_ GE243.out)|exact HB.out))):w.heap.size≤gb244));have n4_:=A_ ((by rw [hg];exact (bz_ (by repeat (first|(with_reducible first|exact HB.out|apply ba_|apply pd_|apply b1_|refine bs_ ?_ GE243.out)|exact HB.out))):w.heap.size≤gb244));have n5_:=A_ ((by rw [hg];exact Nat.ne_of_lt (blk_lt (g:=gb243) (o:=.cells #[.int .i64 a0_0,.int .i64 a0_1,.string a0_2,.string a0_3,.slice A0_4 l0_4.length c0_4,.slice A0_5 l0_5.length c0_5] 38 (0,0)) (by (with_reducible repeat (first|refine kn_ ?_ _|refine kd_ ?_|refine ka_ ?_ _));exact BK243.out)):gb243≠gb244));have n6_:=A_ ((by rw [hg];exact Nat.ne_of_gt (blk_lt (g:=gb243) (o:=.cells #[.int .i64 a0_0,.int .i64 a0_1,.string a0_2,.string a0_3,.slice A0_4 l0_4.length c0_4,.slice A0_5 l0_5.length c0_5] 38 (0,0)) (by (with_reducible repeat (first|refine kn_ ?_ _|refine kd_ ?_|refine ka_ ?_ _));exact BK243.out)):gb244≠gb243));clear BK243;clear HB;have BK243:=n0_;have HB:=n1_;have BK244:=n2_;have GW244:=n3_;have GE244:=n4_;have NB243_244:=n5_;have NB244_243:=n6_;clear n0_ n1_ n2_ n3_ n4_ n5_ n6_;clear hb hbox hg;have hnb42:=NB243_244.out;have hnc42:=NB244_243.out;have hcz43_0:w41.cell? ⟨gb243,0,none⟩=some (.int .i64 a0_0):=(bc_ BK243.out 0).trans rfl;have hcz43_1:w41.cell? ⟨gb243,1,none⟩=some (.int .i64 a0_1):=(bc_ BK243.out 1).trans rfl;have hcz43_2:w41.cell? ⟨gb243,2,none⟩=some (.string a0_2):=(bc_ BK243.out 2).trans rfl;have hcz43_3:w41.cell? ⟨gb243,3,none⟩=some (.string a0_3):=(bc_ BK243.out 3).trans rfl;have hcz43_4:w41.cell? ⟨gb243,4,none⟩=some (.slice A0_4 l0_4.length c0_4):=(bc_ BK243.out 4).trans rfl;have hcz43_5:w41.cell? ⟨gb243,5,none⟩=some (.slice A0_5 l0_5.length c0_5):=(bc_ BK243.out 5).trans rfl;have hfz43_0:=bf_ BK243.out 0;have hfz43_1:=bf_ BK243.out 1;have hfz43_2:=bf_ BK243.out 2;have hfz43_3:=bf_ BK243.out 3;have hfz43_4:=bf_ BK243.out 4;have hfz43_5:=bf_ BK243.out 5;have hcz44_0:w41.cell? ⟨gb244,0,none⟩=some (.int .i64 a1_0):=(bc_ BK244.out 0).trans rfl;have hcz44_1:w41.cell? ⟨gb244,1,none⟩=some (.int .i64 a1_1):=(bc_ BK244.out 1).trans rfl;have hcz44_2:w41.cell? ⟨gb244,2,none⟩=some (.string a1_2):=(bc_ BK244.out 2).trans rfl;have hcz44_3:w41.cell? ⟨gb244,3,none⟩=some (.string a1_3):=(bc_ BK244.out 3).trans rfl;have hcz44_4:w41.cell? ⟨gb244,4,none⟩=some (.slice A1_4 l1_4.length c1_4):=(bc_ BK244.out 4).trans rfl;have hcz44_5:w41.cell? ⟨gb244,5,none⟩=some (.slice A1_5 l1_5.length c1_5):=(bc_ BK244.out 5).trans rfl;have hfz44_0:=bf_ BK244.out 0;have hfz44_1:=bf_ BK244.out 1;have hfz44_2:=bf_ BK244.out 2;have hfz44_3:=bf_ BK244.out 3;have hfz44_4:=bf_ BK244.out 4;have hfz44_5:=bf_ BK244.out 5))
    go_ret
    exact ⟨by first|rfl|(simp [errW_none,errW_some] <;> rfl)|(simp [*,errW_none,errW_some] <;> rfl),by repeat (first|(with_reducible first|exact HB.out|apply ba_|apply pd_|apply b1_|refine bs_ ?_ GE243.out|refine bs_ ?_ GE244.out)|exact HB.out)⟩
  ·rw [if_neg c4] at H
   have c4b0:(a0_1 == a1_1)=false:=beq_eq_false_iff_ne.mpr c4
   have c4b1:(a0_1 != a1_1)=true:=bne_iff_ne.mpr c4
   obtain rfl:=oi_ H
   go_enter Tryz.func15,Tryz.ntmps15
   go_wp2_with (first|((with_reducible refine gate_dst (N:=2) rfl ?_);refine box_event ?hg (N:=2) ?hd (cs:=#[.int .i64 a0_0,.int .i64 a0_1,.string a0_2,.string a0_3,.slice A0_4 l0_4.length c0_4,.slice A0_5 l0_5.length c0_5]) (t:=38) ?hr ?_;(case hd=>rfl);(case hg=>rfl);(case hr=>first|(go_simp;done)|(go_simp;rfl));intro gb243 hg w45 hbox hb;have n0_:=A_ (bp_ (by repeat (first|(with_reducible first|exact HB.out|apply ba_|apply pd_|apply b1_)|exact HB.out)) hb);have n1_:=A_ (hbox);have n2_:=A_ ((by rw [hg];exact (bz_ (by repeat (first|(with_reducible first|exact HB.out|apply ba_|apply pd_|apply b1_)|exact HB.out))):w.heap.size≤gb243));have n3_:=A_ ((by rw [hg];exact (bz_ (by repeat (first|(with_reducible first|exact HB.out|apply ba_|apply pd_|apply b1_)|exact HB.out))):w.heap.size≤gb243));clear HB;have HB:=n0_;have BK243:=n1_;have GW243:=n2_;have GE243:=n3_;clear n0_ n1_ n2_ n3_;clear hb hbox hg)|((with_reducible refine gate_dst (N:=3) rfl ?_);refine box_event ?hg (N:=3) ?hd (cs:=#[.int .i64 a1_0,.int .i64 a1_1,.string a1_2,.string a1_3,.slice A1_4 l1_4.length c1_4,.slice A1_5 l1_5.length c1_5]) (t:=38) ?hr ?_;(case hd=>rfl);(case hg=>rfl);(case hr=>first|(go_simp;done)|(go_simp;rfl));intro gb244 hg w46 hbox hb;have n0_:=A_ (kb_ (g:=gb243) (o:=.cells #[.int .i64 a0_0,.int .i64 a0_1,.string a0_2,.string a0_3,.slice A0_4 l0_4.length c0_4,.slice A0_5 l0_5.length c0_5] 38 (0,0)) (by (with_reducible repeat (first|refine kn_ ?_ _|refine kd_ ?_|refine ka_ ?_ _));exact BK243.out) hb);have n1_:=A_ (bp_ (by repeat (first|(with_reducible first|exact HB.out|apply ba_|apply pd_|apply b1_|refine bs_ ?_ GE243.out)|exact HB.out)) hb);have n2_:=A_ (hbox);have n3_:=A_ ((by rw [hg];exact (bz_ (by repeat (first|(with_reducible first|exact HB.out|apply ba_|apply pd_|apply b1_|refine bs_ ?_ GE243.out)|exact HB.out))):w.heap.size≤gb244));have n4_:=A_ ((by rw [hg];exact (bz_ (by repeat (first|(with_reducible first|exact HB.out|apply ba_|apply pd_|apply b1_|refine bs_ ?_ GE243.out)|exact HB.out))):w.heap.size≤gb244));have n5_:=A_ ((by rw [hg];exact Nat.ne_of_lt (blk_lt (g:=gb243) (o:=.cells #[.int .i64 a0_0,.int .i64 a0_1,.string a0_2,.string a0_3,.slice A0_4 l0_4.length c0_4,.slice A0_5 l0_5.length c0_5] 38 (0,0)) (by (with_reducible repeat (first|refine kn_ ?_ _|refine kd_ ?_|refine ka_ ?_ _));exact BK243.out)):gb243≠gb244));have n6_:=A_ ((by rw [hg];exact Nat.ne_of_gt (blk_lt (g:=gb243) (o:=.cells #[.int .i64 a0_0,.int .i64 a0_1,.string a0_2,.string a0_3,.slice A0_4 l0_4.length c0_4,.slice A0_5 l0_5.length c0_5] 38 (0,0)) (by (with_reducible repeat (first|refine kn_ ?_ _|refine kd_ ?_|refine ka_ ?_ _));exact BK243.out)):gb244≠gb243));clear BK243;clear HB;have BK243:=n0_;have HB:=n1_;have BK244:=n2_;have GW244:=n3_;have GE244:=n4_;have NB243_244:=n5_;have NB244_243:=n6_;clear n0_ n1_ n2_ n3_ n4_ n5_ n6_;clear hb hbox hg;have hnb47:=NB243_244.out;have hnc47:=NB244_243.out;have hcz48_0:w46.cell? ⟨gb243,0,none⟩=some (.int .i64 a0_0):=(bc_ BK243.out 0).trans rfl;have hcz48_1:w46.cell? ⟨gb243,1,none⟩=some (.int .i64 a0_1):=(bc_ BK243.out 1).trans rfl;have hcz48_2:w46.cell? ⟨gb243,2,none⟩=some (.string a0_2):=(bc_ BK243.out 2).trans rfl;have hcz48_3:w46.cell? ⟨gb243,3,none⟩=some (.string a0_3):=(bc_ BK243.out 3).trans rfl;have hcz48_4:w46.cell? ⟨gb243,4,none⟩=some (.slice A0_4 l0_4.length c0_4):=(bc_ BK243.out 4).trans rfl;have hcz48_5:w46.cell? ⟨gb243,5,none⟩=some (.slice A0_5 l0_5.length c0_5):=(bc_ BK243.out 5).trans rfl;have hfz48_0:=bf_ BK243.out 0;have hfz48_1:=bf_ BK243.out 1;have hfz48_2:=bf_ BK243.out 2;have hfz48_3:=bf_ BK243.out 3;have hfz48_4:=bf_ BK243.out 4;have hfz48_5:=bf_ BK243.out 5;have hcz49_0:w46.cell? ⟨gb244,0,none⟩=some (.int .i64 a1_0):=(bc_ BK244.out 0).trans rfl;have hcz49_1:w46.cell? ⟨gb244,1,none⟩=some (.int .i64 a1_1):=(bc_ BK244.out 1).trans rfl;have hcz49_2:w46.cell? ⟨gb244,2,none⟩=some (.string a1_2):=(bc_ BK244.out 2).trans rfl;have hcz49_3:w46.cell? ⟨gb244,3,none⟩=some (.string a1_3):=(bc_ BK244.out 3).trans rfl;have hcz49_4:w46.cell? ⟨gb244,4,none⟩=some (.slice A1_4 l1_4.length c1_4):=(bc_ BK244.out 4).trans rfl;have hcz49_5:w46.cell? ⟨gb244,5,none⟩=some (.slice A1_5 l1_5.length c1_5):=(bc_ BK244.out 5).trans rfl;have hfz49_0:=bf_ BK244.out 0;have hfz49_1:=bf_ BK244.out 1;have hfz49_2:=bf_ BK244.out 2;have hfz49_3:=bf_ BK244.out 3;have hfz49_4:=bf_ BK244.out 4;have hfz49_5:=bf_ BK244.out 5))
   go_ret
   exact ⟨by first|rfl|(simp [errW_none,errW_some] <;> rfl)|(simp [*,errW_none,errW_some] <;> rfl),by repeat (first|(with_reducible first|exact HB.out|apply ba_|apply pd_|apply b1_|refine bs_ ?_ GE243.out|refine bs_ ?_ GE244.out)|exact HB.out)⟩
 ·rw [if_neg c3] at H
  have c3b0:(a0_0 == a1_0)=false:=beq_eq_false_iff_ne.mpr c3
  have c3b1:(a0_0 != a1_0)=true:=bne_iff_ne.mpr c3
  obtain rfl:=oi_ H
  go_enter Tryz.func15,Tryz.ntmps15
  go_wp2_with (first|((with_reducible refine gate_dst (N:=2) rfl ?_);refine box_event ?hg (N:=2) ?hd (cs:=#[.int .i64 a0_0,.int .i64 a0_1,.string a0_2,.string a0_3,.slice A0_4 l0_4.length c0_4,.slice A0_5 l0_5.length c0_5]) (t:=38) ?hr ?_;(case hd=>rfl);(case hg=>rfl);(case hr=>first|(go_simp;done)|(go_simp;rfl));intro gb243 hg w50 hbox hb;have n0_:=A_ (bp_ (by repeat (first|(with_reducible first|exact HB.out|apply ba_|apply pd_|apply b1_)|exact HB.out)) hb);have n1_:=A_ (hbox);have n2_:=A_ ((by rw [hg];exact (bz_ (by repeat (first|(with_reducible first|exact HB.out|apply ba_|apply pd_|apply b1_)|exact HB.out))):w.heap.size≤gb243));have n3_:=A_ ((by rw [hg];exact (bz_ (by repeat (first|(with_reducible first|exact HB.out|apply ba_|apply pd_|apply b1_)|exact HB.out))):w.heap.size≤gb243));clear HB;have HB:=n0_;have BK243:=n1_;have GW243:=n2_;have GE243:=n3_;clear n0_ n1_ n2_ n3_;clear hb hbox hg)|((with_reducible refine gate_dst (N:=3) rfl ?_);refine box_event ?hg (N:=3) ?hd (cs:=#[.int .i64 a1_0,.int .i64 a1_1,.string a1_2,.string a1_3,.slice A1_4 l1_4.length c1_4,.slice A1_5 l1_5.length c1_5]) (t:=38) ?hr ?_;(case hd=>rfl);(case hg=>rfl);(case hr=>first|(go_simp;done)|(go_simp;rfl));intro gb244 hg w51 hbox hb;have n0_:=A_ (kb_ (g:=gb243) (o:=.cells #[.int .i64 a0_0,.int .i64 a0_1,.string a0_2,.string a0_3,.slice A0_4 l0_4.length c0_4,.slice A0_5 l0_5.length c0_5] 38 (0,0)) (by (with_reducible repeat (first|refine kn_ ?_ _|refine kd_ ?_|refine ka_ ?_ _));exact BK243.out) hb);have n1_:=A_ (bp_ (by repeat (first|(with_reducible first|exact HB.out|apply ba_|apply pd_|apply b1_|refine bs_ ?_ GE243.out)|exact HB.out)) hb);have n2_:=A_ (hbox);have n3_:=A_ ((by rw [hg];exact (bz_ (by repeat (first|(with_reducible first|exact HB.out|apply ba_|apply pd_|apply b1_|refine bs_ ?_ GE243.out)|exact HB.out))):w.heap.size≤gb244));have n4_:=A_ ((by rw [hg];exact (bz_ (by repeat (first|(with_reducible first|exact HB.out|apply ba_|apply pd_|apply b1_|refine bs_ ?_ GE243.out)|exact HB.out))):w.heap.size≤gb244));have n5_:=A_ ((by rw [hg];exact Nat.ne_of_lt (blk_lt (g:=gb243) (o:=.cells #[.int .i64 a0_0,.int .i64 a0_1,.string a0_2,.string a0_3,.slice A0_4 l0_4.length c0_4,.slice A0_5 l0_5.length c0_5] 38 (0,0)) (by (with_reducible repeat (first|refine kn_ ?_ _|refine kd_ ?_|refine ka_ ?_ _));exact BK243.out)):gb243≠gb244));have n6_:=A_ ((by rw [hg];exact Nat.ne_of_gt (blk_lt (g:=gb243) (o:=.cells #[.int .i64 a0_0,.int .i64 a0_1,.string a0_2,.string a0_3,.slice A0_4 l0_4.length c0_4,.slice A0_5 l0_5.length c0_5] 38 (0,0)) (by (with_reducible repeat (first|refine kn_ ?_ _|refine kd_ ?_|refine ka_ ?_ _));exact BK243.out)):gb244≠gb243));clear BK243;clear HB;have BK243:=n0_;have HB:=n1_;have BK244:=n2_;have GW244:=n3_;have GE244:=n4_;have NB243_244:=n5_;have NB244_243:=n6_;clear n0_ n1_ n2_ n3_ n4_ n5_ n6_;clear hb hbox hg;have hnb52:=NB243_244.out;have hnc52:=NB244_243.out;have hcz53_0:w51.cell? ⟨gb243,0,none⟩=some (.int .i64 a0_0):=(bc_ BK243.out 0).trans rfl;have hcz53_1:w51.cell? ⟨gb243,1,none⟩=some (.int .i64 a0_1):=(bc_ BK243.out 1).trans rfl;have hcz53_2:w51.cell? ⟨gb243,2,none⟩=some (.string a0_2):=(bc_ BK243.out 2).trans rfl;have hcz53_3:w51.cell? ⟨gb243,3,none⟩=some (.string a0_3):=(bc_ BK243.out 3).trans rfl;have hcz53_4:w51.cell? ⟨gb243,4,none⟩=some (.slice A0_4 l0_4.length c0_4):=(bc_ BK243.out 4).trans rfl;have hcz53_5:w51.cell? ⟨gb243,5,none⟩=some (.slice A0_5 l0_5.length c0_5):=(bc_ BK243.out 5).trans rfl;have hfz53_0:=bf_ BK243.out 0;have hfz53_1:=bf_ BK243.out 1;have hfz53_2:=bf_ BK243.out 2;have hfz53_3:=bf_ BK243.out 3;have hfz53_4:=bf_ BK243.out 4;have hfz53_5:=bf_ BK243.out 5;have hcz54_0:w51.cell? ⟨gb244,0,none⟩=some (.int .i64 a1_0):=(bc_ BK244.out 0).trans rfl;have hcz54_1:w51.cell? ⟨gb244,1,none⟩=some (.int .i64 a1_1):=(bc_ BK244.out 1).trans rfl;have hcz54_2:w51.cell? ⟨gb244,2,none⟩=some (.string a1_2):=(bc_ BK244.out 2).trans rfl;have hcz54_3:w51.cell? ⟨gb244,3,none⟩=some (.string a1_3):=(bc_ BK244.out 3).trans rfl;have hcz54_4:w51.cell? ⟨gb244,4,none⟩=some (.slice A1_4 l1_4.length c1_4):=(bc_ BK244.out 4).trans rfl;have hcz54_5:w51.cell? ⟨gb244,5,none⟩=some (.slice A1_5 l1_5.length c1_5):=(bc_ BK244.out 5).trans rfl;have hfz54_0:=bf_ BK244.out 0;have hfz54_1:=bf_ BK244.out 1;have hfz54_2:=bf_ BK244.out 2;have hfz54_3:=bf_ BK244.out 3;have hfz54_4:=bf_ BK244.out 4;have hfz54_5:=bf_ BK244.out 5))
  go_ret
  exact ⟨by first|rfl|(simp [errW_none,errW_some] <;> rfl)|(simp [*,errW_none,errW_some] <;> rfl),by repeat (first|(with_reducible first|exact HB.out|apply ba_|apply pd_|apply b1_|refine bs_ ?_ GE243.out|refine bs_ ?_ GE244.out)|exact HB.out)⟩
/-! ### laws_eqNodeS: function 8 -/
def laws_eqNodeS.T6:Bool × List (List Nat × List Nat):=(true,[([],[]),([],[]),([0,1],[0,1]),([2],[2]),([],[]),([],[]),([4,5],[4,5]),([6],[6]),([3,7],[3,7]),([8],[8])])
def laws_eqNodeS.B6:List Nat:=[0,0,3,7,0,0,48,112,255,511]
theorem laws_eqNodeS.tab6:rtab .any (opsOf Tryz.f8 6)=laws_eqNodeS.T6:=by kernel_rfl
theorem laws_eqNodeS.bits6:waitsOk laws_eqNodeS.T6.2 laws_eqNodeS.B6=true:=by kernel_rfl
set_option maxHeartbeats 8000000 in
set_option maxRecDepth 100000 in
theorem laws_eqNodeS.calls (k:Nat):∀ (A0:Option Addr) (c0:Nat) (l0:List (S38)) (A1:Option Addr) (c1:Nat) (l1:List (S38)) (r:Bool) (w:World) (hr0:Kd.C k38 w A0 l0.length l0) (hc0:l0.length≤c0) (hr1:Kd.C k38 w A1 l1.length l1) (hc1:l1.length≤c1) (h:laws_eqNodeS.f k l0 l1=some r),
 Calls Tryz.prog 8 #[.slice A0 l0.length c0,.slice A1 l1.length c1] w fun e w'=>e=.returned (.bool r)∧Below w.heap.size w w':=by
 induction k using Nat.strongRecOn with
 | _ k ih =>
 have ihP:∀ j,j<k→∀ (a0_0:Int) (a0_1:Int) (a0_2:ByteArray) (a0_3:ByteArray) (A0_4:Option Addr) (c0_4:Nat) (l0_4:List (S63)) (A0_5:Option Addr) (c0_5:Nat) (l0_5:List (S38)) (a1_0:Int) (a1_1:Int) (a1_2:ByteArray) (a1_3:ByteArray) (A1_4:Option Addr) (c1_4:Nat) (l1_4:List (S63)) (A1_5:Option Addr) (c1_5:Nat) (l1_5:List (S38)) (r:Bool) (w:World) (hr0_4:Kd.C k63 w A0_4 l0_4.length l0_4) (hc0_4:l0_4.length≤c0_4) (hr0_5:Kd.C k38 w A0_5 l0_5.length l0_5) (hc0_5:l0_5.length≤c0_5) (hr1_4:Kd.C k63 w A1_4 l1_4.length l1_4) (hc1_4:l1_4.length≤c1_4) (hr1_5:Kd.C k38 w A1_5 l1_5.length l1_5) (hc1_5:l1_5.length≤c1_5) (h:laws_eqNode.f j a0_0 a0_1 a0_2 a0_3 l0_4 l0_5 a1_0 a1_1 a1_2 a1_3 l1_4 l1_5=some r),
  Calls Tryz.prog 15 #[.agg #[.int .i64 a0_0,.int .i64 a0_1,.string a0_2,.string a0_3,.slice A0_4 l0_4.length c0_4,.slice A0_5 l0_5.length c0_5],.agg #[.int .i64 a1_0,.int .i64 a1_1,.string a1_2,.string a1_3,.slice A1_4 l1_4.length c1_4,.slice A1_5 l1_5.length c1_5]] w fun e w'=>e=.returned (.bool r)∧Below w.heap.size w w':=fun j hj=>laws_eqNode.step j (fun i hi=>ih i (Nat.lt_trans hi hj))
 intro A0 c0 l0 A1 c1 l1 r w hr0 hc0 hr1 hc1 h
 cases k with
 | zero=>exact absurd h (by simp [laws_eqNodeS.f])
 | succ k =>
 simp only [laws_eqNodeS.f] at h
 have hu38:=Tryz.underlying38
 have HR0:=A_ hr0
 have HC0:=A_ hc0
 clear hr0 hc0
 have HR1:=A_ hr1
 have HC1:=A_ hc1
 clear hr1 hc1
 have HB:=A_ (Below.refl w.heap.size w)
 have H:(if (l0.length:Int)=(l1.length:Int) then (laws_eqNodeS.l0 k l0 l1 0) else (some false))=some r:=h
 clear h
 by_cases c3:(l0.length:Int)=(l1.length:Int)
 ·rw [if_pos c3] at H
  have c3b0:((l0.length:Int) == (l1.length:Int))=true:=beq_iff_eq.mpr c3
  have c3b1:((l0.length:Int) != (l1.length:Int))=false:=bne_eq_false_iff_eq.mpr c3
  have c3b2:(l0.length == l1.length)=true:=by first|simpa using c3|(simp at c3 ⊢;omega)
  clear c3
  have H':=A_ H
  clear H
  go_enter Tryz.func8,Tryz.ntmps8
  go_wp2
  go_loopg [5] k (fun kq v5 w'=>∃ (x5_1:Int),v5=.int .i64 x5_1∧Aside0 (laws_eqNodeS.l0 kq l0 l1 x5_1=some r)∧Aside0 (kq≤k)∧Aside0 (Below w.heap.size w w'))
  case atStart=>exact ⟨(0),(by first|rfl|(simp;done)|(simp [*];done)),H',⟨Nat.le_refl _⟩,⟨by repeat (first|(with_reducible first|exact HB.out|apply ba_|apply pd_|apply b1_)|exact HB.out)⟩⟩
  case round =>
   clear H'
   try clear c1
   try clear p2
   try clear c3
   try clear c3b0
   try clear c3b1
   try clear c3b2
   obtain ⟨x5_1,rfl,HA,HK1,HB⟩:=hrel
   cases gk with
   | zero=>exact absurd HA.out (by simp [laws_eqNodeS.l0])
   | succ k1 =>
    have H:=HA.out
    clear HA
    simp only [laws_eqNodeS.l0] at H
    by_cases c4:x5_1<(l0.length:Int)
    ·rw [if_pos c4] at H
     have c4b0:decide (x5_1<(l0.length:Int))=true:=dt_ c4
     clear c4
     by_cases c5:0≤x5_1
     ·rw [if_pos c5] at H
      have c5b0:decide (0≤x5_1)=true:=dt_ c5
      clear c5
      by_cases c6:x5_1<(l1.length:Int)
      ·rw [if_pos c6] at H
       have c6b0:decide (x5_1<(l1.length:Int))=true:=dt_ c6
       clear c6
       replace H:=ob_ H
       obtain ⟨t249,A70,H⟩:=H
       replace H:(if t249=true then (laws_eqNodeS.l0 k1 l0 l1 (wrap64 (x5_1+1))) else (some false))=some r:=H
       have A7:=A_ A70
       clear A70
       by_cases c8:t249=true
       ·subst c8
        have H1:(laws_eqNodeS.l0 k1 l0 l1 (wrap64 (x5_1+1)))=some r:=by rw [if_pos rfl] at H;exact H
        clear H
        have H:=H1
        clear H1
        have H':=A_ H
        clear H
        try go_wp2
        have n0_:=A_ (b1_ HB.out)
        clear HB
        have HB:=n0_
        clear n0_
        have p247:0≤(x5_1:Int):=od_ (by first|(with_reducible assumption)|assumption)
        have q247:x5_1<(l0.length:Int):=od_ (by first|(with_reducible assumption)|assumption)
        obtain ⟨ad247,A247_4,c247_4,A247_5,c247_5,e247,hx247_0,hx247_1,hx247_2,hx247_3,hx247_4,hx247_5,hl247_4,hi247_4,hl247_5,hi247_5⟩:=at_T38 HR0.out x5_1 p247 q247
        have hw247_5:=hx247_5
        have hw247_4:=hx247_4
        have hw247_3:=hx247_3
        have hw247_2:=hx247_2
        have hw247_1:=hx247_1
        have hw247_0:=hx247_0
        cases e247
        replace hx247_0:=(HB.out.cell (bl_ w _ hx247_0)).trans hx247_0
        replace hx247_1:=(HB.out.cell (bl_ w _ hx247_1)).trans hx247_1
        replace hx247_2:=(HB.out.cell (bl_ w _ hx247_2)).trans hx247_2
        replace hx247_3:=(HB.out.cell (bl_ w _ hx247_3)).trans hx247_3
        replace hx247_4:=(HB.out.cell (bl_ w _ hx247_4)).trans hx247_4
        replace hx247_5:=(HB.out.cell (bl_ w _ hx247_5)).trans hx247_5
        have HR247_4:=A_ hi247_4
        have HC247_4:=A_ hl247_4
        clear hi247_4 hl247_4
        have HR247_5:=A_ hi247_5
        have HC247_5:=A_ hl247_5
        clear hi247_5 hl247_5
        replace p247:=eq_true p247
        replace q247:=eq_true q247
        have p248:0≤(x5_1:Int):=od_ (by first|(with_reducible assumption)|assumption)
        have q248:x5_1<(l1.length:Int):=od_ (by first|(with_reducible assumption)|assumption)
        obtain ⟨ad248,A248_4,c248_4,A248_5,c248_5,e248,hx248_0,hx248_1,hx248_2,hx248_3,hx248_4,hx248_5,hl248_4,hi248_4,hl248_5,hi248_5⟩:=at_T38 HR1.out x5_1 p248 q248
        have hw248_5:=hx248_5
        have hw248_4:=hx248_4
        have hw248_3:=hx248_3
        have hw248_2:=hx248_2
        have hw248_1:=hx248_1
        have hw248_0:=hx248_0
        cases e248
        replace hx248_0:=(HB.out.cell (bl_ w _ hx248_0)).trans hx248_0
        replace hx248_1:=(HB.out.cell (bl_ w _ hx248_1)).trans hx248_1
        replace hx248_2:=(HB.out.cell (bl_ w _ hx248_2)).trans hx248_2
        replace hx248_3:=(HB.out.cell (bl_ w _ hx248_3)).trans hx248_3
        replace hx248_4:=(HB.out.cell (bl_ w _ hx248_4)).trans hx248_4
        replace hx248_5:=(HB.out.cell (bl_ w _ hx248_5)).trans hx248_5
        have HR248_4:=A_ hi248_4
        have HC248_4:=A_ hl248_4
        clear hi248_4 hl248_4
        have HR248_5:=A_ hi248_5
        have HC248_5:=A_ hl248_5
        clear hi248_5 hl248_5
        replace p248:=eq_true p248
        replace q248:=eq_true q248
        refine start_ (n:=10) (S:=fun w'=>w'.cell? (ad247.add ((x5_1).toNat * 6))=some (.int .i64 ((rd_T38 l0 x5_1).f0))∧w'.cell? ⟨(ad247.add ((x5_1).toNat * 6)).block,(ad247.add ((x5_1).toNat * 6)).off+1,none⟩=some (.int .i64 ((rd_T38 l0 x5_1).f1))∧w'.cell? ⟨(ad247.add ((x5_1).toNat * 6)).block,(ad247.add ((x5_1).toNat * 6)).off+2,none⟩=some (.string ((rd_T38 l0 x5_1).f2))∧w'.cell? ⟨(ad247.add ((x5_1).toNat * 6)).block,(ad247.add ((x5_1).toNat * 6)).off+3,none⟩=some (.string ((rd_T38 l0 x5_1).f3))∧w'.cell? ⟨(ad247.add ((x5_1).toNat * 6)).block,(ad247.add ((x5_1).toNat * 6)).off+4,none⟩=some (.slice A247_4 ((rd_T38 l0 x5_1).f4).length c247_4)∧w'.cell? ⟨(ad247.add ((x5_1).toNat * 6)).block,(ad247.add ((x5_1).toNat * 6)).off+5,none⟩=some (.slice A247_5 ((rd_T38 l0 x5_1).f5).length c247_5)∧w'.cell? (ad248.add ((x5_1).toNat * 6))=some (.int .i64 ((rd_T38 l1 x5_1).f0))∧w'.cell? ⟨(ad248.add ((x5_1).toNat * 6)).block,(ad248.add ((x5_1).toNat * 6)).off+1,none⟩=some (.int .i64 ((rd_T38 l1 x5_1).f1))∧w'.cell? ⟨(ad248.add ((x5_1).toNat * 6)).block,(ad248.add ((x5_1).toNat * 6)).off+2,none⟩=some (.string ((rd_T38 l1 x5_1).f2))∧w'.cell? ⟨(ad248.add ((x5_1).toNat * 6)).block,(ad248.add ((x5_1).toNat * 6)).off+3,none⟩=some (.string ((rd_T38 l1 x5_1).f3))∧w'.cell? ⟨(ad248.add ((x5_1).toNat * 6)).block,(ad248.add ((x5_1).toNat * 6)).off+4,none⟩=some (.slice A248_4 ((rd_T38 l1 x5_1).f4).length c248_4)∧w'.cell? ⟨(ad248.add ((x5_1).toNat * 6)).block,(ad248.add ((x5_1).toNat * 6)).off+5,none⟩=some (.slice A248_5 ((rd_T38 l1 x5_1).f5).length c248_5)) (ds:=[]) #[F_,F_,F_,F_,F_,F_,F_,F_,F_,F_] (by kernel_rfl) rfl rfl ⟨((HB.out.cell (bl_ w _ hw247_0)).trans hw247_0),((HB.out.cell (bl_ w _ hw247_1)).trans hw247_1),((HB.out.cell (bl_ w _ hw247_2)).trans hw247_2),((HB.out.cell (bl_ w _ hw247_3)).trans hw247_3),((HB.out.cell (bl_ w _ hw247_4)).trans hw247_4),((HB.out.cell (bl_ w _ hw247_5)).trans hw247_5),((HB.out.cell (bl_ w _ hw248_0)).trans hw248_0),((HB.out.cell (bl_ w _ hw248_1)).trans hw248_1),((HB.out.cell (bl_ w _ hw248_2)).trans hw248_2),((HB.out.cell (bl_ w _ hw248_3)).trans hw248_3),((HB.out.cell (bl_ w _ hw248_4)).trans hw248_4),((HB.out.cell (bl_ w _ hw248_5)).trans hw248_5)⟩ (fun hHeld=>?_);refine with_tabW laws_eqNodeS.tab6 laws_eqNodeS.bits6 (fun HT_ HW_=>?_)
        generalize wr.drew=w9 at HB HR247_4 HR247_5 HR248_4 HR248_5 hx247_0 hx247_1 hx247_2 hx247_3 hx247_4 hx247_5 hx248_0 hx248_1 hx248_2 hx248_3 hx248_4 hx248_5 hHeld ⊢
        refine pure_ (i:=0) (N:=some 17) (v:=?_) (a':=?_) #[T_,F_,F_,F_,F_,F_,F_,F_,F_,F_] rfl rfl (any_of HT_.out (by kernel_rfl)) (fun _ _ _ h=>h) (Or.inl ⟨by rfl,?_⟩) ?_ ?_
        rotate_left
        ·intro w'
         go_simp
         with_reducible rfl
        rotate_left
        ·simp only [Act.put,ls_,lz_,lc_,i64_w,i32_w]
         rfl
        refine pure_ (i:=1) (N:=some 18) (v:=?_) (a':=?_) #[T_,T_,F_,F_,F_,F_,F_,F_,F_,F_] rfl rfl (any_of HT_.out (by kernel_rfl)) (fun _ _ _ h=>h) (Or.inl ⟨by rfl,?_⟩) ?_ ?_
        rotate_left
        ·intro w'
         go_simp
         with_reducible rfl
        rotate_left
        ·simp only [Act.put,ls_,lz_,lc_,i64_w,i32_w]
         rfl
        refine pure_ (i:=2) (N:=some 19) (v:=?_) (a':=?_) #[T_,T_,T_,F_,F_,F_,F_,F_,F_,F_] rfl rfl (any_of HT_.out (by kernel_rfl)) (fun _ _ _ h=>h) (Or.inl ⟨by rfl,?_⟩) ?_ ?_
        rotate_left
        ·intro w'
         go_simp
         with_reducible rfl
        rotate_left
        ·simp only [Act.put,ls_,lz_,lc_,i64_w,i32_w]
         rfl
        refine pure_ (i:=4) (N:=some 21) (v:=?_) (a':=?_) #[T_,T_,T_,F_,T_,F_,F_,F_,F_,F_] rfl rfl (any_of HT_.out (by kernel_rfl)) (fun _ _ _ h=>h) (Or.inl ⟨by rfl,?_⟩) ?_ ?_
        rotate_left
        ·intro w'
         go_simp
         with_reducible rfl
        rotate_left
        ·simp only [Act.put,ls_,lz_,lc_,i64_w,i32_w]
         rfl
        refine pure_ (i:=5) (N:=some 22) (v:=?_) (a':=?_) #[T_,T_,T_,F_,T_,T_,F_,F_,F_,F_] rfl rfl (any_of HT_.out (by kernel_rfl)) (fun _ _ _ h=>h) (Or.inl ⟨by rfl,?_⟩) ?_ ?_
        rotate_left
        ·intro w'
         go_simp
         with_reducible rfl
        rotate_left
        ·simp only [Act.put,ls_,lz_,lc_,i64_w,i32_w]
         rfl
        refine pure_ (i:=6) (N:=some 23) (v:=?_) (a':=?_) #[T_,T_,T_,F_,T_,T_,T_,F_,F_,F_] rfl rfl (any_of HT_.out (by kernel_rfl)) (fun _ _ _ h=>h) (Or.inl ⟨by rfl,?_⟩) ?_ ?_
        rotate_left
        ·intro w'
         go_simp
         with_reducible rfl
        rotate_left
        ·simp only [Act.put,ls_,lz_,lc_,i64_w,i32_w]
         rfl
        refine take_ (i:=3) (N:=some 20) (v:=?_) (a':=?_) #[T_,T_,T_,T_,T_,T_,T_,F_,F_,F_] rfl rfl (take_ofW HT_.out HW_.out (by kernel_rfl)) (fun _ _ _ h=>h) (Or.inl ⟨by rfl,?_⟩) hHeld ?_ ?_
        rotate_left
        ·rintro w' ⟨s0,s1,s2,s3,s4,s5,s6,s7,s8,s9,s10,s11⟩
         go_simp
         with_reducible rfl
        rotate_left
        ·simp only [Act.put,ls_,lz_,lc_,i64_w,i32_w]
         rfl
        refine take_ (i:=7) (N:=some 24) (v:=?_) (a':=?_) #[T_,T_,T_,T_,T_,T_,T_,T_,F_,F_] rfl rfl (take_ofW HT_.out HW_.out (by kernel_rfl)) (fun _ _ _ h=>h) (Or.inl ⟨by rfl,?_⟩) hHeld ?_ ?_
        rotate_left
        ·rintro w' ⟨s0,s1,s2,s3,s4,s5,s6,s7,s8,s9,s10,s11⟩
         go_simp
         with_reducible rfl
        rotate_left
        ·simp only [Act.put,ls_,lz_,lc_,i64_w,i32_w]
         rfl
        refine one_ (i:=8) (N:=some 25) #[T_,T_,T_,T_,T_,T_,T_,T_,T_,F_] rfl rfl (one_of HT_.out (by kernel_rfl)) (by decide) (fun K hK=>?_)
        refine goes_ Tryz.func15 (by kernel_rfl) rfl #[.agg #[.int .i64 ((rd_T38 l0 x5_1).f0),.int .i64 ((rd_T38 l0 x5_1).f1),.string ((rd_T38 l0 x5_1).f2),.string ((rd_T38 l0 x5_1).f3),.slice A247_4 ((rd_T38 l0 x5_1).f4).length c247_4,.slice A247_5 ((rd_T38 l0 x5_1).f5).length c247_5],.agg #[.int .i64 ((rd_T38 l1 x5_1).f0),.int .i64 ((rd_T38 l1 x5_1).f1),.string ((rd_T38 l1 x5_1).f2),.string ((rd_T38 l1 x5_1).f3),.slice A248_4 ((rd_T38 l1 x5_1).f4).length c248_4,.slice A248_5 ((rd_T38 l1 x5_1).f5).length c248_5]] (by rfl) rfl rfl (by (try simp only [List.map_toArray,List.map_cons,List.map_nil]);first|done|rfl|(simp only [ld_,lt_];rfl)) ?_
        with_reducible refine (ihP k1 (by have:=HK1.out;omega) ((rd_T38 l0 x5_1).f0) ((rd_T38 l0 x5_1).f1) ((rd_T38 l0 x5_1).f2) ((rd_T38 l0 x5_1).f3) _ _ ((rd_T38 l0 x5_1).f4) _ _ ((rd_T38 l0 x5_1).f5) ((rd_T38 l1 x5_1).f0) ((rd_T38 l1 x5_1).f1) ((rd_T38 l1 x5_1).f2) ((rd_T38 l1 x5_1).f3) _ _ ((rd_T38 l1 x5_1).f4) _ _ ((rd_T38 l1 x5_1).f5) true _ ?side1 ?side2 ?side3 ?side4 ?side5 ?side6 ?side7 ?side8 A7.out).mono ?_
        (case side1=>repeat (first|exact (cb_ HR247_4.out HB.out)|(with_reducible refine ca_ ?_ _)|(with_reducible refine cn_ ?_ _)|(with_reducible refine cd_ ?_)))
        (case side2=>exact HC247_4.out)
        (case side3=>repeat (first|exact (cb_ HR247_5.out HB.out)|(with_reducible refine ca_ ?_ _)|(with_reducible refine cn_ ?_ _)|(with_reducible refine cd_ ?_)))
        (case side4=>exact HC247_5.out)
        (case side5=>repeat (first|exact (cb_ HR248_4.out HB.out)|(with_reducible refine ca_ ?_ _)|(with_reducible refine cn_ ?_ _)|(with_reducible refine cd_ ?_)))
        (case side6=>exact HC248_4.out)
        (case side7=>repeat (first|exact (cb_ HR248_5.out HB.out)|(with_reducible refine ca_ ?_ _)|(with_reducible refine cn_ ?_ _)|(with_reducible refine cd_ ?_)))
        (case side8=>exact HC248_5.out)
        rintro e w10 ⟨rfl,hb⟩
        refine ⟨_,rfl,?_⟩
        have n0_:=A_ (bp_ (by repeat (first|(with_reducible first|exact HB.out|apply ba_|apply pd_|apply b1_)|exact HB.out)) hb)
        clear HB
        have HB:=n0_
        clear n0_
        (try clear hb)
        (try clear hb2)
        (try clear hk)
        (try clear hi)
        refine hK.out _ _ ⟨((HB.out.cell (bl_ w _ hw247_0)).trans hw247_0),((HB.out.cell (bl_ w _ hw247_1)).trans hw247_1),((HB.out.cell (bl_ w _ hw247_2)).trans hw247_2),((HB.out.cell (bl_ w _ hw247_3)).trans hw247_3),((HB.out.cell (bl_ w _ hw247_4)).trans hw247_4),((HB.out.cell (bl_ w _ hw247_5)).trans hw247_5),((HB.out.cell (bl_ w _ hw248_0)).trans hw248_0),((HB.out.cell (bl_ w _ hw248_1)).trans hw248_1),((HB.out.cell (bl_ w _ hw248_2)).trans hw248_2),((HB.out.cell (bl_ w _ hw248_3)).trans hw248_3),((HB.out.cell (bl_ w _ hw248_4)).trans hw248_4),((HB.out.cell (bl_ w _ hw248_5)).trans hw248_5)⟩ (fun hHeld=>?_)
        clear hK K
        refine norm_ (a':=?_) ?_ ?_
        rotate_left
        ·show Act.put _ (some 25) _=_
         simp only [Act.put,ls_,lz_,lc_,i64_w,i32_w]
         rfl
        refine pure_ (i:=9) (N:=some 26) (v:=?_) (a':=?_) #[T_,T_,T_,T_,T_,T_,T_,T_,T_,T_] rfl rfl (any_of HT_.out (by kernel_rfl)) (fun _ _ _ h=>h) (Or.inl ⟨by rfl,?_⟩) ?_ ?_
        rotate_left
        ·intro w'
         go_simp
         with_reducible rfl
        rotate_left
        ·simp only [Act.put,ls_,lz_,lc_,i64_w,i32_w]
         rfl
        refine done_ (done_of HT_.out (by kernel_rfl)) ?_
        try go_wp2
        go_roundg k1
        case measure=>have:=HK1.out;omega
        case rel=>exact ⟨(wrap64 (x5_1+1)),(by first|rfl|(simp;done)|(simp [*];done)),H',⟨by have:=HK1.out;omega⟩,⟨by repeat (first|(with_reducible first|exact HB.out|apply ba_|apply pd_|apply b1_)|exact HB.out)⟩⟩
       ·replace c8:=bm_ c8
        subst c8
        have H1:(some false)=some r:=by rw [if_neg (show ¬ (false=true) by decide)] at H;exact H
        clear H
        have H:=H1
        clear H1
        obtain rfl:=oi_ H
        try go_wp2
        have n0_:=A_ (b1_ HB.out)
        clear HB
        have HB:=n0_
        clear n0_
        have p247:0≤(x5_1:Int):=od_ (by first|(with_reducible assumption)|assumption)
        have q247:x5_1<(l0.length:Int):=od_ (by first|(with_reducible assumption)|assumption)
        obtain ⟨ad247,A247_4,c247_4,A247_5,c247_5,e247,hx247_0,hx247_1,hx247_2,hx247_3,hx247_4,hx247_5,hl247_4,hi247_4,hl247_5,hi247_5⟩:=at_T38 HR0.out x5_1 p247 q247
        have hw247_5:=hx247_5
        have hw247_4:=hx247_4
        have hw247_3:=hx247_3
        have hw247_2:=hx247_2
        have hw247_1:=hx247_1
        have hw247_0:=hx247_0
        cases e247
        replace hx247_0:=(HB.out.cell (bl_ w _ hx247_0)).trans hx247_0
        replace hx247_1:=(HB.out.cell (bl_ w _ hx247_1)).trans hx247_1
        replace hx247_2:=(HB.out.cell (bl_ w _ hx247_2)).trans hx247_2
        replace hx247_3:=(HB.out.cell (bl_ w _ hx247_3)).trans hx247_3
        replace hx247_4:=(HB.out.cell (bl_ w _ hx247_4)).trans hx247_4
        replace hx247_5:=(HB.out.cell (bl_ w _ hx247_5)).trans hx247_5
        have HR247_4:=A_ hi247_4
        have HC247_4:=A_ hl247_4
        clear hi247_4 hl247_4
        have HR247_5:=A_ hi247_5
        have HC247_5:=A_ hl247_5
        clear hi247_5 hl247_5
        replace p247:=eq_true p247
        replace q247:=eq_true q247
        have p248:0≤(x5_1:Int):=od_ (by first|(with_reducible assumption)|assumption)
        have q248:x5_1<(l1.length:Int):=od_ (by first|(with_reducible assumption)|assumption)
        obtain ⟨ad248,A248_4,c248_4,A248_5,c248_5,e248,hx248_0,hx248_1,hx248_2,hx248_3,hx248_4,hx248_5,hl248_4,hi248_4,hl248_5,hi248_5⟩:=at_T38 HR1.out x5_1 p248 q248
        have hw248_5:=hx248_5
        have hw248_4:=hx248_4
        have hw248_3:=hx248_3
        have hw248_2:=hx248_2
        have hw248_1:=hx248_1
        have hw248_0:=hx248_0
        cases e248
        replace hx248_0:=(HB.out.cell (bl_ w _ hx248_0)).trans hx248_0
        replace hx248_1:=(HB.out.cell (bl_ w _ hx248_1)).trans hx248_1
        replace hx248_2:=(HB.out.cell (bl_ w _ hx248_2)).trans hx248_2
        replace hx248_3:=(HB.out.cell (bl_ w _ hx248_3)).trans hx248_3
        replace hx248_4:=(HB.out.cell (bl_ w _ hx248_4)).trans hx248_4
        replace hx248_5:=(HB.out.cell (bl_ w _ hx248_5)).trans hx248_5
        have HR248_4:=A_ hi248_4
        have HC248_4:=A_ hl248_4
        clear hi248_4 hl248_4
        have HR248_5:=A_ hi248_5
        have HC248_5:=A_ hl248_5
        clear hi248_5 hl248_5
        replace p248:=eq_true p248
        replace q248:=eq_true q248
        refine start_ (n:=10) (S:=fun w'=>w'.cell? (ad247.add ((x5_1).toNat * 6))=some (.int .i64 ((rd_T38 l0 x5_1).f0))∧w'.cell? ⟨(ad247.add ((x5_1).toNat * 6)).block,(ad247.add ((x5_1).toNat * 6)).off+1,none⟩=some (.int .i64 ((rd_T38 l0 x5_1).f1))∧w'.cell? ⟨(ad247.add ((x5_1).toNat * 6)).block,(ad247.add ((x5_1).toNat * 6)).off+2,none⟩=some (.string ((rd_T38 l0 x5_1).f2))∧w'.cell? ⟨(ad247.add ((x5_1).toNat * 6)).block,(ad247.add ((x5_1).toNat * 6)).off+3,none⟩=some (.string ((rd_T38 l0 x5_1).f3))∧w'.cell? ⟨(ad247.add ((x5_1).toNat * 6)).block,(ad247.add ((x5_1).toNat * 6)).off+4,none⟩=some (.slice A247_4 ((rd_T38 l0 x5_1).f4).length c247_4)∧w'.cell? ⟨(ad247.add ((x5_1).toNat * 6)).block,(ad247.add ((x5_1).toNat * 6)).off+5,none⟩=some (.slice A247_5 ((rd_T38 l0 x5_1).f5).length c247_5)∧w'.cell? (ad248.add ((x5_1).toNat * 6))=some (.int .i64 ((rd_T38 l1 x5_1).f0))∧w'.cell? ⟨(ad248.add ((x5_1).toNat * 6)).block,(ad248.add ((x5_1).toNat * 6)).off+1,none⟩=some (.int .i64 ((rd_T38 l1 x5_1).f1))∧w'.cell? ⟨(ad248.add ((x5_1).toNat * 6)).block,(ad248.add ((x5_1).toNat * 6)).off+2,none⟩=some (.string ((rd_T38 l1 x5_1).f2))∧w'.cell? ⟨(ad248.add ((x5_1).toNat * 6)).block,(ad248.add ((x5_1).toNat * 6)).off+3,none⟩=some (.string ((rd_T38 l1 x5_1).f3))∧w'.cell? ⟨(ad248.add ((x5_1).toNat * 6)).block,(ad248.add ((x5_1).toNat * 6)).off+4,none⟩=some (.slice A248_4 ((rd_T38 l1 x5_1).f4).length c248_4)∧w'.cell? ⟨(ad248.add ((x5_1).toNat * 6)).block,(ad248.add ((x5_1).toNat * 6)).off+5,none⟩=some (.slice A248_5 ((rd_T38 l1 x5_1).f5).length c248_5)) (ds:=[]) #[F_,F_,F_,F_,F_,F_,F_,F_,F_,F_] (by kernel_rfl) rfl rfl ⟨((HB.out.cell (bl_ w _ hw247_0)).trans hw247_0),((HB.out.cell (bl_ w _ hw247_1)).trans hw247_1),((HB.out.cell (bl_ w _ hw247_2)).trans hw247_2),((HB.out.cell (bl_ w _ hw247_3)).trans hw247_3),((HB.out.cell (bl_ w _ hw247_4)).trans hw247_4),((HB.out.cell (bl_ w _ hw247_5)).trans hw247_5),((HB.out.cell (bl_ w _ hw248_0)).trans hw248_0),((HB.out.cell (bl_ w _ hw248_1)).trans hw248_1),((HB.out.cell (bl_ w _ hw248_2)).trans hw248_2),((HB.out.cell (bl_ w _ hw248_3)).trans hw248_3),((HB.out.cell (bl_ w _ hw248_4)).trans hw248_4),((HB.out.cell (bl_ w _ hw248_5)).trans hw248_5)⟩ (fun hHeld=>?_);refine with_tabW laws_eqNodeS.tab6 laws_eqNodeS.bits6 (fun HT_ HW_=>?_)
        generalize wr.drew=w11 at HB HR247_4 HR247_5 HR248_4 HR248_5 hx247_0 hx247_1 hx247_2 hx247_3 hx247_4 hx247_5 hx248_0 hx248_1 hx248_2 hx248_3 hx248_4 hx248_5 hHeld ⊢
        refine pure_ (i:=0) (N:=some 17) (v:=?_) (a':=?_) #[T_,F_,F_,F_,F_,F_,F_,F_,F_,F_] rfl rfl (any_of HT_.out (by kernel_rfl)) (fun _ _ _ h=>h) (Or.inl ⟨by rfl,?_⟩) ?_ ?_
        rotate_left
        ·intro w'
         go_simp
         with_reducible rfl
        rotate_left
        ·simp only [Act.put,ls_,lz_,lc_,i64_w,i32_w]
         rfl
        refine pure_ (i:=1) (N:=some 18) (v:=?_) (a':=?_) #[T_,T_,F_,F_,F_,F_,F_,F_,F_,F_] rfl rfl (any_of HT_.out (by kernel_rfl)) (fun _ _ _ h=>h) (Or.inl ⟨by rfl,?_⟩) ?_ ?_
        rotate_left
        ·intro w'
         go_simp
         with_reducible rfl
        rotate_left
        ·simp only [Act.put,ls_,lz_,lc_,i64_w,i32_w]
         rfl
        refine pure_ (i:=2) (N:=some 19) (v:=?_) (a':=?_) #[T_,T_,T_,F_,F_,F_,F_,F_,F_,F_] rfl rfl (any_of HT_.out (by kernel_rfl)) (fun _ _ _ h=>h) (Or.inl ⟨by rfl,?_⟩) ?_ ?_
        rotate_left
        ·intro w'
         go_simp
         with_reducible rfl
        rotate_left
        ·simp only [Act.put,ls_,lz_,lc_,i64_w,i32_w]
         rfl
        refine pure_ (i:=4) (N:=some 21) (v:=?_) (a':=?_) #[T_,T_,T_,F_,T_,F_,F_,F_,F_,F_] rfl rfl (any_of HT_.out (by kernel_rfl)) (fun _ _ _ h=>h) (Or.inl ⟨by rfl,?_⟩) ?_ ?_
        rotate_left
        ·intro w'
         go_simp
         with_reducible rfl
        rotate_left
        ·simp only [Act.put,ls_,lz_,lc_,i64_w,i32_w]
         rfl
        refine pure_ (i:=5) (N:=some 22) (v:=?_) (a':=?_) #[T_,T_,T_,F_,T_,T_,F_,F_,F_,F_] rfl rfl (any_of HT_.out (by kernel_rfl)) (fun _ _ _ h=>h) (Or.inl ⟨by rfl,?_⟩) ?_ ?_
        rotate_left
        ·intro w'
         go_simp
         with_reducible rfl
        rotate_left
        ·simp only [Act.put,ls_,lz_,lc_,i64_w,i32_w]
         rfl
        refine pure_ (i:=6) (N:=some 23) (v:=?_) (a':=?_) #[T_,T_,T_,F_,T_,T_,T_,F_,F_,F_] rfl rfl (any_of HT_.out (by kernel_rfl)) (fun _ _ _ h=>h) (Or.inl ⟨by rfl,?_⟩) ?_ ?_
        rotate_left
        ·intro w'
         go_simp
         with_reducible rfl
        rotate_left
        ·simp only [Act.put,ls_,lz_,lc_,i64_w,i32_w]
         rfl
        refine take_ (i:=3) (N:=some 20) (v:=?_) (a':=?_) #[T_,T_,T_,T_,T_,T_,T_,F_,F_,F_] rfl rfl (take_ofW HT_.out HW_.out (by kernel_rfl)) (fun _ _ _ h=>h) (Or.inl ⟨by rfl,?_⟩) hHeld ?_ ?_
        rotate_left
        ·rintro w' ⟨s0,s1,s2,s3,s4,s5,s6,s7,s8,s9,s10,s11⟩
         go_simp
         with_reducible rfl
        rotate_left
        ·simp only [Act.put,ls_,lz_,lc_,i64_w,i32_w]
         rfl
        refine take_ (i:=7) (N:=some 24) (v:=?_) (a':=?_) #[T_,T_,T_,T_,T_,T_,T_,T_,F_,F_] rfl rfl (take_ofW HT_.out HW_.out (by kernel_rfl)) (fun _ _ _ h=>h) (Or.inl ⟨by rfl,?_⟩) hHeld ?_ ?_
        rotate_left
        ·rintro w' ⟨s0,s1,s2,s3,s4,s5,s6,s7,s8,s9,s10,s11⟩
         go_simp
         with_reducible rfl
        rotate_left
        ·simp only [Act.put,ls_,lz_,lc_,i64_w,i32_w]
         rfl
        refine one_ (i:=8) (N:=some 25) #[T_,T_,T_,T_,T_,T_,T_,T_,T_,F_] rfl rfl (one_of HT_.out (by kernel_rfl)) (by decide) (fun K hK=>?_)
        refine goes_ Tryz.func15 (by kernel_rfl) rfl #[.agg #[.int .i64 ((rd_T38 l0 x5_1).f0),.int .i64 ((rd_T38 l0 x5_1).f1),.string ((rd_T38 l0 x5_1).f2),.string ((rd_T38 l0 x5_1).f3),.slice A247_4 ((rd_T38 l0 x5_1).f4).length c247_4,.slice A247_5 ((rd_T38 l0 x5_1).f5).length c247_5],.agg #[.int .i64 ((rd_T38 l1 x5_1).f0),.int .i64 ((rd_T38 l1 x5_1).f1),.string ((rd_T38 l1 x5_1).f2),.string ((rd_T38 l1 x5_1).f3),.slice A248_4 ((rd_T38 l1 x5_1).f4).length c248_4,.slice A248_5 ((rd_T38 l1 x5_1).f5).length c248_5]] (by rfl) rfl rfl (by (try simp only [List.map_toArray,List.map_cons,List.map_nil]);first|done|rfl|(simp only [ld_,lt_];rfl)) ?_
        with_reducible refine (ihP k1 (by have:=HK1.out;omega) ((rd_T38 l0 x5_1).f0) ((rd_T38 l0 x5_1).f1) ((rd_T38 l0 x5_1).f2) ((rd_T38 l0 x5_1).f3) _ _ ((rd_T38 l0 x5_1).f4) _ _ ((rd_T38 l0 x5_1).f5) ((rd_T38 l1 x5_1).f0) ((rd_T38 l1 x5_1).f1) ((rd_T38 l1 x5_1).f2) ((rd_T38 l1 x5_1).f3) _ _ ((rd_T38 l1 x5_1).f4) _ _ ((rd_T38 l1 x5_1).f5) false _ ?side1 ?side2 ?side3 ?side4 ?side5 ?side6 ?side7 ?side8 A7.out).mono ?_
        (case side1=>repeat (first|exact (cb_ HR247_4.out HB.out)|(with_reducible refine ca_ ?_ _)|(with_reducible refine cn_ ?_ _)|(with_reducible refine cd_ ?_)))
        (case side2=>exact HC247_4.out)
        (case side3=>repeat (first|exact (cb_ HR247_5.out HB.out)|(with_reducible refine ca_ ?_ _)|(with_reducible refine cn_ ?_ _)|(with_reducible refine cd_ ?_)))
        (case side4=>exact HC247_5.out)
        (case side5=>repeat (first|exact (cb_ HR248_4.out HB.out)|(with_reducible refine ca_ ?_ _)|(with_reducible refine cn_ ?_ _)|(with_reducible refine cd_ ?_)))
        (case side6=>exact HC248_4.out)
        (case side7=>repeat (first|exact (cb_ HR248_5.out HB.out)|(with_reducible refine ca_ ?_ _)|(with_reducible refine cn_ ?_ _)|(with_reducible refine cd_ ?_)))
        (case side8=>exact HC248_5.out)
        rintro e w12 ⟨rfl,hb⟩
        refine ⟨_,rfl,?_⟩
        have n0_:=A_ (bp_ (by repeat (first|(with_reducible first|exact HB.out|apply ba_|apply pd_|apply b1_)|exact HB.out)) hb)
        clear HB
        have HB:=n0_
        clear n0_
        (try clear hb)
        (try clear hb2)
        (try clear hk)
        (try clear hi)
        refine hK.out _ _ ⟨((HB.out.cell (bl_ w _ hw247_0)).trans hw247_0),((HB.out.cell (bl_ w _ hw247_1)).trans hw247_1),((HB.out.cell (bl_ w _ hw247_2)).trans hw247_2),((HB.out.cell (bl_ w _ hw247_3)).trans hw247_3),((HB.out.cell (bl_ w _ hw247_4)).trans hw247_4),((HB.out.cell (bl_ w _ hw247_5)).trans hw247_5),((HB.out.cell (bl_ w _ hw248_0)).trans hw248_0),((HB.out.cell (bl_ w _ hw248_1)).trans hw248_1),((HB.out.cell (bl_ w _ hw248_2)).trans hw248_2),((HB.out.cell (bl_ w _ hw248_3)).trans hw248_3),((HB.out.cell (bl_ w _ hw248_4)).trans hw248_4),((HB.out.cell (bl_ w _ hw248_5)).trans hw248_5)⟩ (fun hHeld=>?_)
        clear hK K
        refine norm_ (a':=?_) ?_ ?_
        rotate_left
        ·show Act.put _ (some 25) _=_
         simp only [Act.put,ls_,lz_,lc_,i64_w,i32_w]
         rfl
        refine pure_ (i:=9) (N:=some 26) (v:=?_) (a':=?_) #[T_,T_,T_,T_,T_,T_,T_,T_,T_,T_] rfl rfl (any_of HT_.out (by kernel_rfl)) (fun _ _ _ h=>h) (Or.inl ⟨by rfl,?_⟩) ?_ ?_
        rotate_left
        ·intro w'
         go_simp
         with_reducible rfl
        rotate_left
        ·simp only [Act.put,ls_,lz_,lc_,i64_w,i32_w]
         rfl
        refine done_ (done_of HT_.out (by kernel_rfl)) ?_
        try go_wp2
        go_ret
        exact ⟨by first|rfl|(simp [errW_none,errW_some] <;> rfl)|(simp [*,errW_none,errW_some] <;> rfl),by repeat (first|(with_reducible first|exact HB.out|apply ba_|apply pd_|apply b1_)|exact HB.out)⟩
      ·rw [if_neg c6] at H
       exact absurd H (by simp)
     ·rw [if_neg c5] at H
      exact absurd H (by simp)
    ·rw [if_neg c4] at H
     have c4b0:decide (x5_1<(l0.length:Int))=false:=df_ c4
     clear c4
     obtain rfl:=oi_ H
     go_wp2
     go_ret
     exact ⟨by first|rfl|(simp [errW_none,errW_some] <;> rfl)|(simp [*,errW_none,errW_some] <;> rfl),by repeat (first|(with_reducible first|exact HB.out|apply ba_|apply pd_|apply b1_)|exact HB.out)⟩
 ·rw [if_neg c3] at H
  have c3b0:((l0.length:Int) == (l1.length:Int))=false:=beq_eq_false_iff_ne.mpr c3
  have c3b1:((l0.length:Int) != (l1.length:Int))=true:=bne_iff_ne.mpr c3
  have c3b2:(l0.length == l1.length)=false:=by first|simpa using c3|(simp at c3 ⊢;omega)
  obtain rfl:=oi_ H
  go_enter Tryz.func8,Tryz.ntmps8
  go_wp2
  go_ret
  exact ⟨by first|rfl|(simp [errW_none,errW_some] <;> rfl)|(simp [*,errW_none,errW_some] <;> rfl),by repeat (first|(with_reducible first|exact HB.out|apply ba_|apply pd_|apply b1_)|exact HB.out)⟩
theorem laws_eqNode.calls (k:Nat):∀ (a0_0:Int) (a0_1:Int) (a0_2:ByteArray) (a0_3:ByteArray) (A0_4:Option Addr) (c0_4:Nat) (l0_4:List (S63)) (A0_5:Option Addr) (c0_5:Nat) (l0_5:List (S38)) (a1_0:Int) (a1_1:Int) (a1_2:ByteArray) (a1_3:ByteArray) (A1_4:Option Addr) (c1_4:Nat) (l1_4:List (S63)) (A1_5:Option Addr) (c1_5:Nat) (l1_5:List (S38)) (r:Bool) (w:World) (hr0_4:Kd.C k63 w A0_4 l0_4.length l0_4) (hc0_4:l0_4.length≤c0_4) (hr0_5:Kd.C k38 w A0_5 l0_5.length l0_5) (hc0_5:l0_5.length≤c0_5) (hr1_4:Kd.C k63 w A1_4 l1_4.length l1_4) (hc1_4:l1_4.length≤c1_4) (hr1_5:Kd.C k38 w A1_5 l1_5.length l1_5) (hc1_5:l1_5.length≤c1_5) (h:laws_eqNode.f k a0_0 a0_1 a0_2 a0_3 l0_4 l0_5 a1_0 a1_1 a1_2 a1_3 l1_4 l1_5=some r),
 Calls Tryz.prog 15 #[.agg #[.int .i64 a0_0,.int .i64 a0_1,.string a0_2,.string a0_3,.slice A0_4 l0_4.length c0_4,.slice A0_5 l0_5.length c0_5],.agg #[.int .i64 a1_0,.int .i64 a1_1,.string a1_2,.string a1_3,.slice A1_4 l1_4.length c1_4,.slice A1_5 l1_5.length c1_5]] w fun e w'=>e=.returned (.bool r)∧Below w.heap.size w w':=laws_eqNode.step k (fun j _=>laws_eqNodeS.calls j)
end Go.Proofs.YtlpncjeahdfolaaGreatDoor.PFnExactSerialize
