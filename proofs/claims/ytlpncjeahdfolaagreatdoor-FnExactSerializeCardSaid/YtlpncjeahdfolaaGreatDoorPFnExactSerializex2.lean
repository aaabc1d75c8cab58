/- By a program of this session, out of the kit's print and contracts made by hand: the machine side of a law; Lean checks it. No conditions. -/
import Derived.Test.YtlpncjeahdfolaaGreatDoorPFnExactSerializex0
import Derived.Test.YtlpncjeahdfolaaGreatDoorPFnExactSerializex1
namespace Go.Proofs.YtlpncjeahdfolaaGreatDoor.PFnExactSerialize
open Go.RowKit Go.Proofs.YtlpncjeahdfolaaGreatDoorW.PrintWords Go.Proofs.YtlpncjeahdfolaaGreatDoorW.PrintLast Go.Proofs.YtlpncjeahdfolaaGreatDoorW.PrintMore
attribute [local go_sem] max2_int min2_int max_two min_two max_three min_three max_four min_four
set_option linter.unusedVariables false
set_option linter.unusedSimpArgs false
/-! ### laws_szNode: function 9 -/
mutual
def laws_szNode.f:Nat→Int→Int→ByteArray→ByteArray→List (S60)→List (S33)→Int→Option (Int)
 | 0,_,_,_,_,_,_,_=>none
 | k+1,a0_0,a0_1,a0_2,a0_3,l0_4,l0_5,a1=>if (wrap64 (a1 - (a0_2.size:Int)))<0 then (some (-1)) else (if (wrap64 ((wrap64 (a1 - (a0_2.size:Int))) - (a0_3.size:Int)))<0 then (some (-1)) else ((laws_szAttrS.f k l0_4 (wrap64 ((wrap64 (a1 - (a0_2.size:Int))) - (a0_3.size:Int)))).bind fun t105=>(if t105<0 then (some (-1)) else ((laws_szNodeS.f k l0_5 t105).bind fun t106=>(if t106<0 then (some (-1)) else (some t106))))))
def laws_szNodeS.l0:Nat→List (S33)→Int→Int→Option (Int)
 | 0,_,_,_=>none
 | k+1,x0,x1,x5=>if x5<(x0.length:Int) then (if 0≤x5 then ((laws_szNode.f k ((rd_T33 x0 x5).f0) ((rd_T33 x0 x5).f1) ((rd_T33 x0 x5).f2) ((rd_T33 x0 x5).f3) ((rd_T33 x0 x5).f4) ((rd_T33 x0 x5).f5) x1).bind fun t108=>(if t108<0 then (some (-1)) else (laws_szNodeS.l0 k x0 t108 (wrap64 (x5+1))))) else (none)) else (some x1)
def laws_szNodeS.f:Nat→List (S33)→Int→Option (Int)
 | 0,_,_=>none
 | k+1,l0,a1=>if (wrap64 (a1 - (l0.length:Int)))<0 then (some (-1)) else (laws_szNodeS.l0 k l0 (wrap64 (a1 - (l0.length:Int))) 0)
end
theorem laws_szNode.mono_l:∀ k,(∀ y0 y1 y2 y3 y4 y5 y6,LeO (laws_szNode.f k y0 y1 y2 y3 y4 y5 y6) (laws_szNode.f (k+1) y0 y1 y2 y3 y4 y5 y6))∧(∀ y0 y1,LeO (laws_szNodeS.f k y0 y1) (laws_szNodeS.f (k+1) y0 y1))∧(∀ y0 y1 y2,LeO (laws_szNodeS.l0 k y0 y1 y2) (laws_szNodeS.l0 (k+1) y0 y1 y2))
 | 0=>⟨fun _ _ _ _ _ _ _ r h=>by simp [laws_szNode.f] at h,fun _ _ r h=>by simp [laws_szNodeS.f] at h,fun _ _ _ r h=>by simp [laws_szNodeS.l0] at h⟩
 | k+1=>by
  obtain ⟨ih0,ih1,ih2⟩:=laws_szNode.mono_l k
  refine ⟨?_,?_,?_⟩
  ·intro y0 y1 y2 y3 y4 y5 y6
   unfold laws_szNode.f
   repeat' first
   | (with_reducible exact ih0 _ _ _ _ _ _ _)
   | (with_reducible exact ih1 _ _)
   | (with_reducible exact ih2 _ _ _)
   | (with_reducible exact laws_szAttrS.mono _ _ _)
   | (with_reducible exact LeO.refl _)
   | (with_reducible exact LeO.none _)
   | (with_reducible refine LeO.ite ?_ ?_)
   | (with_reducible refine LeO.bind ?_ (fun _=>?_))
   | exact ih0 _ _ _ _ _ _ _
   | exact ih1 _ _
   | exact ih2 _ _ _
   | exact laws_szAttrS.mono _ _ _
   | exact LeO.none _
   | refine LeO.ite ?_ ?_
   | refine LeO.bind ?_ (fun _=>?_)
  ·intro y0 y1
   unfold laws_szNodeS.f
   repeat' first
   | (with_reducible exact ih0 _ _ _ _ _ _ _)
   | (with_reducible exact ih1 _ _)
   | (with_reducible exact ih2 _ _ _)
   | (with_reducible exact laws_szAttrS.mono _ _ _)
   | (with_reducible exact LeO.refl _)
   | (with_reducible exact LeO.none _)
   | (with_reducible refine LeO.ite ?_ ?_)
   | (with_reducible refine LeO.bind ?_ (fun _=>?_))
   | exact ih0 _ _ _ _ _ _ _
   | exact ih1 _ _
   | exact ih2 _ _ _
   | exact laws_szAttrS.mono _ _ _
   | exact LeO.none _
   | refine LeO.ite ?_ ?_
   | refine LeO.bind ?_ (fun _=>?_)
  ·intro y0 y1 y2
   unfold laws_szNodeS.l0
   repeat' first
   | (with_reducible exact ih0 _ _ _ _ _ _ _)
   | (with_reducible exact ih1 _ _)
   | (with_reducible exact ih2 _ _ _)
   | (with_reducible exact laws_szAttrS.mono _ _ _)
   | (with_reducible exact LeO.refl _)
   | (with_reducible exact LeO.none _)
   | (with_reducible refine LeO.ite ?_ ?_)
   | (with_reducible refine LeO.bind ?_ (fun _=>?_))
   | exact ih0 _ _ _ _ _ _ _
   | exact ih1 _ _
   | exact ih2 _ _ _
   | exact laws_szAttrS.mono _ _ _
   | exact LeO.none _
   | refine LeO.ite ?_ ?_
   | refine LeO.bind ?_ (fun _=>?_)
theorem laws_szNode.mono:∀ a0 a1 a2 a3 a4 a5 a6 k,LeO (laws_szNode.f k a0 a1 a2 a3 a4 a5 a6) (laws_szNode.f (k+1) a0 a1 a2 a3 a4 a5 a6):=by
 intro a0 a1 a2 a3 a4 a5 a6 k
 obtain ⟨ih0,ih1,ih2⟩:=laws_szNode.mono_l k
 exact ih0 a0 a1 a2 a3 a4 a5 a6
theorem laws_szNodeS.mono:∀ a0 a1 k,LeO (laws_szNodeS.f k a0 a1) (laws_szNodeS.f (k+1) a0 a1):=by
 intro a0 a1 k
 obtain ⟨ih0,ih1,ih2⟩:=laws_szNode.mono_l k
 exact ih1 a0 a1
set_option maxHeartbeats 8000000 in
set_option maxRecDepth 100000 in
theorem laws_szNode.step (k:Nat) (ihP:∀ j,j<k→∀ (A0:Option Addr) (c0:Nat) (l0:List (S33)) (a1:Int) (r:Int) (w:World) (hr0:Kd.C k33 w A0 l0.length l0) (hc0:l0.length≤c0) (h:laws_szNodeS.f j l0 a1=some r),
 Calls Tryz.prog 4 #[.slice A0 l0.length c0,.int .i64 a1] w fun e w'=>e=.returned (.int .i64 r)∧Below w.heap.size w w'):∀ (a0_0:Int) (a0_1:Int) (a0_2:ByteArray) (a0_3:ByteArray) (A0_4:Option Addr) (c0_4:Nat) (l0_4:List (S60)) (A0_5:Option Addr) (c0_5:Nat) (l0_5:List (S33)) (a1:Int) (r:Int) (w:World) (hr0_4:Kd.C k60 w A0_4 l0_4.length l0_4) (hc0_4:l0_4.length≤c0_4) (hr0_5:Kd.C k33 w A0_5 l0_5.length l0_5) (hc0_5:l0_5.length≤c0_5) (h:laws_szNode.f k a0_0 a0_1 a0_2 a0_3 l0_4 l0_5 a1=some r),
 Calls Tryz.prog 9 #[.agg #[.int .i64 a0_0,.int .i64 a0_1,.string a0_2,.string a0_3,.slice A0_4 l0_4.length c0_4,.slice A0_5 l0_5.length c0_5],.int .i64 a1] w fun e w'=>e=.returned (.int .i64 r)∧Below w.heap.size w w':=by
 intro a0_0 a0_1 a0_2 a0_3 A0_4 c0_4 l0_4 A0_5 c0_5 l0_5 a1 r w hr0_4 hc0_4 hr0_5 hc0_5 h
 cases k with
 | zero=>exact absurd h (by simp [laws_szNode.f])
 | succ k =>
 simp only [laws_szNode.f] at h
 have hu33:=Tryz.underlying33
 have HR0_4:=A_ hr0_4
 have HC0_4:=A_ hc0_4
 clear hr0_4 hc0_4
 have HR0_5:=A_ hr0_5
 have HC0_5:=A_ hc0_5
 clear hr0_5 hc0_5
 have HB:=A_ (Below.refl w.heap.size w)
 have H:(if (wrap64 (a1 - (a0_2.size:Int)))<0 then (some (-1)) else (if (wrap64 ((wrap64 (a1 - (a0_2.size:Int))) - (a0_3.size:Int)))<0 then (some (-1)) else ((laws_szAttrS.f k l0_4 (wrap64 ((wrap64 (a1 - (a0_2.size:Int))) - (a0_3.size:Int)))).bind fun t105=>(if t105<0 then (some (-1)) else ((laws_szNodeS.f k l0_5 t105).bind fun t106=>(if t106<0 then (some (-1)) else (some t106)))))))=some r:=h
 clear h
 by_cases c3:(wrap64 (a1 - (a0_2.size:Int)))<0
 ·rw [if_pos c3] at H
  have c3b0:decide ((wrap64 (a1 - (a0_2.size:Int)))<0)=true:=dt_ c3
  clear c3
  obtain rfl:=oi_ H
  go_enter Tryz.func9,Tryz.ntmps9
  go_wp2_with (first|((with_reducible refine gate_dst (N:=2) rfl ?_);refine box_event ?hg (N:=2) ?hd (cs:=#[.int .i64 a0_0,.int .i64 a0_1,.string a0_2,.string a0_3,.slice A0_4 l0_4.length c0_4,.slice A0_5 l0_5.length c0_5]) (t:=33) ?hr ?_;(case hd=>rfl);(case hg=>rfl);(case hr=>first|(go_simp;done)|(go_simp;rfl));intro gb104 hg w4 hbox hb;have n0_:=A_ (bp_ (by repeat (first|(with_reducible first|exact HB.out|apply ba_|apply pd_|apply b1_)|exact HB.out)) hb);have n1_:=A_ (hbox);have n2_:=A_ ((by rw [hg];exact (bz_ (by repeat (first|(with_reducible first|exact HB.out|apply ba_|apply pd_|apply b1_)|exact HB.out))):w.heap.size≤gb104));have n3_:=A_ ((by rw [hg];exact (bz_ (by repeat (first|(with_reducible first|exact HB.out|apply ba_|apply pd_|apply b1_)|exact HB.out))):w.heap.size≤gb104));clear HB;have HB:=n0_;have BK104:=n1_;have GW104:=n2_;have GE104:=n3_;clear n0_ n1_ n2_ n3_;clear hb hbox hg;have hcz5_0:w4.cell? ⟨gb104,0,none⟩=some (.int .i64 a0_0):=(bc_ BK104.out 0).trans rfl;have hcz5_1:w4.cell? ⟨gb104,1,none⟩=some (.int .i64 a0_1):=(bc_ BK104.out 1).trans rfl;have hcz5_2:w4.cell? ⟨gb104,2,none⟩=some (.string a0_2):=(bc_ BK104.out 2).trans rfl;have hcz5_3:w4.cell? ⟨gb104,3,none⟩=some (.string a0_3):=(bc_ BK104.out 3).trans rfl;have hcz5_4:w4.cell? ⟨gb104,4,none⟩=some (.slice A0_4 l0_4.length c0_4):=(bc_ BK104.out 4).trans rfl;have hcz5_5:w4.cell? ⟨gb104,5,none⟩=some (.slice A0_5 l0_5.length c0_5):=(bc_ BK104.out 5).trans rfl;have hfz5_0:=bf_ BK104.out 0;have hfz5_1:=bf_ BK104.out 1;have hfz5_2:=bf_ BK104.out 2;have hfz5_3:=bf_ BK104.out 3;have hfz5_4:=bf_ BK104.out 4;have hfz5_5:=bf_ BK104.out 5))
  go_ret
  exact ⟨by first|rfl|(simp [errW_none,errW_some] <;> rfl)|(simp [*,errW_none,errW_some] <;> rfl),by repeat (first|(with_reducible first|exact HB.out|apply ba_|apply pd_|apply b1_|refine bs_ ?_ GE104.out)|exact HB.out)⟩
 ·rw [if_neg c3] at H
  have c3b0:decide ((wrap64 (a1 - (a0_2.size:Int)))<0)=false:=df_ c3
  clear c3
  by_cases c6:(wrap64 ((wrap64 (a1 - (a0_2.size:Int))) - (a0_3.size:Int)))<0
  ·rw [if_pos c6] at H
   have c6b0:decide ((wrap64 ((wrap64 (a1 - (a0_2.size:Int))) - (a0_3.size:Int)))<0)=true:=dt_ c6
   clear c6
   obtain rfl:=oi_ H
   go_enter Tryz.func9,Tryz.ntmps9
   go_wp2_with (first|((with_reducible refine gate_dst (N:=2) rfl ?_);refine box_event ?hg (N:=2) ?hd (cs:=#[.int .i64 a0_0,.int .i64 a0_1,.string a0_2,.string a0_3,.slice A0_4 l0_4.length c0_4,.slice A0_5 l0_5.length c0_5]) (t:=33) ?hr ?_;(case hd=>rfl);(case hg=>rfl);(case hr=>first|(go_simp;done)|(go_simp;rfl));intro gb104 hg w7 hbox hb;have n0_:=A_ (bp_ (by repeat (first|(with_reducible first|exact HB.out|apply ba_|apply pd_|apply b1_)|exact HB.out)) hb);have n1_:=A_ (hbox);have n2_:=A_ ((by rw [hg];exact (bz_ (by repeat (first|(with_reducible first|exact HB.out|apply ba_|apply pd_|apply b1_)|exact HB.out))):w.heap.size≤gb104));have n3_:=A_ ((by rw [hg];exact (bz_ (by repeat (first|(with_reducible first|exact HB.out|apply ba_|apply pd_|apply b1_)|exact HB.out))):w.heap.size≤gb104));clear HB;have HB:=n0_;have BK104:=n1_;have GW104:=n2_;have GE104:=n3_;clear n0_ n1_ n2_ n3_;clear hb hbox hg;have hcz8_0:w7.cell? ⟨gb104,0,none⟩=some (.int .i64 a0_0):=(bc_ BK104.out 0).trans rfl;have hcz8_1:w7.cell? ⟨gb104,1,none⟩=some (.int .i64 a0_1):=(bc_ BK104.out 1).trans rfl;have hcz8_2:w7.cell? ⟨gb104,2,none⟩=some (.string a0_2):=(bc_ BK104.out 2).trans rfl;have hcz8_3:w7.cell? ⟨gb104,3,none⟩=some (.string a0_3):=(bc_ BK104.out 3).trans rfl;have hcz8_4:w7.cell? ⟨gb104,4,none⟩=some (.slice A0_4 l0_4.length c0_4):=(bc_ BK104.out 4).trans rfl;have hcz8_5:w7.cell? ⟨gb104,5,none⟩=some (.slice A0_5 l0_5.length c0_5):=(bc_ BK104.out 5).trans rfl;have hfz8_0:=bf_ BK104.out 0;have hfz8_1:=bf_ BK104.out 1;have hfz8_2:=bf_ BK104.out 2;have hfz8_3:=bf_ BK104.out 3;have hfz8_4:=bf_ BK104.out 4;have hfz8_5:=bf_ BK104.out 5))
   go_ret
   exact ⟨by first|rfl|(simp [errW_none,errW_some] <;> rfl)|(simp [*,errW_none,errW_some] <;> rfl),by repeat (first|(with_reducible first|exact HB.out|apply ba_|apply pd_|apply b1_|refine bs_ ?_ GE104.out)|exact HB.out)⟩
  ·rw [if_neg c6] at H
   have c6b0:decide ((wrap64 ((wrap64 (a1 - (a0_2.size:Int))) - (a0_3.size:Int)))<0)=false:=df_ c6
   clear c6
   replace H:=ob_ H
   obtain ⟨t105,A90,H⟩:=H
   replace H:(if t105<0 then (some (-1)) else ((laws_szNodeS.f k l0_5 t105).bind fun t106=>(if t106<0 then (some (-1)) else (some t106))))=some r:=H
   have A9:=A_ A90
   clear A90
   by_cases c10:t105<0
   ·rw [if_pos c10] at H
    have c10b0:decide (t105<0)=true:=dt_ c10
    clear c10
    obtain rfl:=oi_ H
    go_enter Tryz.func9,Tryz.ntmps9
    go_wp2_with (first|((with_reducible refine gate_dst (N:=2) rfl ?_);refine box_event ?hg (N:=2) ?hd (cs:=#[.int .i64 a0_0,.int .i64 a0_1,.string a0_2,.string a0_3,.slice A0_4 l0_4.length c0_4,.slice A0_5 l0_5.length c0_5]) (t:=33) ?hr ?_;(case hd=>rfl);(case hg=>rfl);(case hr=>first|(go_simp;done)|(go_simp;rfl));intro gb104 hg w11 hbox hb;have n0_:=A_ (bp_ (by repeat (first|(with_reducible first|exact HB.out|apply ba_|apply pd_|apply b1_)|exact HB.out)) hb);have n1_:=A_ (hbox);have n2_:=A_ ((by rw [hg];exact (bz_ (by repeat (first|(with_reducible first|exact HB.out|apply ba_|apply pd_|apply b1_)|exact HB.out))):w.heap.size≤gb104));have n3_:=A_ ((by rw [hg];exact (bz_ (by repeat (first|(with_reducible first|exact HB.out|apply ba_|apply pd_|apply b1_)|exact HB.out))):w.heap.size≤gb104));clear HB;have HB:=n0_;have BK104:=n1_;have GW104:=n2_;have GE104:=n3_;clear n0_ n1_ n2_ n3_;clear hb hbox hg;have hcz12_0:w11.cell? ⟨gb104,0,none⟩=some (.int .i64 a0_0):=(bc_ BK104.out 0).trans rfl;have hcz12_1:w11.cell? ⟨gb104,1,none⟩=some (.int .i64 a0_1):=(bc_ BK104.out 1).trans rfl;have hcz12_2:w11.cell? ⟨gb104,2,none⟩=some (.string a0_2):=(bc_ BK104.out 2).trans rfl;have hcz12_3:w11.cell? ⟨gb104,3,none⟩=some (.string a0_3):=(bc_ BK104.out 3).trans rfl;have hcz12_4:w11.cell? ⟨gb104,4,none⟩=some (.slice A0_4 l0_4.length c0_4):=(bc_ BK104.out 4).trans rfl;have hcz12_5:w11.cell? ⟨gb104,5,none⟩=some (.slice A0_5 l0_5.length c0_5):=(bc_ BK104.out 5).trans rfl;have hfz12_0:=bf_ BK104.out 0;have hfz12_1:=bf_ BK104.out 1;have hfz12_2:=bf_ BK104.out 2;have hfz12_3:=bf_ BK104.out 3;have hfz12_4:=bf_ BK104.out 4;have hfz12_5:=bf_ BK104.out 5)|((with_reducible refine gate_callee (f:=16) rfl ?_);refine goesL_ (some 22) rfl rfl Tryz.func16 (by kernel_rfl) rfl #[.slice A0_4 l0_4.length c0_4,.int .i64 (wrap64 ((wrap64 (a1 - (a0_2.size:Int))) - (a0_3.size:Int)))] rfl (by (try simp only [List.map_toArray,List.map_cons,List.map_nil]);first|done|rfl|(simp only [ld_,lt_];rfl)) ?_;(with_reducible refine (laws_szAttrS.calls k _ _ l0_4 (wrap64 ((wrap64 (a1 - (a0_2.size:Int))) - (a0_3.size:Int))) t105 _ ?side1 ?side2 A9.out).mono ?_);(case side1=>repeat (first|exact (cb_ HR0_4.out HB.out)|(with_reducible refine ca_ ?_ _)|(with_reducible refine cn_ ?_ _)|(with_reducible refine cd_ ?_)));(case side2=>exact HC0_4.out);rintro e w13 ⟨rfl,hb⟩;refine ⟨_,rfl,?_⟩;have n0_:=A_ (kb_ (g:=gb104) (o:=.cells #[.int .i64 a0_0,.int .i64 a0_1,.string a0_2,.string a0_3,.slice A0_4 l0_4.length c0_4,.slice A0_5 l0_5.length c0_5] 33 (0,0)) (by (with_reducible repeat (first|refine kn_ ?_ _|refine kd_ ?_|refine ka_ ?_ _));exact BK104.out) hb);have n1_:=A_ (bp_ (by repeat (first|(with_reducible first|exact HB.out|apply ba_|apply pd_|apply b1_|refine bs_ ?_ GE104.out)|exact HB.out)) hb);clear BK104;clear HB;have BK104:=n0_;have HB:=n1_;clear n0_ n1_;(try clear hb);(try clear hb2);(try clear hk);(try clear hi)))
    go_ret
    exact ⟨by first|rfl|(simp [errW_none,errW_some] <;> rfl)|(simp [*,errW_none,errW_some] <;> rfl),by repeat (first|(with_reducible first|exact HB.out|apply ba_|apply pd_|apply b1_|refine bs_ ?_ GE104.out)|exact HB.out)⟩
   ·rw [if_neg c10] at H
    have c10b0:decide (t105<0)=false:=df_ c10
    clear c10
    replace H:=ob_ H
    obtain ⟨t106,A140,H⟩:=H
    replace H:(if t106<0 then (some (-1)) else (some t106))=some r:=H
    have A14:=A_ A140
    clear A140
    by_cases c15:t106<0
    ·rw [if_pos c15] at H
     have c15b0:decide (t106<0)=true:=dt_ c15
     clear c15
     obtain rfl:=oi_ H
     go_enter Tryz.func9,Tryz.ntmps9
     go_wp2_with (first|((with_reducible refine gate_dst (N:=2) rfl ?_);refine box_event ?hg (N:=2) ?hd (cs:=#[.int .i64 a0_0,.int .i64 a0_1,.string a0_2,.string a0_3,.slice A0_4 l0_4.length c0_4,.slice A0_5 l0_5.length c0_5]) (t:=33) ?hr ?_;(case hd=>rfl);(case hg=>rfl);(case hr=>first|(go_simp;done)|(go_simp;rfl));intro gb104 hg w16 hbox hb;have n0_:=A_ (bp_ (by repeat (first|(with_reducible first|exact HB.out|apply ba_|apply pd_|apply b1_)|exact HB.out)) hb);have n1_:=A_ (hbox);have n2_:=A_ ((by rw [hg];exact (bz_ (by repeat (first|(with_reducible first|exact HB.out|apply ba_|apply pd_|apply b1_)|exact HB.out))):w.heap.size≤gb104));have n3_:=A_ ((by rw [hg];exact (bz_ (by repeat (first|(with_reducible first|exact HB.out|apply ba_|apply pd_|apply b1_)|exact HB.out))):w.heap.size≤gb104));clear HB;have HB:=n0_;have BK104:=n1_;have GW104:=n2_;have GE104:=n3_;clear n0_ n1_ n2_ n3_;clear hb hbox hg;have hcz17_0:w16.cell? ⟨gb104,0,none⟩=some (.int .i64 a0_0):=(bc_ BK104.out 0).trans rfl;have hcz17_1:w16.cell? ⟨gb104,1,none⟩=some (.int .i64 a0_1):=(bc_ BK104.out 1).trans rfl;have hcz17_2:w16.cell? ⟨gb104,2,none⟩=some (.string a0_2):=(bc_ BK104.out 2).trans rfl;have hcz17_3:w16.cell? ⟨gb104,3,none⟩=some (.string a0_3):=(bc_ BK104.out 3).trans rfl;have hcz17_4:w16.cell? ⟨gb104,4,none⟩=some (.slice A0_4 l0_4.length c0_4):=(bc_ BK104.out 4).trans rfl;have hcz17_5:w16.cell? ⟨gb104,5,none⟩=some (.slice A0_5 l0_5.length c0_5):=(bc_ BK104.out 5).trans rfl;have hfz17_0:=bf_ BK104.out 0;have hfz17_1:=bf_ BK104.out 1;have hfz17_2:=bf_ BK104.out 2;have hfz17_3:=bf_ BK104.out 3;have hfz17_4:=bf_ BK104.out 4;have hfz17_5:=bf_ BK104.out 5)|((with_reducible refine gate_callee (f:=16) rfl ?_);refine goesL_ (some 22) rfl rfl Tryz.func16 (by kernel_rfl) rfl #[.slice A0_4 l0_4.length c0_4,.int .i64 (wrap64 ((wrap64 (a1 - (a0_2.size:Int))) - (a0_3.size:Int)))] rfl (by (try simp only [List.map_toArray,List.map_cons,List.map_nil]);first|done|rfl|(simp only [ld_,lt_];rfl)) ?_;(with_reducible refine (laws_szAttrS.calls k _ _ l0_4 (wrap64 ((wrap64 (a1 - (a0_2.size:Int))) - (a0_3.size:Int))) t105 _ ?side1 ?side2 A9.out).mono ?_);(case side1=>repeat (first|exact (cb_ HR0_4.out HB.out)|(with_reducible refine ca_ ?_ _)|(with_reducible refine cn_ ?_ _)|(with_reducible refine cd_ ?_)));(case side2=>exact HC0_4.out);rintro e w18 ⟨rfl,hb⟩;refine ⟨_,rfl,?_⟩;have n0_:=A_ (kb_ (g:=gb104) (o:=.cells #[.int .i64 a0_0,.int .i64 a0_1,.string a0_2,.string a0_3,.slice A0_4 l0_4.length c0_4,.slice A0_5 l0_5.length c0_5] 33 (0,0)) (by (with_reducible repeat (first|refine kn_ ?_ _|refine kd_ ?_|refine ka_ ?_ _));exact BK104.out) hb);have n1_:=A_ (bp_ (by repeat (first|(with_reducible first|exact HB.out|apply ba_|apply pd_|apply b1_|refine bs_ ?_ GE104.out)|exact HB.out)) hb);clear BK104;clear HB;have BK104:=n0_;have HB:=n1_;clear n0_ n1_;(try clear hb);(try clear hb2);(try clear hk);(try clear hi);have hcz19_0:w18.cell? ⟨gb104,0,none⟩=some (.int .i64 a0_0):=(bc_ BK104.out 0).trans rfl;have hcz19_1:w18.cell? ⟨gb104,1,none⟩=some (.int .i64 a0_1):=(bc_ BK104.out 1).trans rfl;have hcz19_2:w18.cell? ⟨gb104,2,none⟩=some (.string a0_2):=(bc_ BK104.out 2).trans rfl;have hcz19_3:w18.cell? ⟨gb104,3,none⟩=some (.string a0_3):=(bc_ BK104.out 3).trans rfl;have hcz19_4:w18.cell? ⟨gb104,4,none⟩=some (.slice A0_4 l0_4.length c0_4):=(bc_ BK104.out 4).trans rfl;have hcz19_5:w18.cell? ⟨gb104,5,none⟩=some (.slice A0_5 l0_5.length c0_5):=(bc_ BK104.out 5).trans rfl;have hfz19_0:=bf_ BK104.out 0;have hfz19_1:=bf_ BK104.out 1;have hfz19_2:=bf_ BK104.out 2;have hfz19_3:=bf_ BK104.out 3;have hfz19_4:=bf_ BK104.out 4;have hfz19_5:=bf_ BK104.out 5)|((with_reducible refine gate_callee (f:=4) rfl ?_);refine goesL_ (some 28) rfl rfl Tryz.func4 (by kernel_rfl) rfl #[.slice A0_5 l0_5.length c0_5,.int .i64 t105] rfl (by (try simp only [List.map_toArray,List.map_cons,List.map_nil]);first|done|rfl|(simp only [ld_,lt_];rfl)) ?_;(with_reducible refine (ihP k (by omega) _ _ l0_5 t105 t106 _ ?side1 ?side2 A14.out).mono ?_);(case side1=>repeat (first|exact (cb_ HR0_5.out HB.out)|(with_reducible refine ca_ ?_ _)|(with_reducible refine cn_ ?_ _)|(with_reducible refine cd_ ?_)));(case side2=>exact HC0_5.out);rintro e w20 ⟨rfl,hb⟩;refine ⟨_,rfl,?_⟩;have n0_:=A_ (kb_ (g:=gb104) (o:=.cells #[.int .i64 a0_0,.int .i64 a0_1,.string a0_2,.string a0_3,.slice A0_4 l0_4.length c0_4,.slice A0_5 l0_5.length c0_5] 33 (0,0)) (by (with_reducible repeat (first|refine kn_ ?_ _|refine kd_ ?_|refine ka_ ?_ _));exact BK104.out) hb);have n1_:=A_ (bp_ (by repeat (first|(with_reducible first|exact HB.out|apply ba_|apply pd_|apply b1_|refine bs_ ?_ GE104.out)|exact HB.out)) hb);clear BK104;clear HB;have BK104:=n0_;have HB:=n1_;clear n0_ n1_;(try clear hb);(try clear hb2);(try clear hk);(try clear hi)))
     go_ret
     exact ⟨by first|rfl|(simp [errW_none,errW_some] <;> rfl)|(simp [*,errW_none,errW_some] <;> rfl),by repeat (first|(with_reducible first|exact HB.out|apply ba_|apply pd_|apply b1_|refine bs_ ?_ GE104.out)|exact HB.out)⟩
    ·rw [if_neg c15] at H
     have c15b0:decide (t106<0)=false:=df_ c15
     clear c15
     obtain rfl:=oi_ H
     go_enter Tryz.func9,Tryz.ntmps9
     go_wp2_with (first|((with_reducible refine gate_dst (N:=2) rfl ?_);refine box_event ?hg (N:=2) ?hd (cs:=#[.int .i64 a0_0,.int .i64 a0_1,.string a0_2,.string a0_3,.slice A0_4 l0_4.length c0_4,.slice A0_5 l0_5.length c0_5]) (t:=33) ?hr ?_;(case hd=>rfl);(case hg=>rfl);(case hr=>first|(go_simp;done)|(go_simp;rfl));intro gb104 hg w21 hbox hb;have n0_:=A_ (bp_ (by repeat (first|(with_reducible first|exact HB.out|apply ba_|apply pd_|apply b1_)|exact HB.out)) hb);have n1_:=A_ (hbox);have n2_:=A_ ((by rw [hg];exact (bz_ (by repeat (first|(with_reducible first|exact HB.out|apply ba_|apply pd_|apply b1_)|exact HB.out))):w.heap.size≤gb104));have n3_:=A_ ((by rw [hg];exact (bz_ (by repeat (first|(with_reducible first|exact HB.out|apply ba_|apply pd_|apply b1_)|exact HB.out))):w.heap.size≤gb104));clear HB;have HB:=n0_;have BK104:=n1_;have GW104:=n2_;have GE104:=n3_;clear n0_ n1_ n2_ n3_;clear hb hbox hg;have hcz22_0:w21.cell? ⟨gb104,0,none⟩=some (.int .i64 a0_0):=(bc_ BK104.out 0).trans rfl;have hcz22_1:w21.cell? ⟨gb104,1,none⟩=some (.int .i64 a0_1):=(bc_ BK104.out 1).trans rfl;have hcz22_2:w21.cell? ⟨gb104,2,none⟩=some (.string a0_2):=(bc_ BK104.out 2).trans rfl;have hcz22_3:w21.cell? ⟨gb104,3,none⟩=some (.string a0_3):=(bc_ BK104.out 3).trans rfl;have hcz22_4:w21.cell? ⟨gb104,4,none⟩=some (.slice A0_4 l0_4.length c0_4):=(bc_ BK104.out 4).trans rfl;have hcz22_5:w21.cell? ⟨gb104,5,none⟩=some (.slice A0_5 l0_5.length c0_5):=(bc_ BK104.out 5).trans rfl;have hfz22_0:=bf_ BK104.out 0;have hfz22_1:=bf_ BK104.out 1;have hfz22_2:=bf_ BK104.out 2;have hfz22_3:=bf_ BK104.out 3;have hfz22_4:=bf_ BK104.out 4;have hfz22_5:=bf_ BK104.out 5)|((with_reducible refine gate_callee (f:=16) rfl ?_);refine goesL_ (some 22) rfl rfl Tryz.func16 (by kernel_rfl) rfl #[.slice A0_4 l0_4.length c0_4,.int .i64 (wrap64 ((wrap64 (a1 - (a0_2.size:Int))) - (a0_3.size:Int)))] rfl (by (try simp only [List.map_toArray,List.map_cons,List.map_nil]);first|done|rfl|(simp only [ld_,lt_];rfl)) ?_;(with_reducible refine (laws_szAttrS.calls k _ _ l0_4 (wrap64 ((wrap64 (a1 - (a0_2.size:Int))) - (a0_3.size:Int))) t105 _ ?side1 ?side2 A9.out).mono ?_);(case side1=>repeat (first|exact (cb_ HR0_4.out HB.out)|(with_reducible refine ca_ ?_ _)|(with_reducible refine cn_ ?_ _)|(with_reducible refine cd_ ?_)));(case side2=>exact HC0_4.out);rintro e w23 ⟨rfl,hb⟩;refine ⟨_,rfl,?_⟩;have n0_:=A_ (kb_ (g:=gb104) (o:=.cells #[.int .i64 a0_0,.int .i64 a0_1,.string a0_2,.string a0_3,.slice A0_4 l0_4.length c0_4,.slice A0_5 l0_5.length c0_5] 33 (0,0)) (by (with_reducible repeat (first|refine kn_ ?_ _|refine kd_ ?_|refine ka_ ?_ _));exact BK104.out) hb);have n1_:=A_ (bp_ (by repeat (first|(with_reducible first|exact HB.out|apply ba_|apply pd_|apply b1_|refine bs_ ?_ GE104.out)|exact HB.out)) hb);clear BK104;clear HB;have BK104:=n0_;have HB:=n1_;clear n0_ n1_;(try clear hb);(try clear hb2);(try clear hk);(try clear hi);have hcz24_0:w23.cell? ⟨gb104,0,none⟩=some (.int .i64 a0_0):=(bc_ BK104.out 0).trans rfl;have hcz24_1:w23.cell? ⟨gb104,1,none⟩=some (.int .i64 a0_1):=(bc_ BK104.out 1).trans rfl;have hcz24_2:w23.cell? ⟨gb104,2,none⟩=some (.string a0_2):=(bc_ BK104.out 2).trans rfl;have hcz24_3:w23.cell? ⟨gb104,3,none⟩=some (.string a0_3):=(bc_ BK104.out 3).trans rfl;have hcz24_4:w23.cell? ⟨gb104,4,none⟩=some (.slice A0_4 l0_4.length c0_4):=(bc_ BK104.out 4).trans rfl;have hcz24_5:w23.cell? ⟨gb104,5,none⟩=some (.slice A0_5 l0_5.length c0_5):=(bc_ BK104.out 5).trans rfl;have hfz24_0:=bf_ BK104.out 0;have hfz24_1:=bf_ BK104.out 1;have hfz24_2:=bf_ BK104.out 2;have hfz24_3:=bf_ BK104.out 3;have hfz24_4:=bf_ BK104.out 4;have hfz24_5:=bf_ BK104.out 5)|((with_reducible refine gate_callee (f:=4) rfl ?_);refine goesL_ (some 28) rfl rfl Tryz.func4 (by kernel_rfl) rfl #[.slice A0_5 l0_5.length c0_5,.int .i64 t105] rfl (by (try simp only [List.map_toArray,List.map_cons,List.map_nil]);first|done|rfl|(simp only [ld_,lt_];rfl)) ?_;(with_reducible refine (ihP k (by omega) _ _ l0_5 t105 t106 _ ?side1 ?side2 A14.out).mono ?_);(case side1=>repeat (first|exact (cb_ HR0_5.out HB.out)|(with_reducible refine ca_ ?_ _)|(with_reducible refine cn_ ?_ _)|(with_reducible refine cd_ ?_)));(case side2=>exact HC0_5.out);rintro e w25 ⟨rfl,hb⟩;refine ⟨_,rfl,?_⟩;have n0_:=A_ (kb_ (g:=gb104) (o:=.cells #[.int .i64 a0_0,.int .i64 a0_1,.string a0_2,.string a0_3,.slice A0_4 l0_4.length c0_4,.slice A0_5 l0_5.length c0_5] 33 (0,0)) (by (with_reducible repeat (first|refine kn_ ?_ _|refine kd_ ?_|refine ka_ ?_ _));exact BK104.out) hb);have n1_:=A_ (bp_ (by repeat (first|(with_reducible first|exact HB.out|apply ba_|apply pd_|apply b1_|refine bs_ ?_ GE104.out)|exact HB.out)) hb);clear BK104;clear HB;have BK104:=n0_;have HB:=n1_;clear n0_ n1_;(try clear hb);(try clear hb2);(try clear hk);(try clear hi)))
     go_ret
     exact ⟨by first|rfl|(simp [errW_none,errW_some] <;> rfl)|(simp [*,errW_none,errW_some] <;> rfl),by repeat (first|(with_reducible first|exact HB.out|apply ba_|apply pd_|apply b1_|refine bs_ ?_ GE104.out)|exact HB.out)⟩
/-! ### laws_szNodeS: function 4 -/
set_option maxHeartbeats 8000000 in
set_option maxRecDepth 100000 in
theorem laws_szNodeS.calls (k:Nat):∀ (A0:Option Addr) (c0:Nat) (l0:List (S33)) (a1:Int) (r:Int) (w:World) (hr0:Kd.C k33 w A0 l0.length l0) (hc0:l0.length≤c0) (h:laws_szNodeS.f k l0 a1=some r),
 Calls Tryz.prog 4 #[.slice A0 l0.length c0,.int .i64 a1] w fun e w'=>e=.returned (.int .i64 r)∧Below w.heap.size w w':=by
 induction k using Nat.strongRecOn with
 | _ k ih =>
 have ihP:∀ j,j<k→∀ (a0_0:Int) (a0_1:Int) (a0_2:ByteArray) (a0_3:ByteArray) (A0_4:Option Addr) (c0_4:Nat) (l0_4:List (S60)) (A0_5:Option Addr) (c0_5:Nat) (l0_5:List (S33)) (a1:Int) (r:Int) (w:World) (hr0_4:Kd.C k60 w A0_4 l0_4.length l0_4) (hc0_4:l0_4.length≤c0_4) (hr0_5:Kd.C k33 w A0_5 l0_5.length l0_5) (hc0_5:l0_5.length≤c0_5) (h:laws_szNode.f j a0_0 a0_1 a0_2 a0_3 l0_4 l0_5 a1=some r),
  Calls Tryz.prog 9 #[.agg #[.int .i64 a0_0,.int .i64 a0_1,.string a0_2,.string a0_3,.slice A0_4 l0_4.length c0_4,.slice A0_5 l0_5.length c0_5],.int .i64 a1] w fun e w'=>e=.returned (.int .i64 r)∧Below w.heap.size w w':=fun j hj=>laws_szNode.step j (fun i hi=>ih i (Nat.lt_trans hi hj))
 intro A0 c0 l0 a1 r w hr0 hc0 h
 cases k with
 | zero=>exact absurd h (by simp [laws_szNodeS.f])
 | succ k =>
 simp only [laws_szNodeS.f] at h
 have hu33:=Tryz.underlying33
 have HR0:=A_ hr0
 have HC0:=A_ hc0
 clear hr0 hc0
 have HB:=A_ (Below.refl w.heap.size w)
 have H:(if (wrap64 (a1 - (l0.length:Int)))<0 then (some (-1)) else (laws_szNodeS.l0 k l0 (wrap64 (a1 - (l0.length:Int))) 0))=some r:=h
 clear h
 by_cases c3:(wrap64 (a1 - (l0.length:Int)))<0
 ·rw [if_pos c3] at H
  have c3b0:decide ((wrap64 (a1 - (l0.length:Int)))<0)=true:=dt_ c3
  clear c3
  obtain rfl:=oi_ H
  go_enter Tryz.func4,Tryz.ntmps4
  go_wp2
  go_ret
  exact ⟨by first|rfl|(simp [errW_none,errW_some] <;> rfl)|(simp [*,errW_none,errW_some] <;> rfl),by repeat (first|(with_reducible first|exact HB.out|apply ba_|apply pd_|apply b1_)|exact HB.out)⟩
 ·rw [if_neg c3] at H
  have c3b0:decide ((wrap64 (a1 - (l0.length:Int)))<0)=false:=df_ c3
  clear c3
  have H':=A_ H
  clear H
  go_enter Tryz.func4,Tryz.ntmps4
  go_wp2
  go_loopg [1,5] k (fun kq v1 v5 w'=>∃ (x1_1:Int) (x5_1:Int),v1=.int .i64 x1_1∧v5=.int .i64 x5_1∧Aside0 (laws_szNodeS.l0 kq l0 x1_1 x5_1=some r)∧Aside0 (kq≤k)∧Aside0 (Below w.heap.size w w'))
  case atStart=>exact ⟨(wrap64 (a1 - (l0.length:Int))),(0),(by first|rfl|(simp;done)|(simp [*];done)),(by first|rfl|(simp;done)|(simp [*];done)),H',⟨Nat.le_refl _⟩,⟨by repeat (first|(with_reducible first|exact HB.out|apply ba_|apply pd_|apply b1_)|exact HB.out)⟩⟩
  case round =>
   clear H'
   try clear p2
   try clear c3
   try clear c3b0
   obtain ⟨x1_1,x5_1,rfl,rfl,HA,HK1,HB⟩:=hrel
   cases gk with
   | zero=>exact absurd HA.out (by simp [laws_szNodeS.l0])
   | succ k1 =>
    have H:=HA.out
    clear HA
    simp only [laws_szNodeS.l0] at H
    by_cases c4:x5_1<(l0.length:Int)
    ·rw [if_pos c4] at H
     have c4b0:decide (x5_1<(l0.length:Int))=true:=dt_ c4
     clear c4
     by_cases c5:0≤x5_1
     ·rw [if_pos c5] at H
      have c5b0:decide (0≤x5_1)=true:=dt_ c5
      clear c5
      replace H:=ob_ H
      obtain ⟨t108,A60,H⟩:=H
      replace H:(if t108<0 then (some (-1)) else (laws_szNodeS.l0 k1 l0 t108 (wrap64 (x5_1+1))))=some r:=H
      have A6:=A_ A60
      clear A60
      by_cases c7:t108<0
      ·rw [if_pos c7] at H
       have c7b0:decide (t108<0)=true:=dt_ c7
       clear c7
       obtain rfl:=oi_ H
       have p107:0≤(x5_1:Int):=od_ (by first|(with_reducible assumption)|assumption)
       have q107:x5_1<(l0.length:Int):=od_ (by first|(with_reducible assumption)|assumption)
       obtain ⟨ad107,A107_4,c107_4,A107_5,c107_5,e107,hx107_0,hx107_1,hx107_2,hx107_3,hx107_4,hx107_5,hl107_4,hi107_4,hl107_5,hi107_5⟩:=at_T33 HR0.out x5_1 p107 q107
       cases e107
       replace hx107_0:=(HB.out.cell (bl_ w _ hx107_0)).trans hx107_0
       replace hx107_1:=(HB.out.cell (bl_ w _ hx107_1)).trans hx107_1
       replace hx107_2:=(HB.out.cell (bl_ w _ hx107_2)).trans hx107_2
       replace hx107_3:=(HB.out.cell (bl_ w _ hx107_3)).trans hx107_3
       replace hx107_4:=(HB.out.cell (bl_ w _ hx107_4)).trans hx107_4
       replace hx107_5:=(HB.out.cell (bl_ w _ hx107_5)).trans hx107_5
       have HR107_4:=A_ hi107_4
       have HC107_4:=A_ hl107_4
       clear hi107_4 hl107_4
       have HR107_5:=A_ hi107_5
       have HC107_5:=A_ hl107_5
       clear hi107_5 hl107_5
       replace p107:=eq_true p107
       replace q107:=eq_true q107
       go_wp2_with (first|((with_reducible refine gate_callee (f:=9) rfl ?_);refine goesL_ (some 23) rfl rfl Tryz.func9 (by kernel_rfl) rfl #[.agg #[.int .i64 ((rd_T33 l0 x5_1).f0),.int .i64 ((rd_T33 l0 x5_1).f1),.string ((rd_T33 l0 x5_1).f2),.string ((rd_T33 l0 x5_1).f3),.slice A107_4 ((rd_T33 l0 x5_1).f4).length c107_4,.slice A107_5 ((rd_T33 l0 x5_1).f5).length c107_5],.int .i64 x1_1] rfl (by (try simp only [List.map_toArray,List.map_cons,List.map_nil]);first|done|rfl|(simp only [ld_,lt_];rfl)) ?_;(with_reducible refine (ihP k1 (by have:=HK1.out;omega) ((rd_T33 l0 x5_1).f0) ((rd_T33 l0 x5_1).f1) ((rd_T33 l0 x5_1).f2) ((rd_T33 l0 x5_1).f3) _ _ ((rd_T33 l0 x5_1).f4) _ _ ((rd_T33 l0 x5_1).f5) x1_1 t108 _ ?side1 ?side2 ?side3 ?side4 A6.out).mono ?_);(case side1=>repeat (first|exact (cb_ HR107_4.out HB.out)|(with_reducible refine ca_ ?_ _)|(with_reducible refine cn_ ?_ _)|(with_reducible refine cd_ ?_)));(case side2=>exact HC107_4.out);(case side3=>repeat (first|exact (cb_ HR107_5.out HB.out)|(with_reducible refine ca_ ?_ _)|(with_reducible refine cn_ ?_ _)|(with_reducible refine cd_ ?_)));(case side4=>exact HC107_5.out);rintro e w8 ⟨rfl,hb⟩;refine ⟨_,rfl,?_⟩;have n0_:=A_ (bp_ (by repeat (first|(with_reducible first|exact HB.out|apply ba_|apply pd_|apply b1_)|exact HB.out)) hb);clear HB;have HB:=n0_;clear n0_;(try clear hb);(try clear hb2);(try clear hk);(try clear hi)))
       go_ret
       exact ⟨by first|rfl|(simp [errW_none,errW_some] <;> rfl)|(simp [*,errW_none,errW_some] <;> rfl),by repeat (first|(with_reducible first|exact HB.out|apply ba_|apply pd_|apply b1_)|exact HB.out)⟩
      ·rw [if_neg c7] at H
       have c7b0:decide (t108<0)=false:=df_ c7
       clear c7
       have H':=A_ H
       clear H
       have p107:0≤(x5_1:Int):=od_ (by first|(with_reducible assumption)|assumption)
       have q107:x5_1<(l0.length:Int):=od_ (by first|(with_reducible assumption)|assumption)
       obtain ⟨ad107,A107_4,c107_4,A107_5,c107_5,e107,hx107_0,hx107_1,hx107_2,hx107_3,hx107_4,hx107_5,hl107_4,hi107_4,hl107_5,hi107_5⟩:=at_T33 HR0.out x5_1 p107 q107
       cases e107
       replace hx107_0:=(HB.out.cell (bl_ w _ hx107_0)).trans hx107_0
       replace hx107_1:=(HB.out.cell (bl_ w _ hx107_1)).trans hx107_1
       replace hx107_2:=(HB.out.cell (bl_ w _ hx107_2)).trans hx107_2
       replace hx107_3:=(HB.out.cell (bl_ w _ hx107_3)).trans hx107_3
       replace hx107_4:=(HB.out.cell (bl_ w _ hx107_4)).trans hx107_4
       replace hx107_5:=(HB.out.cell (bl_ w _ hx107_5)).trans hx107_5
       have HR107_4:=A_ hi107_4
       have HC107_4:=A_ hl107_4
       clear hi107_4 hl107_4
       have HR107_5:=A_ hi107_5
       have HC107_5:=A_ hl107_5
       clear hi107_5 hl107_5
       replace p107:=eq_true p107
       replace q107:=eq_true q107
       go_wp2_with (first|((with_reducible refine gate_callee (f:=9) rfl ?_);refine goesL_ (some 23) rfl rfl Tryz.func9 (by kernel_rfl) rfl #[.agg #[.int .i64 ((rd_T33 l0 x5_1).f0),.int .i64 ((rd_T33 l0 x5_1).f1),.string ((rd_T33 l0 x5_1).f2),.string ((rd_T33 l0 x5_1).f3),.slice A107_4 ((rd_T33 l0 x5_1).f4).length c107_4,.slice A107_5 ((rd_T33 l0 x5_1).f5).length c107_5],.int .i64 x1_1] rfl (by (try simp only [List.map_toArray,List.map_cons,List.map_nil]);first|done|rfl|(simp only [ld_,lt_];rfl)) ?_;(with_reducible refine (ihP k1 (by have:=HK1.out;omega) ((rd_T33 l0 x5_1).f0) ((rd_T33 l0 x5_1).f1) ((rd_T33 l0 x5_1).f2) ((rd_T33 l0 x5_1).f3) _ _ ((rd_T33 l0 x5_1).f4) _ _ ((rd_T33 l0 x5_1).f5) x1_1 t108 _ ?side1 ?side2 ?side3 ?side4 A6.out).mono ?_);(case side1=>repeat (first|exact (cb_ HR107_4.out HB.out)|(with_reducible refine ca_ ?_ _)|(with_reducible refine cn_ ?_ _)|(with_reducible refine cd_ ?_)));(case side2=>exact HC107_4.out);(case side3=>repeat (first|exact (cb_ HR107_5.out HB.out)|(with_reducible refine ca_ ?_ _)|(with_reducible refine cn_ ?_ _)|(with_reducible refine cd_ ?_)));(case side4=>exact HC107_5.out);rintro e w9 ⟨rfl,hb⟩;refine ⟨_,rfl,?_⟩;have n0_:=A_ (bp_ (by repeat (first|(with_reducible first|exact HB.out|apply ba_|apply pd_|apply b1_)|exact HB.out)) hb);clear HB;have HB:=n0_;clear n0_;(try clear hb);(try clear hb2);(try clear hk);(try clear hi)))
       go_roundg k1
       case measure=>have:=HK1.out;omega
       case rel=>exact ⟨(t108),(wrap64 (x5_1+1)),(by first|rfl|(simp;done)|(simp [*];done)),(by first|rfl|(simp;done)|(simp [*];done)),H',⟨by have:=HK1.out;omega⟩,⟨by repeat (first|(with_reducible first|exact HB.out|apply ba_|apply pd_|apply b1_)|exact HB.out)⟩⟩
     ·rw [if_neg c5] at H
      exact absurd H (by simp)
    ·rw [if_neg c4] at H
     have c4b0:decide (x5_1<(l0.length:Int))=false:=df_ c4
     clear c4
     obtain rfl:=oi_ H
     go_wp2
     go_ret
     exact ⟨by first|rfl|(simp [errW_none,errW_some] <;> rfl)|(simp [*,errW_none,errW_some] <;> rfl),by repeat (first|(with_reducible first|exact HB.out|apply ba_|apply pd_|apply b1_)|exact HB.out)⟩
theorem laws_szNode.calls (k:Nat):∀ (a0_0:Int) (a0_1:Int) (a0_2:ByteArray) (a0_3:ByteArray) (A0_4:Option Addr) (c0_4:Nat) (l0_4:List (S60)) (A0_5:Option Addr) (c0_5:Nat) (l0_5:List (S33)) (a1:Int) (r:Int) (w:World) (hr0_4:Kd.C k60 w A0_4 l0_4.length l0_4) (hc0_4:l0_4.length≤c0_4) (hr0_5:Kd.C k33 w A0_5 l0_5.length l0_5) (hc0_5:l0_5.length≤c0_5) (h:laws_szNode.f k a0_0 a0_1 a0_2 a0_3 l0_4 l0_5 a1=some r),
 Calls Tryz.prog 9 #[.agg #[.int .i64 a0_0,.int .i64 a0_1,.string a0_2,.string a0_3,.slice A0_4 l0_4.length c0_4,.slice A0_5 l0_5.length c0_5],.int .i64 a1] w fun e w'=>e=.returned (.int .i64 r)∧Below w.heap.size w w':=laws_szNode.step k (fun j _=>laws_szNodeS.calls j)
/-! ### spec_l01In: function 54 -/
def spec_l01In.f (a0:Int) (a1:Int) (a2:Int):Option (Bool):=if a0≥a1 then (some (decide (a0≤a2))) else (some false)
set_option maxHeartbeats 8000000 in
set_option maxRecDepth 100000 in
theorem spec_l01In.calls (a0:Int) (a1:Int) (a2:Int) (r:Bool) (w:World) (h:spec_l01In.f a0 a1 a2=some r) :
 Calls Tryz.prog 54 #[.int .i64 a0,.int .i64 a1,.int .i64 a2] w fun e w'=>e=.returned (.bool r)∧Drawn0 w w':=by
 have H:(if a0≥a1 then (some (decide (a0≤a2))) else (some false))=some r:=h
 clear h
 by_cases c4:a0≥a1
 ·rw [if_pos c4] at H
  have c4b0:decide (a1≤a0)=true:=dt_ c4
  clear c4
  obtain rfl:=oi_ H
  go_enter Tryz.func54,Tryz.ntmps54
  go_wp2
  go_ret
  exact ⟨by first|rfl|(simp;done)|(simp [*];done),by repeat (first|exact dr_ _|apply dp_)⟩
 ·rw [if_neg c4] at H
  have c4b0:decide (a1≤a0)=false:=df_ c4
  clear c4
  obtain rfl:=oi_ H
  go_enter Tryz.func54,Tryz.ntmps54
  go_wp2
  go_ret
  exact ⟨by first|rfl|(simp;done)|(simp [*];done),by repeat (first|exact dr_ _|apply dp_)⟩
/-! ### spec_l00Digit: function 66 -/
def spec_l00Digit.f (a0:Int):Option (Bool):=if a0≥48 then (some (decide (a0≤57))) else (some false)
set_option maxHeartbeats 8000000 in
set_option maxRecDepth 100000 in
theorem spec_l00Digit.calls (a0:Int) (r:Bool) (w:World) (h:spec_l00Digit.f a0=some r) :
 Calls Tryz.prog 66 #[.int .u8 a0] w fun e w'=>e=.returned (.bool r)∧Drawn0 w w':=by
 have H:(if a0≥48 then (some (decide (a0≤57))) else (some false))=some r:=h
 clear h
 by_cases c2:a0≥48
 ·rw [if_pos c2] at H
  have c2b0:decide (48≤a0)=true:=dt_ c2
  clear c2
  obtain rfl:=oi_ H
  go_enter Tryz.func66,Tryz.ntmps66
  go_wp2
  go_ret
  exact ⟨by first|rfl|(simp;done)|(simp [*];done),by repeat (first|exact dr_ _|apply dp_)⟩
 ·rw [if_neg c2] at H
  have c2b0:decide (48≤a0)=false:=df_ c2
  clear c2
  obtain rfl:=oi_ H
  go_enter Tryz.func66,Tryz.ntmps66
  go_wp2
  go_ret
  exact ⟨by first|rfl|(simp;done)|(simp [*];done),by repeat (first|exact dr_ _|apply dp_)⟩
end Go.Proofs.YtlpncjeahdfolaaGreatDoor.PFnExactSerialize
