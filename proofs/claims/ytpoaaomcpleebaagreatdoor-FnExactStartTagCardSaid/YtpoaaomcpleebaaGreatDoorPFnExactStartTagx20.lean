/- By a program of this session, out of the kit's print and contracts made by hand: the machine side of a law; Lean checks it. No conditions. -/
import Derived.Test.YtpoaaomcpleebaaGreatDoorPFnExactStartTagx0
import Derived.Test.YtpoaaomcpleebaaGreatDoorPFnExactStartTagx2
import Derived.Test.YtpoaaomcpleebaaGreatDoorPFnExactStartTagx7
import Derived.Test.YtpoaaomcpleebaaGreatDoorPFnExactStartTagx8
import Derived.Test.YtpoaaomcpleebaaGreatDoorPFnExactStartTagx17
import Derived.Test.YtpoaaomcpleebaaGreatDoorPFnExactStartTagx19
namespace Go.Proofs.YtpoaaomcpleebaaGreatDoor.PFnExactStartTag
open Go.RowKit Go.Proofs.YtpoaaomcpleebaaGreatDoorW.PrintWords Go.Proofs.YtpoaaomcpleebaaGreatDoorW.PrintLast Go.Proofs.YtpoaaomcpleebaaGreatDoorW.PrintMore
attribute [local go_sem] max2_int min2_int max_two min_two max_three min_three max_four min_four
set_option linter.unusedVariables false
set_option linter.unusedSimpArgs false
/-! ### laws_FnExactStartTag: function 3 -/
def laws_FnExactStartTag.j0:Nat→Bool→Int→Int→ByteArray→ByteArray→List (S47)→List (S25)→Int→Int→ByteArray→ByteArray→List (S51)→List (S32)→Option (Bool)
 | 0,_,_,_,_,_,_,_,_,_,_,_,_,_=>none
 | k+1,x34,x198000,x198001,x198002,x198003,x198004,x198005,x222000,x222001,x222002,x222003,x222004,x222005=>if x34=true then (some false) else ((laws_toNode.f k x198000 x198001 x198002 x198003 x198004 x198005).bind fun bt224=>((laws_eqNode.f k x222000 x222001 x222002 x222003 x222004 x222005 bt224.1 bt224.2.1 bt224.2.2.1 bt224.2.2.2.1 bt224.2.2.2.2.1 bt224.2.2.2.2.2).bind fun t234=>(if t234=true then (some true) else (some false))))
def laws_FnExactStartTag.f (k:Nat) (a0_0:Int) (a0_1:Int) (a0_2:ByteArray) (a0_3:ByteArray) (l0_4:List (S47)) (l0_5:List (S25)):Option (Bool):=(laws_szNode.f k a0_0 a0_1 a0_2 a0_3 l0_4 l0_5 1048576).bind fun t198=>(if t198<0 then (some true) else ((laws_toNode.f k a0_0 a0_1 a0_2 a0_3 l0_4 l0_5).bind fun bt199=>((spec_StartTag.f k bt199.1 bt199.2.1 bt199.2.2.1 bt199.2.2.2.1 bt199.2.2.2.2.1 bt199.2.2.2.2.2).bind fun bt209=>((laws_toNode.f k a0_0 a0_1 a0_2 a0_3 l0_4 l0_5).bind fun bt211=>((impl_StartTag.f k bt211.1 bt211.2.1 bt211.2.2.1 bt211.2.2.2.1 bt211.2.2.2.2.1 bt211.2.2.2.2.2).bind fun bt222=>(if bt222.1.toList=bt209.1.toList then (laws_FnExactStartTag.j0 k (bt222.2 != bt209.2) a0_0 a0_1 a0_2 a0_3 l0_4 l0_5 bt211.1 bt211.2.1 bt211.2.2.1 bt211.2.2.2.1 bt211.2.2.2.2.1 bt211.2.2.2.2.2) else (laws_FnExactStartTag.j0 k true a0_0 a0_1 a0_2 a0_3 l0_4 l0_5 bt211.1 bt211.2.1 bt211.2.2.1 bt211.2.2.2.1 bt211.2.2.2.2.1 bt211.2.2.2.2.2)))))))
theorem laws_FnExactStartTag.mono_l:∀ k,(∀ y0 y1 y2 y3 y4 y5 y6 y7 y8 y9 y10 y11 y12,LeO (laws_FnExactStartTag.j0 k y0 y1 y2 y3 y4 y5 y6 y7 y8 y9 y10 y11 y12) (laws_FnExactStartTag.j0 (k+1) y0 y1 y2 y3 y4 y5 y6 y7 y8 y9 y10 y11 y12))
 | 0=>fun _ _ _ _ _ _ _ _ _ _ _ _ _ r h=>by simp [laws_FnExactStartTag.j0] at h
 | k+1=>by
  have ih0:=laws_FnExactStartTag.mono_l k
  ·intro y0 y1 y2 y3 y4 y5 y6 y7 y8 y9 y10 y11 y12
   unfold laws_FnExactStartTag.j0
   repeat' first
   | (with_reducible exact ih0 _ _ _ _ _ _ _ _ _ _ _ _ _)
   | (with_reducible exact impl_StartTag.mono _ _ _ _ _ _ _)
   | (with_reducible exact laws_eqNode.mono _ _ _ _ _ _ _ _ _ _ _ _ _)
   | (with_reducible exact laws_szNode.mono _ _ _ _ _ _ _ _)
   | (with_reducible exact laws_toNode.mono _ _ _ _ _ _ _)
   | (with_reducible exact spec_StartTag.mono _ _ _ _ _ _ _)
   | (with_reducible exact LeO.refl _)
   | (with_reducible exact LeO.none _)
   | (with_reducible refine LeO.ite ?_ ?_)
   | (with_reducible refine LeO.bind ?_ (fun _=>?_))
   | exact ih0 _ _ _ _ _ _ _ _ _ _ _ _ _
   | exact impl_StartTag.mono _ _ _ _ _ _ _
   | exact laws_eqNode.mono _ _ _ _ _ _ _ _ _ _ _ _ _
   | exact laws_szNode.mono _ _ _ _ _ _ _ _
   | exact laws_toNode.mono _ _ _ _ _ _ _
   | exact spec_StartTag.mono _ _ _ _ _ _ _
   | exact LeO.none _
   | refine LeO.ite ?_ ?_
   | refine LeO.bind ?_ (fun _=>?_)
theorem laws_FnExactStartTag.mono:∀ a0 a1 a2 a3 a4 a5 k,LeO (laws_FnExactStartTag.f k a0 a1 a2 a3 a4 a5) (laws_FnExactStartTag.f (k+1) a0 a1 a2 a3 a4 a5):=by
 intro a0 a1 a2 a3 a4 a5 k
 have ih0:=laws_FnExactStartTag.mono_l k
 unfold laws_FnExactStartTag.f
 repeat' first
  | (with_reducible exact ih0 _ _ _ _ _ _ _ _ _ _ _ _ _)
  | (with_reducible exact impl_StartTag.mono _ _ _ _ _ _ _)
  | (with_reducible exact laws_eqNode.mono _ _ _ _ _ _ _ _ _ _ _ _ _)
  | (with_reducible exact laws_szNode.mono _ _ _ _ _ _ _ _)
  | (with_reducible exact laws_toNode.mono _ _ _ _ _ _ _)
  | (with_reducible exact spec_StartTag.mono _ _ _ _ _ _ _)
  | (with_reducible exact LeO.refl _)
  | (with_reducible exact LeO.none _)
  | (with_reducible refine LeO.ite ?_ ?_)
  | (with_reducible refine LeO.bind ?_ (fun _=>?_))
  | exact ih0 _ _ _ _ _ _ _ _ _ _ _ _ _
  | exact impl_StartTag.mono _ _ _ _ _ _ _
  | exact laws_eqNode.mono _ _ _ _ _ _ _ _ _ _ _ _ _
  | exact laws_szNode.mono _ _ _ _ _ _ _ _
  | exact laws_toNode.mono _ _ _ _ _ _ _
  | exact spec_StartTag.mono _ _ _ _ _ _ _
  | exact LeO.none _
  | refine LeO.ite ?_ ?_
  | refine LeO.bind ?_ (fun _=>?_)
set_option maxHeartbeats 8000000 in
set_option maxRecDepth 100000 in
theorem laws_FnExactStartTag.calls (k:Nat) (a0_0:Int) (a0_1:Int) (a0_2:ByteArray) (a0_3:ByteArray) (A0_4:Option Addr) (c0_4:Nat) (l0_4:List (S47)) (A0_5:Option Addr) (c0_5:Nat) (l0_5:List (S25)) (r:Bool) (w:World) (hr0_4:Kd.C k47 w A0_4 l0_4.length l0_4) (hc0_4:l0_4.length≤c0_4) (hr0_5:Kd.C k25 w A0_5 l0_5.length l0_5) (hc0_5:l0_5.length≤c0_5) (h:laws_FnExactStartTag.f k a0_0 a0_1 a0_2 a0_3 l0_4 l0_5=some r) (HRT:Aside0 (r=true)) :
 Calls Tryz.prog 3 #[.agg #[.int .i64 a0_0,.int .i64 a0_1,.string a0_2,.string a0_3,.slice A0_4 l0_4.length c0_4,.slice A0_5 l0_5.length c0_5]] w fun e w'=>e=.returned (.bool r)∧Below w.heap.size w w':=by
 have hu25:=Tryz.underlying25
 have hu32:=Tryz.underlying32
 have HR0_4:=A_ hr0_4
 have HC0_4:=A_ hc0_4
 clear hr0_4 hc0_4
 have HR0_5:=A_ hr0_5
 have HC0_5:=A_ hc0_5
 clear hr0_5 hc0_5
 have HB:=A_ (Below.refl w.heap.size w)
 have H:((laws_szNode.f k a0_0 a0_1 a0_2 a0_3 l0_4 l0_5 1048576).bind fun t198=>(if t198<0 then (some true) else ((laws_toNode.f k a0_0 a0_1 a0_2 a0_3 l0_4 l0_5).bind fun bt199=>((spec_StartTag.f k bt199.1 bt199.2.1 bt199.2.2.1 bt199.2.2.2.1 bt199.2.2.2.2.1 bt199.2.2.2.2.2).bind fun bt209=>((laws_toNode.f k a0_0 a0_1 a0_2 a0_3 l0_4 l0_5).bind fun bt211=>((impl_StartTag.f k bt211.1 bt211.2.1 bt211.2.2.1 bt211.2.2.2.1 bt211.2.2.2.2.1 bt211.2.2.2.2.2).bind fun bt222=>(if bt222.1.toList=bt209.1.toList then (laws_FnExactStartTag.j0 k (bt222.2 != bt209.2) a0_0 a0_1 a0_2 a0_3 l0_4 l0_5 bt211.1 bt211.2.1 bt211.2.2.1 bt211.2.2.2.1 bt211.2.2.2.2.1 bt211.2.2.2.2.2) else (laws_FnExactStartTag.j0 k true a0_0 a0_1 a0_2 a0_3 l0_4 l0_5 bt211.1 bt211.2.1 bt211.2.2.1 bt211.2.2.2.1 bt211.2.2.2.2.1 bt211.2.2.2.2.2))))))))=some r:=h
 clear h
 replace H:=ob_ H
 obtain ⟨t198,A20,H⟩:=H
 replace H:(if t198<0 then (some true) else ((laws_toNode.f k a0_0 a0_1 a0_2 a0_3 l0_4 l0_5).bind fun bt199=>((spec_StartTag.f k bt199.1 bt199.2.1 bt199.2.2.1 bt199.2.2.2.1 bt199.2.2.2.2.1 bt199.2.2.2.2.2).bind fun bt209=>((laws_toNode.f k a0_0 a0_1 a0_2 a0_3 l0_4 l0_5).bind fun bt211=>((impl_StartTag.f k bt211.1 bt211.2.1 bt211.2.2.1 bt211.2.2.2.1 bt211.2.2.2.2.1 bt211.2.2.2.2.2).bind fun bt222=>(if bt222.1.toList=bt209.1.toList then (laws_FnExactStartTag.j0 k (bt222.2 != bt209.2) a0_0 a0_1 a0_2 a0_3 l0_4 l0_5 bt211.1 bt211.2.1 bt211.2.2.1 bt211.2.2.2.1 bt211.2.2.2.2.1 bt211.2.2.2.2.2) else (laws_FnExactStartTag.j0 k true a0_0 a0_1 a0_2 a0_3 l0_4 l0_5 bt211.1 bt211.2.1 bt211.2.2.1 bt211.2.2.2.1 bt211.2.2.2.2.1 bt211.2.2.2.2.2)))))))=some r:=H
 have A2:=A_ A20
 clear A20
 by_cases c3:t198<0
 ·rw [if_pos c3] at H
  have c3b0:decide (t198<0)=true:=dt_ c3
  clear c3
  obtain rfl:=oi_ H
  go_enter Tryz.func3,Tryz.ntmps3
  go_wp2_with (first|((with_reducible refine gate_dst (N:=1) rfl ?_);refine box_event ?hg (N:=1) ?hd (cs:=#[.int .i64 a0_0,.int .i64 a0_1,.string a0_2,.string a0_3,.slice A0_4 l0_4.length c0_4,.slice A0_5 l0_5.length c0_5]) (t:=25) ?hr ?_;(case hd=>rfl);(case hg=>rfl);(case hr=>first|(go_simp;done)|(go_simp;rfl)|(first|(go_simp;done)|(go_simp;rfl)));intro gb197 hg w4 hbox hb;have n0_:=A_ (bp_ (by repeat (first|(with_reducible first|exact HB.out|apply ba_|apply pd_|apply b1_)|exact HB.out)) hb);have n1_:=A_ (hbox);have n2_:=A_ ((by rw [hg];exact (bz_ (by repeat (first|(with_reducible first|exact HB.out|apply ba_|apply pd_|apply b1_)|exact HB.out))):w.heap.size≤gb197));have n3_:=A_ ((by rw [hg];exact (bz_ (by repeat (first|(with_reducible first|exact HB.out|apply ba_|apply pd_|apply b1_)|exact HB.out))):w.heap.size≤gb197));clear HB;have HB:=n0_;have BK197:=n1_;have GW197:=n2_;have GE197:=n3_;clear n0_ n1_ n2_ n3_;clear hb hbox hg;have hcz5_0:w4.cell? ⟨gb197,0,none⟩=some (.int .i64 a0_0):=(bc_ BK197.out 0).trans rfl;have hcz5_1:w4.cell? ⟨gb197,1,none⟩=some (.int .i64 a0_1):=(bc_ BK197.out 1).trans rfl;have hcz5_2:w4.cell? ⟨gb197,2,none⟩=some (.string a0_2):=(bc_ BK197.out 2).trans rfl;have hcz5_3:w4.cell? ⟨gb197,3,none⟩=some (.string a0_3):=(bc_ BK197.out 3).trans rfl;have hcz5_4:w4.cell? ⟨gb197,4,none⟩=some (.slice A0_4 l0_4.length c0_4):=(bc_ BK197.out 4).trans rfl;have hcz5_5:w4.cell? ⟨gb197,5,none⟩=some (.slice A0_5 l0_5.length c0_5):=(bc_ BK197.out 5).trans rfl;have hfz5_0:=bf_ BK197.out 0;have hfz5_1:=bf_ BK197.out 1;have hfz5_2:=bf_ BK197.out 2;have hfz5_3:=bf_ BK197.out 3;have hfz5_4:=bf_ BK197.out 4;have hfz5_5:=bf_ BK197.out 5)|((with_reducible refine gate_callee (f:=4) rfl ?_);refine goesL_ (some 11) rfl rfl Tryz.func4 (by kernel_rfl) rfl #[.agg #[.int .i64 a0_0,.int .i64 a0_1,.string a0_2,.string a0_3,.slice A0_4 l0_4.length c0_4,.slice A0_5 l0_5.length c0_5],.int .i64 1048576] rfl (by (try simp only [List.map_toArray,List.map_cons,List.map_nil]);first|done|rfl|(simp only [ld_,lt_];rfl)) ?_;(with_reducible refine (laws_szNode.calls k a0_0 a0_1 a0_2 a0_3 _ _ l0_4 _ _ l0_5 1048576 t198 _ ?side1 ?side2 ?side3 ?side4 A2.out).mono ?_);(case side1=>repeat (first|exact (cb_ HR0_4.out HB.out)|(with_reducible refine ca_ ?_ _)|(with_reducible refine cn_ ?_ _)|(with_reducible refine cd_ ?_)));(case side2=>exact HC0_4.out);(case side3=>repeat (first|exact (cb_ HR0_5.out HB.out)|(with_reducible refine ca_ ?_ _)|(with_reducible refine cn_ ?_ _)|(with_reducible refine cd_ ?_)));(case side4=>exact HC0_5.out);rintro e w6 ⟨rfl,hb⟩;refine ⟨_,rfl,?_⟩;have n0_:=A_ (kb_ (g:=gb197) (o:=.cells #[.int .i64 a0_0,.int .i64 a0_1,.string a0_2,.string a0_3,.slice A0_4 l0_4.length c0_4,.slice A0_5 l0_5.length c0_5] 25 (0,0)) (by (with_reducible repeat (first|refine kn_ ?_ _|refine kd_ ?_|refine ka_ ?_ _));exact BK197.out) hb);have n1_:=A_ (bp_ (by repeat (first|(with_reducible first|exact HB.out|apply ba_|apply pd_|apply b1_|refine bs_ ?_ GE197.out)|exact HB.out)) hb);clear BK197;clear HB;have BK197:=n0_;have HB:=n1_;clear n0_ n1_;(try clear hb);(try clear hb2);(try clear hk);(try clear hi)))
  go_ret
  exact ⟨by first|rfl|(simp [errW_none,errW_some] <;> rfl)|(simp [*,errW_none,errW_some] <;> rfl),by repeat (first|(with_reducible first|exact HB.out|apply ba_|apply pd_|apply b1_|refine bs_ ?_ GE197.out)|exact HB.out)⟩
 ·rw [if_neg c3] at H
  have c3b0:decide (t198<0)=false:=df_ c3
  clear c3
  replace H:=ob_ H
  obtain ⟨⟨t199,t200,t201,t202,t203,t206⟩,A70,H⟩:=H
  replace H:((spec_StartTag.f k t199 t200 t201 t202 t203 t206).bind fun bt209=>((laws_toNode.f k a0_0 a0_1 a0_2 a0_3 l0_4 l0_5).bind fun bt211=>((impl_StartTag.f k bt211.1 bt211.2.1 bt211.2.2.1 bt211.2.2.2.1 bt211.2.2.2.2.1 bt211.2.2.2.2.2).bind fun bt222=>(if bt222.1.toList=bt209.1.toList then (laws_FnExactStartTag.j0 k (bt222.2 != bt209.2) a0_0 a0_1 a0_2 a0_3 l0_4 l0_5 bt211.1 bt211.2.1 bt211.2.2.1 bt211.2.2.2.1 bt211.2.2.2.2.1 bt211.2.2.2.2.2) else (laws_FnExactStartTag.j0 k true a0_0 a0_1 a0_2 a0_3 l0_4 l0_5 bt211.1 bt211.2.1 bt211.2.2.1 bt211.2.2.2.1 bt211.2.2.2.2.1 bt211.2.2.2.2.2)))))=some r:=H
  have A7:=A_ A70
  clear A70
  replace H:=ob_ H
  obtain ⟨⟨t209,t210⟩,A80,H⟩:=H
  replace H:((laws_toNode.f k a0_0 a0_1 a0_2 a0_3 l0_4 l0_5).bind fun bt211=>((impl_StartTag.f k bt211.1 bt211.2.1 bt211.2.2.1 bt211.2.2.2.1 bt211.2.2.2.2.1 bt211.2.2.2.2.2).bind fun bt222=>(if bt222.1.toList=t209.toList then (laws_FnExactStartTag.j0 k (bt222.2 != t210) a0_0 a0_1 a0_2 a0_3 l0_4 l0_5 bt211.1 bt211.2.1 bt211.2.2.1 bt211.2.2.2.1 bt211.2.2.2.2.1 bt211.2.2.2.2.2) else (laws_FnExactStartTag.j0 k true a0_0 a0_1 a0_2 a0_3 l0_4 l0_5 bt211.1 bt211.2.1 bt211.2.2.1 bt211.2.2.2.1 bt211.2.2.2.2.1 bt211.2.2.2.2.2))))=some r:=H
  have A8:=A_ A80
  clear A80
  replace H:=ob_ H
  obtain ⟨⟨t211,t212,t213,t214,t215,t218⟩,A90,H⟩:=H
  replace H:((impl_StartTag.f k t211 t212 t213 t214 t215 t218).bind fun bt222=>(if bt222.1.toList=t209.toList then (laws_FnExactStartTag.j0 k (bt222.2 != t210) a0_0 a0_1 a0_2 a0_3 l0_4 l0_5 t211 t212 t213 t214 t215 t218) else (laws_FnExactStartTag.j0 k true a0_0 a0_1 a0_2 a0_3 l0_4 l0_5 t211 t212 t213 t214 t215 t218)))=some r:=H
  have A9:=A_ A90
  clear A90
  replace H:=ob_ H
  obtain ⟨⟨t222,t223⟩,A100,H⟩:=H
  replace H:(if t222.toList=t209.toList then (laws_FnExactStartTag.j0 k (t223 != t210) a0_0 a0_1 a0_2 a0_3 l0_4 l0_5 t211 t212 t213 t214 t215 t218) else (laws_FnExactStartTag.j0 k true a0_0 a0_1 a0_2 a0_3 l0_4 l0_5 t211 t212 t213 t214 t215 t218))=some r:=H
  have A10:=A_ A100
  clear A100
  have HC11:=A_ H
  clear H
  go_enter Tryz.func3,Tryz.ntmps3
  go_upto_region 8 with (first|((with_reducible refine gate_dst (N:=1) rfl ?_);refine box_event ?hg (N:=1) ?hd (cs:=#[.int .i64 a0_0,.int .i64 a0_1,.string a0_2,.string a0_3,.slice A0_4 l0_4.length c0_4,.slice A0_5 l0_5.length c0_5]) (t:=25) ?hr ?_;(case hd=>rfl);(case hg=>rfl);(case hr=>first|(go_simp;done)|(go_simp;rfl)|(first|(go_simp;done)|(go_simp;rfl)));intro gb197 hg w12 hbox hb;have n0_:=A_ (bp_ (by repeat (first|(with_reducible first|exact HB.out|apply ba_|apply pd_|apply b1_)|exact HB.out)) hb);have n1_:=A_ (hbox);have n2_:=A_ ((by rw [hg];exact (bz_ (by repeat (first|(with_reducible first|exact HB.out|apply ba_|apply pd_|apply b1_)|exact HB.out))):w.heap.size≤gb197));have n3_:=A_ ((by rw [hg];exact (bz_ (by repeat (first|(with_reducible first|exact HB.out|apply ba_|apply pd_|apply b1_)|exact HB.out))):w.heap.size≤gb197));clear HB;have HB:=n0_;have BK197:=n1_;have GW197:=n2_;have GE197:=n3_;clear n0_ n1_ n2_ n3_;clear hb hbox hg;have hcz13_0:w12.cell? ⟨gb197,0,none⟩=some (.int .i64 a0_0):=(bc_ BK197.out 0).trans rfl;have hcz13_1:w12.cell? ⟨gb197,1,none⟩=some (.int .i64 a0_1):=(bc_ BK197.out 1).trans rfl;have hcz13_2:w12.cell? ⟨gb197,2,none⟩=some (.string a0_2):=(bc_ BK197.out 2).trans rfl;have hcz13_3:w12.cell? ⟨gb197,3,none⟩=some (.string a0_3):=(bc_ BK197.out 3).trans rfl;have hcz13_4:w12.cell? ⟨gb197,4,none⟩=some (.slice A0_4 l0_4.length c0_4):=(bc_ BK197.out 4).trans rfl;have hcz13_5:w12.cell? ⟨gb197,5,none⟩=some (.slice A0_5 l0_5.length c0_5):=(bc_ BK197.out 5).trans rfl;have hfz13_0:=bf_ BK197.out 0;have hfz13_1:=bf_ BK197.out 1;have hfz13_2:=bf_ BK197.out 2;have hfz13_3:=bf_ BK197.out 3;have hfz13_4:=bf_ BK197.out 4;have hfz13_5:=bf_ BK197.out 5)|((with_reducible refine gate_callee (f:=4) rfl ?_);refine goesL_ (some 11) rfl rfl Tryz.func4 (by kernel_rfl) rfl #[.agg #[.int .i64 a0_0,.int .i64 a0_1,.string a0_2,.string a0_3,.slice A0_4 l0_4.length c0_4,.slice A0_5 l0_5.length c0_5],.int .i64 1048576] rfl (by (try simp only [List.map_toArray,List.map_cons,List.map_nil]);first|done|rfl|(simp only [ld_,lt_];rfl)) ?_;(with_reducible refine (laws_szNode.calls k a0_0 a0_1 a0_2 a0_3 _ _ l0_4 _ _ l0_5 1048576 t198 _ ?side1 ?side2 ?side3 ?side4 A2.out).mono ?_);(case side1=>repeat (first|exact (cb_ HR0_4.out HB.out)|(with_reducible refine ca_ ?_ _)|(with_reducible refine cn_ ?_ _)|(with_reducible refine cd_ ?_)));(case side2=>exact HC0_4.out);(case side3=>repeat (first|exact (cb_ HR0_5.out HB.out)|(with_reducible refine ca_ ?_ _)|(with_reducible refine cn_ ?_ _)|(with_reducible refine cd_ ?_)));(case side4=>exact HC0_5.out);rintro e w14 ⟨rfl,hb⟩;refine ⟨_,rfl,?_⟩;have n0_:=A_ (kb_ (g:=gb197) (o:=.cells #[.int .i64 a0_0,.int .i64 a0_1,.string a0_2,.string a0_3,.slice A0_4 l0_4.length c0_4,.slice A0_5 l0_5.length c0_5] 25 (0,0)) (by (with_reducible repeat (first|refine kn_ ?_ _|refine kd_ ?_|refine ka_ ?_ _));exact BK197.out) hb);have n1_:=A_ (bp_ (by repeat (first|(with_reducible first|exact HB.out|apply ba_|apply pd_|apply b1_|refine bs_ ?_ GE197.out)|exact HB.out)) hb);clear BK197;clear HB;have BK197:=n0_;have HB:=n1_;clear n0_ n1_;(try clear hb);(try clear hb2);(try clear hk);(try clear hi);have hcz15_0:w14.cell? ⟨gb197,0,none⟩=some (.int .i64 a0_0):=(bc_ BK197.out 0).trans rfl;have hcz15_1:w14.cell? ⟨gb197,1,none⟩=some (.int .i64 a0_1):=(bc_ BK197.out 1).trans rfl;have hcz15_2:w14.cell? ⟨gb197,2,none⟩=some (.string a0_2):=(bc_ BK197.out 2).trans rfl;have hcz15_3:w14.cell? ⟨gb197,3,none⟩=some (.string a0_3):=(bc_ BK197.out 3).trans rfl;have hcz15_4:w14.cell? ⟨gb197,4,none⟩=some (.slice A0_4 l0_4.length c0_4):=(bc_ BK197.out 4).trans rfl;have hcz15_5:w14.cell? ⟨gb197,5,none⟩=some (.slice A0_5 l0_5.length c0_5):=(bc_ BK197.out 5).trans rfl;have hfz15_0:=bf_ BK197.out 0;have hfz15_1:=bf_ BK197.out 1;have hfz15_2:=bf_ BK197.out 2;have hfz15_3:=bf_ BK197.out 3;have hfz15_4:=bf_ BK197.out 4;have hfz15_5:=bf_ BK197.out 5)|((with_reducible refine gate_callee (f:=6) rfl ?_);refine goesL_ (some 16) rfl rfl Tryz.func6 (by kernel_rfl) rfl #[.agg #[.int .i64 a0_0,.int .i64 a0_1,.string a0_2,.string a0_3,.slice A0_4 l0_4.length c0_4,.slice A0_5 l0_5.length c0_5]] rfl (by (try simp only [List.map_toArray,List.map_cons,List.map_nil]);first|done|rfl|(simp only [ld_,lt_];rfl)) ?_;(with_reducible refine (laws_toNode.calls k a0_0 a0_1 a0_2 a0_3 _ _ l0_4 _ _ l0_5 t199 t200 t201 t202 t203 t206 _ ?side1 ?side2 ?side3 ?side4 A7.out).mono ?_);(case side1=>repeat (first|exact (cb_ HR0_4.out HB.out)|(with_reducible refine ca_ ?_ _)|(with_reducible refine cn_ ?_ _)|(with_reducible refine cd_ ?_)));(case side2=>exact HC0_4.out);(case side3=>repeat (first|exact (cb_ HR0_5.out HB.out)|(with_reducible refine ca_ ?_ _)|(with_reducible refine cn_ ?_ _)|(with_reducible refine cd_ ?_)));(case side4=>exact HC0_5.out);rintro e w16 ⟨v204,v207,rfl,ho0,ho1,hb⟩;refine ⟨_,rfl,?_⟩;have n0_:=A_ (Kd.R_lower ho0 (bz_ (by repeat (first|(with_reducible first|exact HB.out|apply ba_|apply pd_|apply b1_|refine bs_ ?_ GE197.out)|exact HB.out))));have n1_:=A_ (Kd.R_lower ho1 (bz_ (by repeat (first|(with_reducible first|exact HB.out|apply ba_|apply pd_|apply b1_|refine bs_ ?_ GE197.out)|exact HB.out))));have n2_:=A_ (kb_ (g:=gb197) (o:=.cells #[.int .i64 a0_0,.int .i64 a0_1,.string a0_2,.string a0_3,.slice A0_4 l0_4.length c0_4,.slice A0_5 l0_5.length c0_5] 25 (0,0)) (by (with_reducible repeat (first|refine kn_ ?_ _|refine kd_ ?_|refine ka_ ?_ _));exact BK197.out) hb);have n3_:=A_ (bp_ (by repeat (first|(with_reducible first|exact HB.out|apply ba_|apply pd_|apply b1_|refine bs_ ?_ GE197.out)|exact HB.out)) hb);clear BK197;clear HB;have HO205:=n0_;have HO208:=n1_;have BK197:=n2_;have HB:=n3_;clear n0_ n1_ n2_ n3_;(try clear hb);(try clear hb2);(try clear hk);(try clear hi);(try clear ho0);(try clear ho1);obtain ⟨Ao17,co17,eo17⟩:=Kd.R_slice HO205.out;subst eo17;obtain ⟨Ao18,co18,eo18⟩:=Kd.R_slice HO208.out;subst eo18)|((with_reducible refine gate_callee (f:=5) rfl ?_);refine goesL_ (some 17) rfl rfl Tryz.func5 (by kernel_rfl) rfl #[.agg #[.int .i64 t199,.int .i64 t200,.string t201,.string t202,.slice Ao17 t203.length co17,.slice Ao18 t206.length co18]] rfl (by (try simp only [List.map_toArray,List.map_cons,List.map_nil]);first|done|rfl|(simp only [ld_,lt_];rfl)) ?_;(with_reducible refine (spec_StartTag.calls k t199 t200 t201 t202 _ _ t203 _ _ t206 t209 t210 _ ?side1 ?side2 ?side3 ?side4 A8.out).mono ?_);(case side1=>repeat (first|exact (Kd.R_reads' HO205.out).2.2|(with_reducible refine ca_ ?_ _)|(with_reducible refine cn_ ?_ _)|(with_reducible refine cd_ ?_)));(case side2=>exact (Kd.R_reads' HO205.out).2.1);(case side3=>repeat (first|exact (Kd.R_reads' HO208.out).2.2|(with_reducible refine ca_ ?_ _)|(with_reducible refine cn_ ?_ _)|(with_reducible refine cd_ ?_)));(case side4=>exact (Kd.R_reads' HO208.out).2.1);rintro e w19 ⟨rfl,hb⟩;refine ⟨_,rfl,?_⟩;have n0_:=A_ (Kd.R_below (by (with_reducible repeat (first|apply Kd.R_alloc|apply Kd.R_drewN|apply Kd.R_drew));exact HO205.out) hb);have n1_:=A_ (Kd.R_below (by (with_reducible repeat (first|apply Kd.R_alloc|apply Kd.R_drewN|apply Kd.R_drew));exact HO208.out) hb);have n2_:=A_ (kb_ (g:=gb197) (o:=.cells #[.int .i64 a0_0,.int .i64 a0_1,.string a0_2,.string a0_3,.slice A0_4 l0_4.length c0_4,.slice A0_5 l0_5.length c0_5] 25 (0,0)) (by (with_reducible repeat (first|refine kn_ ?_ _|refine kd_ ?_|refine ka_ ?_ _));exact BK197.out) hb);have n3_:=A_ (bp_ (by repeat (first|(with_reducible first|exact HB.out|apply ba_|apply pd_|apply b1_|refine bs_ ?_ GE197.out)|exact HB.out)) hb);clear HO205;clear HO208;clear BK197;clear HB;have HO205:=n0_;have HO208:=n1_;have BK197:=n2_;have HB:=n3_;clear n0_ n1_ n2_ n3_;(try clear hb);(try clear hb2);(try clear hk);(try clear hi);have hcz20_0:w19.cell? ⟨gb197,0,none⟩=some (.int .i64 a0_0):=(bc_ BK197.out 0).trans rfl;have hcz20_1:w19.cell? ⟨gb197,1,none⟩=some (.int .i64 a0_1):=(bc_ BK197.out 1).trans rfl;have hcz20_2:w19.cell? ⟨gb197,2,none⟩=some (.string a0_2):=(bc_ BK197.out 2).trans rfl;have hcz20_3:w19.cell? ⟨gb197,3,none⟩=some (.string a0_3):=(bc_ BK197.out 3).trans rfl;have hcz20_4:w19.cell? ⟨gb197,4,none⟩=some (.slice A0_4 l0_4.length c0_4):=(bc_ BK197.out 4).trans rfl;have hcz20_5:w19.cell? ⟨gb197,5,none⟩=some (.slice A0_5 l0_5.length c0_5):=(bc_ BK197.out 5).trans rfl;have hfz20_0:=bf_ BK197.out 0;have hfz20_1:=bf_ BK197.out 1;have hfz20_2:=bf_ BK197.out 2;have hfz20_3:=bf_ BK197.out 3;have hfz20_4:=bf_ BK197.out 4;have hfz20_5:=bf_ BK197.out 5)|((with_reducible refine gate_callee (f:=6) rfl ?_);refine goesL_ (some 21) rfl rfl Tryz.func6 (by kernel_rfl) rfl #[.agg #[.int .i64 a0_0,.int .i64 a0_1,.string a0_2,.string a0_3,.slice A0_4 l0_4.length c0_4,.slice A0_5 l0_5.length c0_5]] rfl (by (try simp only [List.map_toArray,List.map_cons,List.map_nil]);first|done|rfl|(simp only [ld_,lt_];rfl)) ?_;(with_reducible refine (laws_toNode.calls k a0_0 a0_1 a0_2 a0_3 _ _ l0_4 _ _ l0_5 t211 t212 t213 t214 t215 t218 _ ?side1 ?side2 ?side3 ?side4 A9.out).mono ?_);(case side1=>repeat (first|exact (cb_ HR0_4.out HB.out)|(with_reducible refine ca_ ?_ _)|(with_reducible refine cn_ ?_ _)|(with_reducible refine cd_ ?_)));(case side2=>exact HC0_4.out);(case side3=>repeat (first|exact (cb_ HR0_5.out HB.out)|(with_reducible refine ca_ ?_ _)|(with_reducible refine cn_ ?_ _)|(with_reducible refine cd_ ?_)));(case side4=>exact HC0_5.out);rintro e w21 ⟨v216,v219,rfl,ho0,ho1,hb⟩;refine ⟨_,rfl,?_⟩;have n0_:=A_ (Kd.R_elder' (by (with_reducible repeat (first|apply Kd.R_alloc|apply Kd.R_drewN|apply Kd.R_drew));exact HO205.out) (Kd.R_base ho0) hb);have n1_:=A_ (Kd.R_mono (Kd.R_told (Kd.R_told (Kd.R_old (by (with_reducible repeat (first|apply Kd.R_alloc|apply Kd.R_drewN|apply Kd.R_drew));exact HO208.out) hb) (Kd.R_base ho0)) (Kd.R_base ho1)) (fun _ h_=>h_.1));have n2_:=A_ (Kd.R_lower (Kd.R_new' ho0 (Kd.R_lt (by (with_reducible repeat (first|apply Kd.R_alloc|apply Kd.R_drewN|apply Kd.R_drew));exact HO205.out))) (bz_ (by repeat (first|(with_reducible first|exact HB.out|apply ba_|apply pd_|apply b1_|refine bs_ ?_ GE197.out)|exact HB.out))));have n3_:=A_ (Kd.R_lower (Kd.R_new' (Kd.R_new' ho1 (Kd.R_lt (by (with_reducible repeat (first|apply Kd.R_alloc|apply Kd.R_drewN|apply Kd.R_drew));exact HO205.out))) (Kd.R_lt (by (with_reducible repeat (first|apply Kd.R_alloc|apply Kd.R_drewN|apply Kd.R_drew));exact HO208.out))) (bz_ (by repeat (first|(with_reducible first|exact HB.out|apply ba_|apply pd_|apply b1_|refine bs_ ?_ GE197.out)|exact HB.out))));have n4_:=A_ (kb_ (g:=gb197) (o:=.cells #[.int .i64 a0_0,.int .i64 a0_1,.string a0_2,.string a0_3,.slice A0_4 l0_4.length c0_4,.slice A0_5 l0_5.length c0_5] 25 (0,0)) (by (with_reducible repeat (first|refine kn_ ?_ _|refine kd_ ?_|refine ka_ ?_ _));exact BK197.out) hb);have n5_:=A_ (bp_ (by repeat (first|(with_reducible first|exact HB.out|apply ba_|apply pd_|apply b1_|refine bs_ ?_ GE197.out)|exact HB.out)) hb);clear HO205;clear HO208;clear BK197;clear HB;have HO205:=n0_;have HO208:=n1_;have HO217:=n2_;have HO220:=n3_;have BK197:=n4_;have HB:=n5_;clear n0_ n1_ n2_ n3_ n4_ n5_;(try clear hb);(try clear hb2);(try clear hk);(try clear hi);(try clear ho0);(try clear ho1))|((with_reducible refine gate_dst (N:=6) rfl ?_);refine box_event ?hg (N:=6) ?hd (cs:=#[.int .i64 0,.int .i64 0,.string (⟨#[]⟩:ByteArray),.string (⟨#[]⟩:ByteArray),.slice none 0 0,.slice none 0 0]) (t:=32) ?hr ?_;(case hd=>rfl);(case hg=>rfl);(case hr=>first|(go_simp;done)|(go_simp;rfl)|((first|(obtain ⟨_,_,rfl⟩:=Kd.R_slice HO205.out)|(obtain ⟨_,_,rfl⟩:=Kd.S_slice HO205.out)|skip);(first|(obtain ⟨_,_,rfl⟩:=Kd.R_slice HO208.out)|(obtain ⟨_,_,rfl⟩:=Kd.S_slice HO208.out)|skip);(first|(obtain ⟨_,_,rfl⟩:=Kd.R_slice HO217.out)|(obtain ⟨_,_,rfl⟩:=Kd.S_slice HO217.out)|skip);(first|(obtain ⟨_,_,rfl⟩:=Kd.R_slice HO220.out)|(obtain ⟨_,_,rfl⟩:=Kd.S_slice HO220.out)|skip);first|(go_simp;done)|(go_simp;rfl)));intro gb221 hg w22 hbox hb;have n0_:=A_ (Kd.R_below (by (with_reducible repeat (first|apply Kd.R_alloc|apply Kd.R_drewN|apply Kd.R_drew));exact HO205.out) hb);have n1_:=A_ (Kd.R_below (Kd.R_elderB (by (with_reducible repeat (first|apply Kd.R_alloc|apply Kd.R_drewN|apply Kd.R_drew));exact HO208.out) gb221 (Nat.le_of_eq hg.symm)) hb);have n2_:=A_ (Kd.R_below (by (with_reducible repeat (first|apply Kd.R_alloc|apply Kd.R_drewN|apply Kd.R_drew));exact HO217.out) hb);have n3_:=A_ (Kd.R_below (Kd.R_elderB (by (with_reducible repeat (first|apply Kd.R_alloc|apply Kd.R_drewN|apply Kd.R_drew));exact HO220.out) gb221 (Nat.le_of_eq hg.symm)) hb);have n4_:=A_ (kb_ (g:=gb197) (o:=.cells #[.int .i64 a0_0,.int .i64 a0_1,.string a0_2,.string a0_3,.slice A0_4 l0_4.length c0_4,.slice A0_5 l0_5.length c0_5] 25 (0,0)) (by (with_reducible repeat (first|refine kn_ ?_ _|refine kd_ ?_|refine ka_ ?_ _));exact BK197.out) hb);have n5_:=A_ (bp_ (by repeat (first|(with_reducible first|exact HB.out|apply ba_|apply pd_|apply b1_|refine bs_ ?_ GE197.out)|exact HB.out)) hb);have n6_:=A_ (hbox);have n7_:=A_ ((by rw [hg];exact (bz_ (by repeat (first|(with_reducible first|exact HB.out|apply ba_|apply pd_|apply b1_|refine bs_ ?_ GE197.out)|exact HB.out))):w.heap.size≤gb221));have n8_:=A_ ((by rw [hg];exact (bz_ (by repeat (first|(with_reducible first|exact HB.out|apply ba_|apply pd_|apply b1_|refine bs_ ?_ GE197.out)|exact HB.out))):w.heap.size≤gb221));have n9_:=A_ ((by rw [hg];exact Nat.ne_of_lt (blk_lt (g:=gb197) (o:=.cells #[.int .i64 a0_0,.int .i64 a0_1,.string a0_2,.string a0_3,.slice A0_4 l0_4.length c0_4,.slice A0_5 l0_5.length c0_5] 25 (0,0)) (by (with_reducible repeat (first|refine kn_ ?_ _|refine kd_ ?_|refine ka_ ?_ _));exact BK197.out)):gb197≠gb221));have n10_:=A_ ((by rw [hg];exact Nat.ne_of_gt (blk_lt (g:=gb197) (o:=.cells #[.int .i64 a0_0,.int .i64 a0_1,.string a0_2,.string a0_3,.slice A0_4 l0_4.length c0_4,.slice A0_5 l0_5.length c0_5] 25 (0,0)) (by (with_reducible repeat (first|refine kn_ ?_ _|refine kd_ ?_|refine ka_ ?_ _));exact BK197.out)):gb221≠gb197));clear HO205;clear HO208;clear HO217;clear HO220;clear BK197;clear HB;have HO205:=n0_;have HO208:=n1_;have HO217:=n2_;have HO220:=n3_;have BK197:=n4_;have HB:=n5_;have BK221:=n6_;have GW221:=n7_;have GE221:=n8_;have NB197_221:=n9_;have NB221_197:=n10_;clear n0_ n1_ n2_ n3_ n4_ n5_ n6_ n7_ n8_ n9_ n10_;clear hb hbox hg;have hnb23:=NB221_197.out;have hnc23:=NB197_221.out;have hcz24_0:w22.cell? ⟨gb221,0,none⟩=some (.int .i64 0):=(bc_ BK221.out 0).trans rfl;have hcz24_1:w22.cell? ⟨gb221,1,none⟩=some (.int .i64 0):=(bc_ BK221.out 1).trans rfl;have hcz24_2:w22.cell? ⟨gb221,2,none⟩=some (.string (⟨#[]⟩:ByteArray)):=(bc_ BK221.out 2).trans rfl;have hcz24_3:w22.cell? ⟨gb221,3,none⟩=some (.string (⟨#[]⟩:ByteArray)):=(bc_ BK221.out 3).trans rfl;have hcz24_4:w22.cell? ⟨gb221,4,none⟩=some (.slice none 0 0):=(bc_ BK221.out 4).trans rfl;have hcz24_5:w22.cell? ⟨gb221,5,none⟩=some (.slice none 0 0):=(bc_ BK221.out 5).trans rfl;have hfz24_0:=bf_ BK221.out 0;have hfz24_1:=bf_ BK221.out 1;have hfz24_2:=bf_ BK221.out 2;have hfz24_3:=bf_ BK221.out 3;have hfz24_4:=bf_ BK221.out 4;have hfz24_5:=bf_ BK221.out 5;obtain ⟨Ao25,co25,eo25⟩:=Kd.R_slice HO217.out;subst eo25;obtain ⟨Ao26,co26,eo26⟩:=Kd.R_slice HO220.out;subst eo26)|((with_reducible refine gate_callee (f:=7) rfl ?_);refine goesL_ (some 24) rfl rfl Tryz.func7 (by kernel_rfl) rfl #[.agg #[.int .i64 t211,.int .i64 t212,.string t213,.string t214,.slice Ao25 t215.length co25,.slice Ao26 t218.length co26]] rfl (by (try simp only [List.map_toArray,List.map_cons,List.map_nil]);first|done|rfl|(simp only [ld_,lt_];rfl)) ?_;(with_reducible refine (impl_StartTag.calls k t211 t212 t213 t214 _ _ t215 _ _ t218 t222 t223 _ ?side1 ?side2 ?side3 ?side4 A10.out).mono ?_);(case side1=>refine (Kd.R_reads' (e:=51) (base:=w.heap.size) (ok:=fun k_=>(True∧some k_≠(.slice Ao17 t203.length co17:Value).ownBlock)) (n:=t215.length) (c:=co25) ?_).2.2;exact (by (with_reducible repeat (first|apply Kd.R_alloc|apply Kd.R_drewN|apply Kd.R_drew));exact (Kd.R_mono (Kd.R_far (p:=⟨gb221,5,none⟩) (Kd.R_far (p:=⟨gb221,4,none⟩) (Kd.R_far (p:=⟨gb221,3,none⟩) (Kd.R_far (p:=⟨gb221,2,none⟩) (Kd.R_far (p:=⟨gb221,1,none⟩) (Kd.R_far (p:=⟨gb221,0,none⟩) (Kd.R_types HO217.out BK221.out (by decide)) (fun _ hk=>hk.2) (.int .i64 t211)) (fun _ hk=>hk.2) (.int .i64 t212)) (fun _ hk=>hk.2) (.string t213)) (fun _ hk=>hk.2) (.string t214)) (fun _ hk=>hk.2) (.slice Ao25 t215.length co25)) (fun _ hk=>hk.2) (.slice Ao26 t218.length co26)) (fun _ h_=>h_.1))));(case side2=>exact (Kd.R_reads' HO217.out).2.1);(case side3=>refine (Kd.R_reads' (e:=32) (base:=w.heap.size) (ok:=fun k_=>(((some k_≠(.slice Ao25 t215.length co25:Value).ownBlock∧some k_≠(.slice Ao17 t203.length co17:Value).ownBlock)∧some k_≠(.slice Ao18 t206.length co18:Value).ownBlock)∧k_≠gb221)) (n:=t218.length) (c:=co26) ?_).2.2;exact (by (with_reducible repeat (first|apply Kd.R_alloc|apply Kd.R_drewN|apply Kd.R_drew));exact (Kd.R_mono (Kd.R_far (p:=⟨gb221,5,none⟩) (Kd.R_far (p:=⟨gb221,4,none⟩) (Kd.R_far (p:=⟨gb221,3,none⟩) (Kd.R_far (p:=⟨gb221,2,none⟩) (Kd.R_far (p:=⟨gb221,1,none⟩) (Kd.R_far (p:=⟨gb221,0,none⟩) (Kd.R_mono HO220.out (fun k_ hk=>(⟨hk,hk.2⟩:_∧k_≠gb221))) (fun _ hk=>hk.2) (.int .i64 t211)) (fun _ hk=>hk.2) (.int .i64 t212)) (fun _ hk=>hk.2) (.string t213)) (fun _ hk=>hk.2) (.string t214)) (fun _ hk=>hk.2) (.slice Ao25 t215.length co25)) (fun _ hk=>hk.2) (.slice Ao26 t218.length co26)) (fun _ h_=>h_.1))));(case side4=>exact (Kd.R_reads' HO220.out).2.1);rintro e w27 ⟨rfl,hb⟩;refine ⟨_,rfl,?_⟩;have n0_:=A_ (Kd.R_below (by (with_reducible repeat (first|apply Kd.R_alloc|apply Kd.R_drewN|apply Kd.R_drew));exact (Kd.R_mono (Kd.R_far (p:=⟨gb221,5,none⟩) (Kd.R_far (p:=⟨gb221,4,none⟩) (Kd.R_far (p:=⟨gb221,3,none⟩) (Kd.R_far (p:=⟨gb221,2,none⟩) (Kd.R_far (p:=⟨gb221,1,none⟩) (Kd.R_far (p:=⟨gb221,0,none⟩) (Kd.R_types HO205.out BK221.out (by decide)) (fun _ hk=>hk.2) (.int .i64 t211)) (fun _ hk=>hk.2) (.int .i64 t212)) (fun _ hk=>hk.2) (.string t213)) (fun _ hk=>hk.2) (.string t214)) (fun _ hk=>hk.2) (.slice Ao25 t215.length co25)) (fun _ hk=>hk.2) (.slice Ao26 t218.length co26)) (fun _ h_=>h_.1))) hb);have n1_:=A_ (Kd.R_below (by (with_reducible repeat (first|apply Kd.R_alloc|apply Kd.R_drewN|apply Kd.R_drew));exact (Kd.R_mono (Kd.R_far (p:=⟨gb221,5,none⟩) (Kd.R_far (p:=⟨gb221,4,none⟩) (Kd.R_far (p:=⟨gb221,3,none⟩) (Kd.R_far (p:=⟨gb221,2,none⟩) (Kd.R_far (p:=⟨gb221,1,none⟩) (Kd.R_far (p:=⟨gb221,0,none⟩) (Kd.R_mono HO208.out (fun k_ hk=>(⟨hk,hk.2⟩:_∧k_≠gb221))) (fun _ hk=>hk.2) (.int .i64 t211)) (fun _ hk=>hk.2) (.int .i64 t212)) (fun _ hk=>hk.2) (.string t213)) (fun _ hk=>hk.2) (.string t214)) (fun _ hk=>hk.2) (.slice Ao25 t215.length co25)) (fun _ hk=>hk.2) (.slice Ao26 t218.length co26)) (fun _ h_=>h_.1))) hb);have n2_:=A_ (Kd.R_below (by (with_reducible repeat (first|apply Kd.R_alloc|apply Kd.R_drewN|apply Kd.R_drew));exact (Kd.R_mono (Kd.R_far (p:=⟨gb221,5,none⟩) (Kd.R_far (p:=⟨gb221,4,none⟩) (Kd.R_far (p:=⟨gb221,3,none⟩) (Kd.R_far (p:=⟨gb221,2,none⟩) (Kd.R_far (p:=⟨gb221,1,none⟩) (Kd.R_far (p:=⟨gb221,0,none⟩) (Kd.R_types HO217.out BK221.out (by decide)) (fun _ hk=>hk.2) (.int .i64 t211)) (fun _ hk=>hk.2) (.int .i64 t212)) (fun _ hk=>hk.2) (.string t213)) (fun _ hk=>hk.2) (.string t214)) (fun _ hk=>hk.2) (.slice Ao25 t215.length co25)) (fun _ hk=>hk.2) (.slice Ao26 t218.length co26)) (fun _ h_=>h_.1))) hb);have n3_:=A_ (Kd.R_below (by (with_reducible repeat (first|apply Kd.R_alloc|apply Kd.R_drewN|apply Kd.R_drew));exact (Kd.R_mono (Kd.R_far (p:=⟨gb221,5,none⟩) (Kd.R_far (p:=⟨gb221,4,none⟩) (Kd.R_far (p:=⟨gb221,3,none⟩) (Kd.R_far (p:=⟨gb221,2,none⟩) (Kd.R_far (p:=⟨gb221,1,none⟩) (Kd.R_far (p:=⟨gb221,0,none⟩) (Kd.R_mono HO220.out (fun k_ hk=>(⟨hk,hk.2⟩:_∧k_≠gb221))) (fun _ hk=>hk.2) (.int .i64 t211)) (fun _ hk=>hk.2) (.int .i64 t212)) (fun _ hk=>hk.2) (.string t213)) (fun _ hk=>hk.2) (.string t214)) (fun _ hk=>hk.2) (.slice Ao25 t215.length co25)) (fun _ hk=>hk.2) (.slice Ao26 t218.length co26)) (fun _ h_=>h_.1))) hb);have n4_:=A_ (kb_ (g:=gb197) (o:=.cells #[.int .i64 a0_0,.int .i64 a0_1,.string a0_2,.string a0_3,.slice A0_4 l0_4.length c0_4,.slice A0_5 l0_5.length c0_5] 25 (0,0)) (by (with_reducible repeat (first|refine kn_ ?_ _|refine kd_ ?_|refine ka_ ?_ _));refine blk_far ?_ NB197_221.out _;(with_reducible repeat (first|refine kn_ ?_ _|refine kd_ ?_|refine ka_ ?_ _));refine blk_far ?_ NB197_221.out _;(with_reducible repeat (first|refine kn_ ?_ _|refine kd_ ?_|refine ka_ ?_ _));refine blk_far ?_ NB197_221.out _;(with_reducible repeat (first|refine kn_ ?_ _|refine kd_ ?_|refine ka_ ?_ _));refine blk_far ?_ NB197_221.out _;(with_reducible repeat (first|refine kn_ ?_ _|refine kd_ ?_|refine ka_ ?_ _));refine blk_far ?_ NB197_221.out _;(with_reducible repeat (first|refine kn_ ?_ _|refine kd_ ?_|refine ka_ ?_ _));refine blk_far ?_ NB197_221.out _;(with_reducible repeat (first|refine kn_ ?_ _|refine kd_ ?_|refine ka_ ?_ _));exact BK197.out) hb);have n5_:=A_ (kb_ (g:=gb221) (o:=.cells #[.int .i64 t211,.int .i64 t212,.string t213,.string t214,.slice Ao25 t215.length co25,.slice Ao26 t218.length co26] 32 (0,0)) (by (with_reducible repeat (first|refine kn_ ?_ _|refine kd_ ?_|refine ka_ ?_ _));refine blk_put (cs:=#[.int .i64 t211,.int .i64 t212,.string t213,.string t214,.slice Ao25 t215.length co25,.slice none 0 0]) ?_ 5 _ rfl;(with_reducible repeat (first|refine kn_ ?_ _|refine kd_ ?_|refine ka_ ?_ _));refine blk_put (cs:=#[.int .i64 t211,.int .i64 t212,.string t213,.string t214,.slice none 0 0,.slice none 0 0]) ?_ 4 _ rfl;(with_reducible repeat (first|refine kn_ ?_ _|refine kd_ ?_|refine ka_ ?_ _));refine blk_put (cs:=#[.int .i64 t211,.int .i64 t212,.string t213,.string (⟨#[]⟩:ByteArray),.slice none 0 0,.slice none 0 0]) ?_ 3 _ rfl;(with_reducible repeat (first|refine kn_ ?_ _|refine kd_ ?_|refine ka_ ?_ _));refine blk_put (cs:=#[.int .i64 t211,.int .i64 t212,.string (⟨#[]⟩:ByteArray),.string (⟨#[]⟩:ByteArray),.slice none 0 0,.slice none 0 0]) ?_ 2 _ rfl;(with_reducible repeat (first|refine kn_ ?_ _|refine kd_ ?_|refine ka_ ?_ _));refine blk_put (cs:=#[.int .i64 t211,.int .i64 0,.string (⟨#[]⟩:ByteArray),.string (⟨#[]⟩:ByteArray),.slice none 0 0,.slice none 0 0]) ?_ 1 _ rfl;(with_reducible repeat (first|refine kn_ ?_ _|refine kd_ ?_|refine ka_ ?_ _));refine blk_put (cs:=#[.int .i64 0,.int .i64 0,.string (⟨#[]⟩:ByteArray),.string (⟨#[]⟩:ByteArray),.slice none 0 0,.slice none 0 0]) ?_ 0 _ rfl;(with_reducible repeat (first|refine kn_ ?_ _|refine kd_ ?_|refine ka_ ?_ _));exact BK221.out) hb);have n6_:=A_ (bp_ (by repeat (first|(with_reducible first|exact HB.out|apply ba_|apply pd_|apply b1_|refine bs_ ?_ GE197.out|refine bs_ ?_ GE221.out)|exact HB.out)) hb);clear HO205;clear HO208;clear HO217;clear HO220;clear BK197;clear BK221;clear HB;have HO205:=n0_;have HO208:=n1_;have HO217:=n2_;have HO220:=n3_;have BK197:=n4_;have BK221:=n5_;have HB:=n6_;clear n0_ n1_ n2_ n3_ n4_ n5_ n6_;(try clear hb);(try clear hb2);(try clear hk);(try clear hi)))
  (try simp only [Act.put,ls_,lz_,lc_])
  go_cut [34] (fun v34 wc=>∃ (kq:Nat) (x34_10:Bool),v34=.bool x34_10∧Aside0 (laws_FnExactStartTag.j0 kq x34_10 a0_0 a0_1 a0_2 a0_3 l0_4 l0_5 t211 t212 t213 t214 t215 t218=some r)∧Aside0 (kq≤k)∧Aside0 (Kd.R k51 51 wc w.heap.size (fun _=>True) (.slice Ao25 t215.length co25) t215)∧Aside0 (Kd.R k32 32 wc w.heap.size (fun k_=>some k_≠((.slice Ao25 t215.length co25):Value).ownBlock∧k_≠gb221) (.slice Ao26 t218.length co26) t218)∧Aside0 (wc.heap[gb197]? = some (.cells #[.int .i64 a0_0,.int .i64 a0_1,.string a0_2,.string a0_3,(.slice A0_4 l0_4.length c0_4),(.slice A0_5 l0_5.length c0_5)] 25 (0,0)))∧Aside0 (wc.heap[gb221]? = some (.cells #[.int .i64 t211,.int .i64 t212,.string t213,.string t214,(.slice Ao25 t215.length co25),(.slice Ao26 t218.length co26)] 32 (0,0)))∧Aside0 (Below w.heap.size w wc))
  case first =>
   have H:=HC11.out
   clear HC11
   by_cases c28:t222.toList=t209.toList
   ·rw [if_pos c28] at H
    have c28b0:(t222.toList == t209.toList)=true:=beq_iff_eq.mpr c28
    have c28b1:(t222.toList != t209.toList)=false:=bne_eq_false_iff_eq.mpr c28
    clear c28
    (first|rw [c28b0]|(simp only [i64_w,i32_w];rw [c28b0])|skip)
    have H':=A_ H
    clear H
    go_wp2
    go_meet
    case rel=>exact ⟨_,((t223 != t210)),(by first|rfl|(simp;done)|(simp [*];done)),H',⟨by first|omega|exact Nat.le_refl _⟩,⟨by (with_reducible repeat (first|apply Kd.R_alloc|apply Kd.R_drewN|apply Kd.R_drew));exact Kd.R_mono HO217.out (fun _ hk=>trivial)⟩,⟨by (with_reducible repeat (first|apply Kd.R_alloc|apply Kd.R_drewN|apply Kd.R_drew));exact Kd.R_mono HO220.out (fun _ hk=>⟨hk.1.1.1,hk.2⟩)⟩,⟨by (with_reducible repeat (first|refine kn_ ?_ _|refine kd_ ?_|refine ka_ ?_ _));exact BK197.out⟩,⟨by (with_reducible repeat (first|refine kn_ ?_ _|refine kd_ ?_|refine ka_ ?_ _));exact BK221.out⟩,⟨by repeat (first|(with_reducible first|exact HB.out|apply ba_|apply pd_|apply b1_|refine bs_ ?_ GE197.out|refine bs_ ?_ GE221.out)|exact HB.out)⟩⟩
   ·rw [if_neg c28] at H
    have c28b0:(t222.toList == t209.toList)=false:=beq_eq_false_iff_ne.mpr c28
    have c28b1:(t222.toList != t209.toList)=true:=bne_iff_ne.mpr c28
    (first|rw [c28b0]|(simp only [i64_w,i32_w];rw [c28b0])|skip)
    have H':=A_ H
    clear H
    go_wp2
    go_meet
    case rel=>exact ⟨_,(true),(by first|rfl|(simp;done)|(simp [*];done)),H',⟨by first|omega|exact Nat.le_refl _⟩,⟨by (with_reducible repeat (first|apply Kd.R_alloc|apply Kd.R_drewN|apply Kd.R_drew));exact Kd.R_mono HO217.out (fun _ hk=>trivial)⟩,⟨by (with_reducible repeat (first|apply Kd.R_alloc|apply Kd.R_drewN|apply Kd.R_drew));exact Kd.R_mono HO220.out (fun _ hk=>⟨hk.1.1.1,hk.2⟩)⟩,⟨by (with_reducible repeat (first|refine kn_ ?_ _|refine kd_ ?_|refine ka_ ?_ _));exact BK197.out⟩,⟨by (with_reducible repeat (first|refine kn_ ?_ _|refine kd_ ?_|refine ka_ ?_ _));exact BK221.out⟩,⟨by repeat (first|(with_reducible first|exact HB.out|apply ba_|apply pd_|apply b1_|refine bs_ ?_ GE197.out|refine bs_ ?_ GE221.out)|exact HB.out)⟩⟩
  case rest =>
   clear HC11
   try clear c2
   try clear p2
   try clear c3
   try clear c3b0
   try clear c4
   try clear c5
   try clear c6
   try clear c7
   try clear c23
   try clear c28
   try clear c28b0
   try clear c28b1
   try clear hcz13_0
   try clear hcz13_1
   try clear hcz13_2
   try clear hcz13_3
   try clear hcz13_4
   try clear hcz13_5
   try clear hcz15_0
   try clear hcz15_1
   try clear hcz15_2
   try clear hcz15_3
   try clear hcz15_4
   try clear hcz15_5
   try clear hcz20_0
   try clear hcz20_1
   try clear hcz20_2
   try clear hcz20_3
   try clear hcz20_4
   try clear hcz20_5
   try clear hcz24_0
   try clear hcz24_1
   try clear hcz24_2
   try clear hcz24_3
   try clear hcz24_4
   try clear hcz24_5
   try clear hcz5_0
   try clear hcz5_1
   try clear hcz5_2
   try clear hcz5_3
   try clear hcz5_4
   try clear hcz5_5
   try clear hfz13_0
   try clear hfz13_1
   try clear hfz13_2
   try clear hfz13_3
   try clear hfz13_4
   try clear hfz13_5
   try clear hfz15_0
   try clear hfz15_1
   try clear hfz15_2
   try clear hfz15_3
   try clear hfz15_4
   try clear hfz15_5
   try clear hfz20_0
   try clear hfz20_1
   try clear hfz20_2
   try clear hfz20_3
   try clear hfz20_4
   try clear hfz20_5
   try clear hfz24_0
   try clear hfz24_1
   try clear hfz24_2
   try clear hfz24_3
   try clear hfz24_4
   try clear hfz24_5
   try clear hfz5_0
   try clear hfz5_1
   try clear hfz5_2
   try clear hfz5_3
   try clear hfz5_4
   try clear hfz5_5
   obtain ⟨kq,x34_10,rfl,HA,HJ10,HO_222004,HO_222005,BK197,BK221,HB⟩:=hcut
   cases kq with
   | zero=>exact absurd HA.out (by simp [laws_FnExactStartTag.j0])
   | succ kj10 =>
    have H:=HA.out
    clear HA
    simp only [laws_FnExactStartTag.j0] at H
    by_cases c29:x34_10=true
    ·subst c29
     have H1:(some false)=some r:=by rw [if_pos rfl] at H;exact H
     clear H
     have H:=H1
     clear H1
     exact absurd ((oi_ H).trans HRT.out) (by decide)
    ·replace c29:=bm_ c29
     subst c29
     have H1:((laws_toNode.f kj10 a0_0 a0_1 a0_2 a0_3 l0_4 l0_5).bind fun bt224=>((laws_eqNode.f kj10 t211 t212 t213 t214 t215 t218 bt224.1 bt224.2.1 bt224.2.2.1 bt224.2.2.2.1 bt224.2.2.2.2.1 bt224.2.2.2.2.2).bind fun t234=>(if t234=true then (some true) else (some false))))=some r:=by rw [if_neg (show ¬ (false=true) by decide)] at H;exact H
     clear H
     have H:=H1
     clear H1
     replace H:=ob_ H
     obtain ⟨⟨t224,t225,t226,t227,t228,t231⟩,A300,H⟩:=H
     replace H:((laws_eqNode.f kj10 t211 t212 t213 t214 t215 t218 t224 t225 t226 t227 t228 t231).bind fun t234=>(if t234=true then (some true) else (some false)))=some r:=H
     have A30:=A_ A300
     clear A300
     replace H:=ob_ H
     obtain ⟨t234,A310,H⟩:=H
     replace H:(if t234=true then (some true) else (some false))=some r:=H
     have A31:=A_ A310
     clear A310
     by_cases c32:t234=true
     ·subst c32
      have H1:(some true)=some r:=by rw [if_pos rfl] at H;exact H
      clear H
      have H:=H1
      clear H1
      obtain rfl:=oi_ H
      try go_wp2
      have n0_:=A_ (Kd.R_drew HO_222004.out)
      have n1_:=A_ (Kd.R_drew HO_222005.out)
      have n2_:=A_ (kd_ BK197.out)
      have n3_:=A_ (kd_ BK221.out)
      have n4_:=A_ (b1_ HB.out)
      clear HO_222004
      clear HO_222005
      clear BK197
      clear BK221
      clear HB
      have HO_222004:=n0_
      have HO_222005:=n1_
      have BK197:=n2_
      have BK221:=n3_
      have HB:=n4_
      clear n0_ n1_ n2_ n3_ n4_
      refine start_ (n:=5) (S:=fun w'=>w'.cell? ⟨gb221,0,none⟩=some (.int .i64 t211)∧w'.cell? ⟨gb221,1,none⟩=some (.int .i64 t212)∧w'.cell? ⟨gb221,2,none⟩=some (.string t213)∧w'.cell? ⟨gb221,3,none⟩=some (.string t214)∧w'.cell? ⟨gb221,4,none⟩=some (.slice Ao25 t215.length co25)∧w'.cell? ⟨gb221,5,none⟩=some (.slice Ao26 t218.length co26)∧w'.cell? ⟨gb197,0,none⟩=some (.int .i64 a0_0)∧w'.cell? ⟨gb197,1,none⟩=some (.int .i64 a0_1)∧w'.cell? ⟨gb197,2,none⟩=some (.string a0_2)∧w'.cell? ⟨gb197,3,none⟩=some (.string a0_3)∧w'.cell? ⟨gb197,4,none⟩=some (.slice A0_4 l0_4.length c0_4)∧w'.cell? ⟨gb197,5,none⟩=some (.slice A0_5 l0_5.length c0_5)) (ds:=[]) #[F_,F_,F_,F_,F_] (by kernel_rfl) rfl rfl ⟨(bc_ BK221.out 0).trans rfl,(bc_ BK221.out 1).trans rfl,(bc_ BK221.out 2).trans rfl,(bc_ BK221.out 3).trans rfl,(bc_ BK221.out 4).trans rfl,(bc_ BK221.out 5).trans rfl,(bc_ BK197.out 0).trans rfl,(bc_ BK197.out 1).trans rfl,(bc_ BK197.out 2).trans rfl,(bc_ BK197.out 3).trans rfl,(bc_ BK197.out 4).trans rfl,(bc_ BK197.out 5).trans rfl⟩ (fun hHeld=>?_)
      generalize wc.drew=w33 at HO_222004 HO_222005 BK197 BK221 HB hHeld ⊢
      refine take_ (i:=0) (N:=some 35) (v:=?_) (a':=?_) #[T_,F_,F_,F_,F_] rfl rfl (by kernel_rfl) (fun _ _ _ h=>h) (Or.inl ⟨by rfl,?_⟩) hHeld ?_ ?_
      rotate_left
      ·rintro w' ⟨s0,s1,s2,s3,s4,s5,s6,s7,s8,s9,s10,s11⟩
       go_simp
       with_reducible rfl
      rotate_left
      ·simp only [Act.put,ls_,lz_,lc_,i64_w,i32_w]
       rfl
      refine take_ (i:=1) (N:=some 36) (v:=?_) (a':=?_) #[T_,T_,F_,F_,F_] rfl rfl (by kernel_rfl) (fun _ _ _ h=>h) (Or.inl ⟨by rfl,?_⟩) hHeld ?_ ?_
      rotate_left
      ·rintro w' ⟨s0,s1,s2,s3,s4,s5,s6,s7,s8,s9,s10,s11⟩
       go_simp
       with_reducible rfl
      rotate_left
      ·simp only [Act.put,ls_,lz_,lc_,i64_w,i32_w]
       rfl
      refine one_ (i:=2) (N:=some 37) #[T_,T_,T_,F_,F_] rfl rfl (by kernel_rfl) (by decide) (fun K hK=>?_)
      refine goes_ Tryz.func6 (by kernel_rfl) rfl #[.agg #[.int .i64 a0_0,.int .i64 a0_1,.string a0_2,.string a0_3,.slice A0_4 l0_4.length c0_4,.slice A0_5 l0_5.length c0_5]] (by rfl) rfl rfl (by (try simp only [List.map_toArray,List.map_cons,List.map_nil]);first|done|rfl|(simp only [ld_,lt_];rfl)) ?_
      with_reducible refine (laws_toNode.calls kj10 a0_0 a0_1 a0_2 a0_3 _ _ l0_4 _ _ l0_5 t224 t225 t226 t227 t228 t231 _ ?side1 ?side2 ?side3 ?side4 A30.out).mono ?_
      (case side1=>repeat (first|exact (cb_ HR0_4.out HB.out)|(with_reducible refine ca_ ?_ _)|(with_reducible refine cn_ ?_ _)|(with_reducible refine cd_ ?_)))
      (case side2=>exact HC0_4.out)
      (case side3=>repeat (first|exact (cb_ HR0_5.out HB.out)|(with_reducible refine ca_ ?_ _)|(with_reducible refine cn_ ?_ _)|(with_reducible refine cd_ ?_)))
      (case side4=>exact HC0_5.out)
      rintro e w34 ⟨v229,v232,rfl,ho0,ho1,hb⟩
      refine ⟨_,rfl,?_⟩
      have n0_:=A_ (Kd.R_elder' (by (with_reducible repeat (first|apply Kd.R_alloc|apply Kd.R_drewN|apply Kd.R_drew));exact HO_222004.out) (Kd.R_base ho0) hb)
      have n1_:=A_ (Kd.R_mono (Kd.R_told (Kd.R_told (Kd.R_old (by (with_reducible repeat (first|apply Kd.R_alloc|apply Kd.R_drewN|apply Kd.R_drew));exact HO_222005.out) hb) (Kd.R_base ho0)) (Kd.R_base ho1)) (fun _ h_=>h_.1))
      have n2_:=A_ (Kd.R_lower (Kd.R_new' ho0 (Kd.R_lt (by (with_reducible repeat (first|apply Kd.R_alloc|apply Kd.R_drewN|apply Kd.R_drew));exact HO_222004.out))) (bz_ (by repeat (first|(with_reducible first|exact HB.out|apply ba_|apply pd_|apply b1_|refine bs_ ?_ GE197.out|refine bs_ ?_ GE221.out)|exact HB.out))))
      have n3_:=A_ (Kd.R_lower (Kd.R_newB (Kd.R_new' (Kd.R_new' ho1 (Kd.R_lt (by (with_reducible repeat (first|apply Kd.R_alloc|apply Kd.R_drewN|apply Kd.R_drew));exact HO_222004.out))) (Kd.R_lt (by (with_reducible repeat (first|apply Kd.R_alloc|apply Kd.R_drewN|apply Kd.R_drew));exact HO_222005.out))) (g:=gb221) (o:=.cells #[.int .i64 t211,.int .i64 t212,.string t213,.string t214,.slice Ao25 t215.length co25,.slice Ao26 t218.length co26] 32 (0,0)) (by (with_reducible repeat (first|refine kn_ ?_ _|refine kd_ ?_|refine ka_ ?_ _));exact BK221.out)) (bz_ (by repeat (first|(with_reducible first|exact HB.out|apply ba_|apply pd_|apply b1_|refine bs_ ?_ GE197.out|refine bs_ ?_ GE221.out)|exact HB.out))))
      have n4_:=A_ (kb_ (g:=gb197) (o:=.cells #[.int .i64 a0_0,.int .i64 a0_1,.string a0_2,.string a0_3,.slice A0_4 l0_4.length c0_4,.slice A0_5 l0_5.length c0_5] 25 (0,0)) (by (with_reducible repeat (first|refine kn_ ?_ _|refine kd_ ?_|refine ka_ ?_ _));exact BK197.out) hb)
      have n5_:=A_ (kb_ (g:=gb221) (o:=.cells #[.int .i64 t211,.int .i64 t212,.string t213,.string t214,.slice Ao25 t215.length co25,.slice Ao26 t218.length co26] 32 (0,0)) (by (with_reducible repeat (first|refine kn_ ?_ _|refine kd_ ?_|refine ka_ ?_ _));exact BK221.out) hb)
      have n6_:=A_ (bp_ (by repeat (first|(with_reducible first|exact HB.out|apply ba_|apply pd_|apply b1_|refine bs_ ?_ GE197.out|refine bs_ ?_ GE221.out)|exact HB.out)) hb)
      clear HO_222004
      clear HO_222005
      clear BK197
      clear BK221
      clear HB
      have HO_222004:=n0_
      have HO_222005:=n1_
      have HO230:=n2_
      have HO233:=n3_
      have BK197:=n4_
      have BK221:=n5_
      have HB:=n6_
      clear n0_ n1_ n2_ n3_ n4_ n5_ n6_
      (try clear hb)
      (try clear hb2)
      (try clear hk)
      (try clear hi)
      (try clear ho0)
      (try clear ho1)
      obtain ⟨Ao35,co35,eo35⟩:=Kd.R_slice HO230.out
      (first|subst eo35|(injection eo35 with f1_ f2_ f3_;have f4_:=f1_.symm;have f5_:=f3_.symm;clear f1_ f2_ f3_;subst f4_;subst f5_))
      obtain ⟨Ao36,co36,eo36⟩:=Kd.R_slice HO233.out
      (first|subst eo36|(injection eo36 with f1_ f2_ f3_;have f4_:=f1_.symm;have f5_:=f3_.symm;clear f1_ f2_ f3_;subst f4_;subst f5_))
      refine hK.out _ _ ⟨(bc_ BK221.out 0).trans rfl,(bc_ BK221.out 1).trans rfl,(bc_ BK221.out 2).trans rfl,(bc_ BK221.out 3).trans rfl,(bc_ BK221.out 4).trans rfl,(bc_ BK221.out 5).trans rfl,(bc_ BK197.out 0).trans rfl,(bc_ BK197.out 1).trans rfl,(bc_ BK197.out 2).trans rfl,(bc_ BK197.out 3).trans rfl,(bc_ BK197.out 4).trans rfl,(bc_ BK197.out 5).trans rfl⟩ (fun hHeld=>?_)
      clear hK K
      refine norm_ (a':=?_) ?_ ?_
      rotate_left
      ·show Act.put _ (some 37) _=_
       simp only [Act.put,ls_,lz_,lc_,i64_w,i32_w]
       rfl
      refine one_ (i:=3) (N:=some 38) #[T_,T_,T_,T_,F_] rfl rfl (by kernel_rfl) (by decide) (fun K hK=>?_)
      refine goes_ Tryz.func8 (by kernel_rfl) rfl #[.agg #[.int .i64 t211,.int .i64 t212,.string t213,.string t214,.slice Ao25 t215.length co25,.slice Ao26 t218.length co26],.agg #[.int .i64 t224,.int .i64 t225,.string t226,.string t227,.slice Ao35 t228.length co35,.slice Ao36 t231.length co36]] (by rfl) rfl rfl (by (try simp only [List.map_toArray,List.map_cons,List.map_nil]);first|done|rfl|(simp only [ld_,lt_];rfl)) ?_
      with_reducible refine (laws_eqNode.calls kj10 t211 t212 t213 t214 _ _ t215 _ _ t218 t224 t225 t226 t227 _ _ t228 _ _ t231 true _ ?side1 ?side2 ?side3 ?side4 ?side5 ?side6 ?side7 ?side8 A31.out).mono ?_
      (case side1=>repeat (first|exact (Kd.R_reads' HO_222004.out).2.2|(with_reducible refine ca_ ?_ _)|(with_reducible refine cn_ ?_ _)|(with_reducible refine cd_ ?_)))
      (case side2=>exact (Kd.R_reads' HO_222004.out).2.1)
      (case side3=>repeat (first|exact (Kd.R_reads' HO_222005.out).2.2|(with_reducible refine ca_ ?_ _)|(with_reducible refine cn_ ?_ _)|(with_reducible refine cd_ ?_)))
      (case side4=>exact (Kd.R_reads' HO_222005.out).2.1)
      (case side5=>repeat (first|exact (Kd.R_reads' HO230.out).2.2|(with_reducible refine ca_ ?_ _)|(with_reducible refine cn_ ?_ _)|(with_reducible refine cd_ ?_)))
      (case side6=>exact (Kd.R_reads' HO230.out).2.1)
      (case side7=>repeat (first|exact (Kd.R_reads' HO233.out).2.2|(with_reducible refine ca_ ?_ _)|(with_reducible refine cn_ ?_ _)|(with_reducible refine cd_ ?_)))
      (case side8=>exact (Kd.R_reads' HO233.out).2.1)
      rintro e w37 ⟨rfl,hb⟩
      refine ⟨_,rfl,?_⟩
      have n0_:=A_ (Kd.R_below (by (with_reducible repeat (first|apply Kd.R_alloc|apply Kd.R_drewN|apply Kd.R_drew));exact HO_222004.out) hb)
      have n1_:=A_ (Kd.R_below (by (with_reducible repeat (first|apply Kd.R_alloc|apply Kd.R_drewN|apply Kd.R_drew));exact HO_222005.out) hb)
      have n2_:=A_ (Kd.R_below (by (with_reducible repeat (first|apply Kd.R_alloc|apply Kd.R_drewN|apply Kd.R_drew));exact HO230.out) hb)
      have n3_:=A_ (Kd.R_below (by (with_reducible repeat (first|apply Kd.R_alloc|apply Kd.R_drewN|apply Kd.R_drew));exact HO233.out) hb)
      have n4_:=A_ (kb_ (g:=gb197) (o:=.cells #[.int .i64 a0_0,.int .i64 a0_1,.string a0_2,.string a0_3,.slice A0_4 l0_4.length c0_4,.slice A0_5 l0_5.length c0_5] 25 (0,0)) (by (with_reducible repeat (first|refine kn_ ?_ _|refine kd_ ?_|refine ka_ ?_ _));exact BK197.out) hb)
      have n5_:=A_ (kb_ (g:=gb221) (o:=.cells #[.int .i64 t211,.int .i64 t212,.string t213,.string t214,.slice Ao25 t215.length co25,.slice Ao26 t218.length co26] 32 (0,0)) (by (with_reducible repeat (first|refine kn_ ?_ _|refine kd_ ?_|refine ka_ ?_ _));exact BK221.out) hb)
      have n6_:=A_ (bp_ (by repeat (first|(with_reducible first|exact HB.out|apply ba_|apply pd_|apply b1_|refine bs_ ?_ GE197.out|refine bs_ ?_ GE221.out)|exact HB.out)) hb)
      clear HO_222004
      clear HO_222005
      clear HO230
      clear HO233
      clear BK197
      clear BK221
      clear HB
      have HO_222004:=n0_
      have HO_222005:=n1_
      have HO230:=n2_
      have HO233:=n3_
      have BK197:=n4_
      have BK221:=n5_
      have HB:=n6_
      clear n0_ n1_ n2_ n3_ n4_ n5_ n6_
      (try clear hb)
      (try clear hb2)
      (try clear hk)
      (try clear hi)
      refine hK.out _ _ ⟨(bc_ BK221.out 0).trans rfl,(bc_ BK221.out 1).trans rfl,(bc_ BK221.out 2).trans rfl,(bc_ BK221.out 3).trans rfl,(bc_ BK221.out 4).trans rfl,(bc_ BK221.out 5).trans rfl,(bc_ BK197.out 0).trans rfl,(bc_ BK197.out 1).trans rfl,(bc_ BK197.out 2).trans rfl,(bc_ BK197.out 3).trans rfl,(bc_ BK197.out 4).trans rfl,(bc_ BK197.out 5).trans rfl⟩ (fun hHeld=>?_)
      clear hK K
      refine norm_ (a':=?_) ?_ ?_
      rotate_left
      ·show Act.put _ (some 38) _=_
       simp only [Act.put,ls_,lz_,lc_,i64_w,i32_w]
       rfl
      refine pure_ (i:=4) (N:=some 39) (v:=?_) (a':=?_) #[T_,T_,T_,T_,T_] rfl rfl (by kernel_rfl) (fun _ _ _ h=>h) (Or.inl ⟨by rfl,?_⟩) ?_ ?_
      rotate_left
      ·intro w'
       go_simp
       with_reducible rfl
      rotate_left
      ·simp only [Act.put,ls_,lz_,lc_,i64_w,i32_w]
       rfl
      refine done_ (by kernel_rfl) ?_
      try go_wp2
      go_ret
      exact ⟨by first|rfl|(simp [errW_none,errW_some] <;> rfl)|(simp [*,errW_none,errW_some] <;> rfl),by repeat (first|(with_reducible first|exact HB.out|apply ba_|apply pd_|apply b1_|refine bs_ ?_ GE197.out|refine bs_ ?_ GE221.out)|exact HB.out)⟩
     ·replace c32:=bm_ c32
      subst c32
      have H1:(some false)=some r:=by rw [if_neg (show ¬ (false=true) by decide)] at H;exact H
      clear H
      have H:=H1
      clear H1
      exact absurd ((oi_ H).trans HRT.out) (by decide)
end Go.Proofs.YtpoaaomcpleebaaGreatDoor.PFnExactStartTag
