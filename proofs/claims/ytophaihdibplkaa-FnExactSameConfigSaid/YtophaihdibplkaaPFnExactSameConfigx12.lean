/- By a program of this session, out of the kit's print and contracts made by hand: the machine side of a law; Lean checks it. No conditions. -/
import Derived.Test.YtophaihdibplkaaPFnExactSameConfigx0
import Derived.Test.YtophaihdibplkaaPFnExactSameConfigx7
import Derived.Test.YtophaihdibplkaaPFnExactSameConfigx8
import Derived.Test.YtophaihdibplkaaPFnExactSameConfigx11
namespace Go.Proofs.Ytophaihdibplkaa.PFnExactSameConfig
open Go.RowKit Go.Proofs.YtophaihdibplkaaW.PrintWords Go.Proofs.YtophaihdibplkaaW.PrintLast Go.Proofs.YtophaihdibplkaaW.PrintMore
attribute [local go_sem] max2_int min2_int max_two min_two max_three min_three max_four min_four
set_option linter.unusedVariables false
set_option linter.unusedSimpArgs false
/-! ### spec_SameConfig: function 68 -/
def spec_SameConfig.f (k:Nat) (a0_0:Bool) (a0_1:Bool) (l0_2:List (S155)) (l0_3:List (S155)) (l0_4:List (S155)) (l0_5:List ByteArray) (l0_6:List ByteArray) (a0_7:Bool) (a0_8:Bool) (a1_0:Bool) (a1_1:Bool) (l1_2:List (S155)) (l1_3:List (S155)) (l1_4:List (S155)) (l1_5:List ByteArray) (l1_6:List ByteArray) (a1_7:Bool) (a1_8:Bool):Option (Bool):=(spec_l07Check.f k a0_0 a0_1 l0_2 l0_3 l0_4 l0_5 l0_6 a0_7 a0_8).bind fun t184=>(if t184=0 then ((spec_l07Check.f k a1_0 a1_1 l1_2 l1_3 l1_4 l1_5 l1_6 a1_7 a1_8).bind fun t185=>(if t185=0 then ((spec_l07Same.f a0_0 a0_1 l0_2 l0_3 l0_4 l0_5 l0_6 a0_7 a0_8 a1_0 a1_1 l1_2 l1_3 l1_4 l1_5 l1_6 a1_7 a1_8).bind fun t186=>(some t186)) else (some false))) else (some false))
theorem spec_SameConfig.mono:∀ a0 a1 a2 a3 a4 a5 a6 a7 a8 a9 a10 a11 a12 a13 a14 a15 a16 a17 k,LeO (spec_SameConfig.f k a0 a1 a2 a3 a4 a5 a6 a7 a8 a9 a10 a11 a12 a13 a14 a15 a16 a17) (spec_SameConfig.f (k+1) a0 a1 a2 a3 a4 a5 a6 a7 a8 a9 a10 a11 a12 a13 a14 a15 a16 a17):=by
 intro a0 a1 a2 a3 a4 a5 a6 a7 a8 a9 a10 a11 a12 a13 a14 a15 a16 a17 k
 unfold spec_SameConfig.f
 repeat' first
  | (with_reducible exact spec_l07Check.mono _ _ _ _ _ _ _ _ _ _)
  | (with_reducible exact LeO.refl _)
  | (with_reducible exact LeO.none _)
  | (with_reducible refine LeO.ite ?_ ?_)
  | (with_reducible refine LeO.bind ?_ (fun _=>?_))
  | exact spec_l07Check.mono _ _ _ _ _ _ _ _ _ _
  | exact LeO.none _
  | refine LeO.ite ?_ ?_
  | refine LeO.bind ?_ (fun _=>?_)
set_option maxHeartbeats 8000000 in
set_option maxRecDepth 100000 in
theorem spec_SameConfig.calls (k:Nat) (a0_0:Bool) (a0_1:Bool) (A0_2:Option Addr) (c0_2:Nat) (l0_2:List (S155)) (A0_3:Option Addr) (c0_3:Nat) (l0_3:List (S155)) (A0_4:Option Addr) (c0_4:Nat) (l0_4:List (S155)) (A0_5:Option Addr) (c0_5:Nat) (l0_5:List ByteArray) (A0_6:Option Addr) (c0_6:Nat) (l0_6:List ByteArray) (a0_7:Bool) (a0_8:Bool) (a1_0:Bool) (a1_1:Bool) (A1_2:Option Addr) (c1_2:Nat) (l1_2:List (S155)) (A1_3:Option Addr) (c1_3:Nat) (l1_3:List (S155)) (A1_4:Option Addr) (c1_4:Nat) (l1_4:List (S155)) (A1_5:Option Addr) (c1_5:Nat) (l1_5:List ByteArray) (A1_6:Option Addr) (c1_6:Nat) (l1_6:List ByteArray) (a1_7:Bool) (a1_8:Bool) (r:Bool) (w:World) (hr0_2:Kd.C k155 w A0_2 l0_2.length l0_2) (hc0_2:l0_2.length≤c0_2) (hr0_3:Kd.C k155 w A0_3 l0_3.length l0_3) (hc0_3:l0_3.length≤c0_3) (hr0_4:Kd.C k155 w A0_4 l0_4.length l0_4) (hc0_4:l0_4.length≤c0_4) (hr0_5:Kd.C Kd.string w A0_5 l0_5.length l0_5) (hc0_5:l0_5.length≤c0_5) (hr0_6:Kd.C Kd.string w A0_6 l0_6.length l0_6) (hc0_6:l0_6.length≤c0_6) (hr1_2:Kd.C k155 w A1_2 l1_2.length l1_2) (hc1_2:l1_2.length≤c1_2) (hr1_3:Kd.C k155 w A1_3 l1_3.length l1_3) (hc1_3:l1_3.length≤c1_3) (hr1_4:Kd.C k155 w A1_4 l1_4.length l1_4) (hc1_4:l1_4.length≤c1_4) (hr1_5:Kd.C Kd.string w A1_5 l1_5.length l1_5) (hc1_5:l1_5.length≤c1_5) (hr1_6:Kd.C Kd.string w A1_6 l1_6.length l1_6) (hc1_6:l1_6.length≤c1_6) (h:spec_SameConfig.f k a0_0 a0_1 l0_2 l0_3 l0_4 l0_5 l0_6 a0_7 a0_8 a1_0 a1_1 l1_2 l1_3 l1_4 l1_5 l1_6 a1_7 a1_8=some r) :
 Calls Try.prog 68 #[.agg #[.bool a0_0,.bool a0_1,.slice A0_2 l0_2.length c0_2,.slice A0_3 l0_3.length c0_3,.slice A0_4 l0_4.length c0_4,.slice A0_5 l0_5.length c0_5,.slice A0_6 l0_6.length c0_6,.bool a0_7,.bool a0_8],.agg #[.bool a1_0,.bool a1_1,.slice A1_2 l1_2.length c1_2,.slice A1_3 l1_3.length c1_3,.slice A1_4 l1_4.length c1_4,.slice A1_5 l1_5.length c1_5,.slice A1_6 l1_6.length c1_6,.bool a1_7,.bool a1_8]] w fun e w'=>e=.returned (.bool r)∧Below w.heap.size w w':=by
 have hu78:=Try.underlying78
 have HR0_2:=Aside0.mk hr0_2
 have HC0_2:=Aside0.mk hc0_2
 clear hr0_2 hc0_2
 have HR0_3:=Aside0.mk hr0_3
 have HC0_3:=Aside0.mk hc0_3
 clear hr0_3 hc0_3
 have HR0_4:=Aside0.mk hr0_4
 have HC0_4:=Aside0.mk hc0_4
 clear hr0_4 hc0_4
 have HR0_5:=Aside0.mk hr0_5
 have HC0_5:=Aside0.mk hc0_5
 clear hr0_5 hc0_5
 have HR0_6:=Aside0.mk hr0_6
 have HC0_6:=Aside0.mk hc0_6
 clear hr0_6 hc0_6
 have HR1_2:=Aside0.mk hr1_2
 have HC1_2:=Aside0.mk hc1_2
 clear hr1_2 hc1_2
 have HR1_3:=Aside0.mk hr1_3
 have HC1_3:=Aside0.mk hc1_3
 clear hr1_3 hc1_3
 have HR1_4:=Aside0.mk hr1_4
 have HC1_4:=Aside0.mk hc1_4
 clear hr1_4 hc1_4
 have HR1_5:=Aside0.mk hr1_5
 have HC1_5:=Aside0.mk hc1_5
 clear hr1_5 hc1_5
 have HR1_6:=Aside0.mk hr1_6
 have HC1_6:=Aside0.mk hc1_6
 clear hr1_6 hc1_6
 have HB:=Aside0.mk (Below.refl w.heap.size w)
 have H:((spec_l07Check.f k a0_0 a0_1 l0_2 l0_3 l0_4 l0_5 l0_6 a0_7 a0_8).bind fun t184=>(if t184=0 then ((spec_l07Check.f k a1_0 a1_1 l1_2 l1_3 l1_4 l1_5 l1_6 a1_7 a1_8).bind fun t185=>(if t185=0 then ((spec_l07Same.f a0_0 a0_1 l0_2 l0_3 l0_4 l0_5 l0_6 a0_7 a0_8 a1_0 a1_1 l1_2 l1_3 l1_4 l1_5 l1_6 a1_7 a1_8).bind fun t186=>(some t186)) else (some false))) else (some false)))=some r:=h
 clear h
 replace H:=Option.bind_eq_some_iff.mp H
 obtain ⟨t184,A30,H⟩:=H
 replace H:(if t184=0 then ((spec_l07Check.f k a1_0 a1_1 l1_2 l1_3 l1_4 l1_5 l1_6 a1_7 a1_8).bind fun t185=>(if t185=0 then ((spec_l07Same.f a0_0 a0_1 l0_2 l0_3 l0_4 l0_5 l0_6 a0_7 a0_8 a1_0 a1_1 l1_2 l1_3 l1_4 l1_5 l1_6 a1_7 a1_8).bind fun t186=>(some t186)) else (some false))) else (some false))=some r:=H
 have A3:=Aside0.mk A30
 clear A30
 by_cases c4:t184=0
 ·rw [if_pos c4] at H
  have c4b0:(t184 == 0)=true:=beq_iff_eq.mpr c4
  have c4b1:(t184 != 0)=false:=bne_eq_false_iff_eq.mpr c4
  clear c4
  replace H:=Option.bind_eq_some_iff.mp H
  obtain ⟨t185,A50,H⟩:=H
  replace H:(if t185=0 then ((spec_l07Same.f a0_0 a0_1 l0_2 l0_3 l0_4 l0_5 l0_6 a0_7 a0_8 a1_0 a1_1 l1_2 l1_3 l1_4 l1_5 l1_6 a1_7 a1_8).bind fun t186=>(some t186)) else (some false))=some r:=H
  have A5:=Aside0.mk A50
  clear A50
  by_cases c6:t185=0
  ·rw [if_pos c6] at H
   have c6b0:(t185 == 0)=true:=beq_iff_eq.mpr c6
   have c6b1:(t185 != 0)=false:=bne_eq_false_iff_eq.mpr c6
   clear c6
   replace H:=Option.bind_eq_some_iff.mp H
   obtain ⟨t186,A70,H⟩:=H
   replace H:(some t186)=some r:=H
   have A7:=Aside0.mk A70
   clear A70
   obtain rfl:=Option.some.inj H
   go_enter Try.func68,Try.ntmps68
   go_wp2_with (first|((with_reducible refine gate_dst (N:=2) rfl ?_);refine box_event ?hg (N:=2) ?hd (cs:=#[.bool a0_0,.bool a0_1,.slice A0_2 l0_2.length c0_2,.slice A0_3 l0_3.length c0_3,.slice A0_4 l0_4.length c0_4,.slice A0_5 l0_5.length c0_5,.slice A0_6 l0_6.length c0_6,.bool a0_7,.bool a0_8]) (t:=78) ?hr ?_;(case hd=>rfl);(case hg=>rfl);(case hr=>first|(go_simp;done)|(go_simp;rfl));intro gb182 hg w8 hbox hb;have n0_:=Aside0.mk (below_step (by repeat (first|(with_reducible first|exact HB.out|apply below_alloc|apply pw_below_drewN|apply below_drew1)|exact HB.out)) hb);have n1_:=Aside0.mk (hbox);have n2_:=Aside0.mk ((by rw [hg];exact (below_size (by repeat (first|(with_reducible first|exact HB.out|apply below_alloc|apply pw_below_drewN|apply below_drew1)|exact HB.out))):w.heap.size≤gb182));have n3_:=Aside0.mk ((by rw [hg];exact (below_size (by repeat (first|(with_reducible first|exact HB.out|apply below_alloc|apply pw_below_drewN|apply below_drew1)|exact HB.out))):w.heap.size≤gb182));clear HB;have HB:=n0_;have BK182:=n1_;have GW182:=n2_;have GE182:=n3_;clear n0_ n1_ n2_ n3_;clear hb hbox hg)|((with_reducible refine gate_dst (N:=3) rfl ?_);refine box_event ?hg (N:=3) ?hd (cs:=#[.bool a1_0,.bool a1_1,.slice A1_2 l1_2.length c1_2,.slice A1_3 l1_3.length c1_3,.slice A1_4 l1_4.length c1_4,.slice A1_5 l1_5.length c1_5,.slice A1_6 l1_6.length c1_6,.bool a1_7,.bool a1_8]) (t:=78) ?hr ?_;(case hd=>rfl);(case hg=>rfl);(case hr=>first|(go_simp;done)|(go_simp;rfl));intro gb183 hg w9 hbox hb;have n0_:=Aside0.mk (blk_below (g:=gb182) (o:=.cells #[.bool a0_0,.bool a0_1,.slice A0_2 l0_2.length c0_2,.slice A0_3 l0_3.length c0_3,.slice A0_4 l0_4.length c0_4,.slice A0_5 l0_5.length c0_5,.slice A0_6 l0_6.length c0_6,.bool a0_7,.bool a0_8] 78 (0,0)) (by (with_reducible repeat (first|refine blk_drewN ?_ _|refine blk_drew ?_|refine blk_alloc ?_ _));exact BK182.out) hb);have n1_:=Aside0.mk (below_step (by repeat (first|(with_reducible first|exact HB.out|apply below_alloc|apply pw_below_drewN|apply below_drew1|refine below_set ?_ GE182.out)|exact HB.out)) hb);have n2_:=Aside0.mk (hbox);have n3_:=Aside0.mk ((by rw [hg];exact (below_size (by repeat (first|(with_reducible first|exact HB.out|apply below_alloc|apply pw_below_drewN|apply below_drew1|refine below_set ?_ GE182.out)|exact HB.out))):w.heap.size≤gb183));have n4_:=Aside0.mk ((by rw [hg];exact (below_size (by repeat (first|(with_reducible first|exact HB.out|apply below_alloc|apply pw_below_drewN|apply below_drew1|refine below_set ?_ GE182.out)|exact HB.out))):w.heap.size≤gb183));have n5_:=Aside0.mk ((by rw [hg];exact Nat.ne_of_lt (blk_lt (g:=gb182) (o:=.cells #[.bool a0_0,.bool a0_1,.slice A0_2 l0_2.length c0_2,.slice A0_3 l0_3.length c0_3,.slice A0_4 l0_4.length c0_4,.slice A0_5 l0_5.length c0_5,.slice A0_6 l0_6.length c0_6,.bool a0_7,.bool a0_8] 78 (0,0)) (by (with_reducible repeat (first|refine blk_drewN ?_ _|refine blk_drew ?_|refine blk_alloc ?_ _));exact BK182.out)):gb182≠gb183));have n6_:=Aside0.mk ((by rw [hg];exact Nat.ne_of_gt (blk_lt (g:=gb182) (o:=.cells #[.bool a0_0,.bool a0_1,.slice A0_2 l0_2.length c0_2,.slice A0_3 l0_3.length c0_3,.slice A0_4 l0_4.length c0_4,.slice A0_5 l0_5.length c0_5,.slice A0_6 l0_6.length c0_6,.bool a0_7,.bool a0_8] 78 (0,0)) (by (with_reducible repeat (first|refine blk_drewN ?_ _|refine blk_drew ?_|refine blk_alloc ?_ _));exact BK182.out)):gb183≠gb182));clear BK182;clear HB;have BK182:=n0_;have HB:=n1_;have BK183:=n2_;have GW183:=n3_;have GE183:=n4_;have NB182_183:=n5_;have NB183_182:=n6_;clear n0_ n1_ n2_ n3_ n4_ n5_ n6_;clear hb hbox hg;have hnb10:=NB182_183.out;have hnc10:=NB183_182.out;have hcz11_0:w9.cell? ⟨gb182,0,none⟩=some (.bool a0_0):=(blk_cell BK182.out 0).trans rfl;have hcz11_1:w9.cell? ⟨gb182,1,none⟩=some (.bool a0_1):=(blk_cell BK182.out 1).trans rfl;have hcz11_2:w9.cell? ⟨gb182,2,none⟩=some (.slice A0_2 l0_2.length c0_2):=(blk_cell BK182.out 2).trans rfl;have hcz11_3:w9.cell? ⟨gb182,3,none⟩=some (.slice A0_3 l0_3.length c0_3):=(blk_cell BK182.out 3).trans rfl;have hcz11_4:w9.cell? ⟨gb182,4,none⟩=some (.slice A0_4 l0_4.length c0_4):=(blk_cell BK182.out 4).trans rfl;have hcz11_5:w9.cell? ⟨gb182,5,none⟩=some (.slice A0_5 l0_5.length c0_5):=(blk_cell BK182.out 5).trans rfl;have hcz11_6:w9.cell? ⟨gb182,6,none⟩=some (.slice A0_6 l0_6.length c0_6):=(blk_cell BK182.out 6).trans rfl;have hcz11_7:w9.cell? ⟨gb182,7,none⟩=some (.bool a0_7):=(blk_cell BK182.out 7).trans rfl;have hcz11_8:w9.cell? ⟨gb182,8,none⟩=some (.bool a0_8):=(blk_cell BK182.out 8).trans rfl;have hfz11_0:=blk_frozen BK182.out 0;have hfz11_1:=blk_frozen BK182.out 1;have hfz11_2:=blk_frozen BK182.out 2;have hfz11_3:=blk_frozen BK182.out 3;have hfz11_4:=blk_frozen BK182.out 4;have hfz11_5:=blk_frozen BK182.out 5;have hfz11_6:=blk_frozen BK182.out 6;have hfz11_7:=blk_frozen BK182.out 7;have hfz11_8:=blk_frozen BK182.out 8)|((with_reducible refine gate_callee (f:=126) rfl ?_);refine goesL_ (some 6) rfl rfl Try.func126 (by kernel_rfl) rfl #[.agg #[.bool a0_0,.bool a0_1,.slice A0_2 l0_2.length c0_2,.slice A0_3 l0_3.length c0_3,.slice A0_4 l0_4.length c0_4,.slice A0_5 l0_5.length c0_5,.slice A0_6 l0_6.length c0_6,.bool a0_7,.bool a0_8]] rfl (by (try simp only [List.map_toArray,List.map_cons,List.map_nil]);first|done|rfl|(simp only [List.length_drop,List.length_take];rfl)) ?_;(with_reducible refine (spec_l07Check.calls k a0_0 a0_1 _ _ l0_2 _ _ l0_3 _ _ l0_4 _ _ l0_5 _ _ l0_6 a0_7 a0_8 t184 _ ?side1 ?side2 ?side3 ?side4 ?side5 ?side6 ?side7 ?side8 ?side9 ?side10 A3.out).mono ?_);(case side1=>repeat (first|exact (Kd.C_below HR0_2.out HB.out)|(with_reducible refine Kd.C_alloc ?_ _)|(with_reducible refine Kd.C_drewN ?_ _)|(with_reducible refine Kd.C_drew ?_)));(case side2=>exact HC0_2.out);(case side3=>repeat (first|exact (Kd.C_below HR0_3.out HB.out)|(with_reducible refine Kd.C_alloc ?_ _)|(with_reducible refine Kd.C_drewN ?_ _)|(with_reducible refine Kd.C_drew ?_)));(case side4=>exact HC0_3.out);(case side5=>repeat (first|exact (Kd.C_below HR0_4.out HB.out)|(with_reducible refine Kd.C_alloc ?_ _)|(with_reducible refine Kd.C_drewN ?_ _)|(with_reducible refine Kd.C_drew ?_)));(case side6=>exact HC0_4.out);(case side7=>repeat (first|exact (Kd.C_below HR0_5.out HB.out)|(with_reducible refine Kd.C_alloc ?_ _)|(with_reducible refine Kd.C_drewN ?_ _)|(with_reducible refine Kd.C_drew ?_)));(case side8=>exact HC0_5.out);(case side9=>repeat (first|exact (Kd.C_below HR0_6.out HB.out)|(with_reducible refine Kd.C_alloc ?_ _)|(with_reducible refine Kd.C_drewN ?_ _)|(with_reducible refine Kd.C_drew ?_)));(case side10=>exact HC0_6.out);rintro e w12 ⟨rfl,hb⟩;refine ⟨_,rfl,?_⟩;have n0_:=Aside0.mk (blk_below (g:=gb182) (o:=.cells #[.bool a0_0,.bool a0_1,.slice A0_2 l0_2.length c0_2,.slice A0_3 l0_3.length c0_3,.slice A0_4 l0_4.length c0_4,.slice A0_5 l0_5.length c0_5,.slice A0_6 l0_6.length c0_6,.bool a0_7,.bool a0_8] 78 (0,0)) (by (with_reducible repeat (first|refine blk_drewN ?_ _|refine blk_drew ?_|refine blk_alloc ?_ _));exact BK182.out) hb);have n1_:=Aside0.mk (blk_below (g:=gb183) (o:=.cells #[.bool a1_0,.bool a1_1,.slice A1_2 l1_2.length c1_2,.slice A1_3 l1_3.length c1_3,.slice A1_4 l1_4.length c1_4,.slice A1_5 l1_5.length c1_5,.slice A1_6 l1_6.length c1_6,.bool a1_7,.bool a1_8] 78 (0,0)) (by (with_reducible repeat (first|refine blk_drewN ?_ _|refine blk_drew ?_|refine blk_alloc ?_ _));exact BK183.out) hb);have n2_:=Aside0.mk (below_step (by repeat (first|(with_reducible first|exact HB.out|apply below_alloc|apply pw_below_drewN|apply below_drew1|refine below_set ?_ GE182.out|refine below_set ?_ GE183.out)|exact HB.out)) hb);clear BK182;clear BK183;clear HB;have BK182:=n0_;have BK183:=n1_;have HB:=n2_;clear n0_ n1_ n2_;(try clear hb);(try clear hb2);(try clear hk);(try clear hi);have hcz13_0:w12.cell? ⟨gb183,0,none⟩=some (.bool a1_0):=(blk_cell BK183.out 0).trans rfl;have hcz13_1:w12.cell? ⟨gb183,1,none⟩=some (.bool a1_1):=(blk_cell BK183.out 1).trans rfl;have hcz13_2:w12.cell? ⟨gb183,2,none⟩=some (.slice A1_2 l1_2.length c1_2):=(blk_cell BK183.out 2).trans rfl;have hcz13_3:w12.cell? ⟨gb183,3,none⟩=some (.slice A1_3 l1_3.length c1_3):=(blk_cell BK183.out 3).trans rfl;have hcz13_4:w12.cell? ⟨gb183,4,none⟩=some (.slice A1_4 l1_4.length c1_4):=(blk_cell BK183.out 4).trans rfl;have hcz13_5:w12.cell? ⟨gb183,5,none⟩=some (.slice A1_5 l1_5.length c1_5):=(blk_cell BK183.out 5).trans rfl;have hcz13_6:w12.cell? ⟨gb183,6,none⟩=some (.slice A1_6 l1_6.length c1_6):=(blk_cell BK183.out 6).trans rfl;have hcz13_7:w12.cell? ⟨gb183,7,none⟩=some (.bool a1_7):=(blk_cell BK183.out 7).trans rfl;have hcz13_8:w12.cell? ⟨gb183,8,none⟩=some (.bool a1_8):=(blk_cell BK183.out 8).trans rfl;have hfz13_0:=blk_frozen BK183.out 0;have hfz13_1:=blk_frozen BK183.out 1;have hfz13_2:=blk_frozen BK183.out 2;have hfz13_3:=blk_frozen BK183.out 3;have hfz13_4:=blk_frozen BK183.out 4;have hfz13_5:=blk_frozen BK183.out 5;have hfz13_6:=blk_frozen BK183.out 6;have hfz13_7:=blk_frozen BK183.out 7;have hfz13_8:=blk_frozen BK183.out 8)|(go_at_call 126;(with_reducible refine (spec_l07Check.calls k a1_0 a1_1 _ _ l1_2 _ _ l1_3 _ _ l1_4 _ _ l1_5 _ _ l1_6 a1_7 a1_8 t185 _ ?side1 ?side2 ?side3 ?side4 ?side5 ?side6 ?side7 ?side8 ?side9 ?side10 A5.out).mono ?_);(case side1=>repeat (first|exact (Kd.C_below HR1_2.out HB.out)|(with_reducible refine Kd.C_alloc ?_ _)|(with_reducible refine Kd.C_drewN ?_ _)|(with_reducible refine Kd.C_drew ?_)));(case side2=>exact HC1_2.out);(case side3=>repeat (first|exact (Kd.C_below HR1_3.out HB.out)|(with_reducible refine Kd.C_alloc ?_ _)|(with_reducible refine Kd.C_drewN ?_ _)|(with_reducible refine Kd.C_drew ?_)));(case side4=>exact HC1_3.out);(case side5=>repeat (first|exact (Kd.C_below HR1_4.out HB.out)|(with_reducible refine Kd.C_alloc ?_ _)|(with_reducible refine Kd.C_drewN ?_ _)|(with_reducible refine Kd.C_drew ?_)));(case side6=>exact HC1_4.out);(case side7=>repeat (first|exact (Kd.C_below HR1_5.out HB.out)|(with_reducible refine Kd.C_alloc ?_ _)|(with_reducible refine Kd.C_drewN ?_ _)|(with_reducible refine Kd.C_drew ?_)));(case side8=>exact HC1_5.out);(case side9=>repeat (first|exact (Kd.C_below HR1_6.out HB.out)|(with_reducible refine Kd.C_alloc ?_ _)|(with_reducible refine Kd.C_drewN ?_ _)|(with_reducible refine Kd.C_drew ?_)));(case side10=>exact HC1_6.out);rintro e w14 ⟨rfl,hb⟩;have n0_:=Aside0.mk (blk_below (g:=gb182) (o:=.cells #[.bool a0_0,.bool a0_1,.slice A0_2 l0_2.length c0_2,.slice A0_3 l0_3.length c0_3,.slice A0_4 l0_4.length c0_4,.slice A0_5 l0_5.length c0_5,.slice A0_6 l0_6.length c0_6,.bool a0_7,.bool a0_8] 78 (0,0)) (by (with_reducible repeat (first|refine blk_drewN ?_ _|refine blk_drew ?_|refine blk_alloc ?_ _));exact BK182.out) hb);have n1_:=Aside0.mk (blk_below (g:=gb183) (o:=.cells #[.bool a1_0,.bool a1_1,.slice A1_2 l1_2.length c1_2,.slice A1_3 l1_3.length c1_3,.slice A1_4 l1_4.length c1_4,.slice A1_5 l1_5.length c1_5,.slice A1_6 l1_6.length c1_6,.bool a1_7,.bool a1_8] 78 (0,0)) (by (with_reducible repeat (first|refine blk_drewN ?_ _|refine blk_drew ?_|refine blk_alloc ?_ _));exact BK183.out) hb);have n2_:=Aside0.mk (below_step (by repeat (first|(with_reducible first|exact HB.out|apply below_alloc|apply pw_below_drewN|apply below_drew1|refine below_set ?_ GE182.out|refine below_set ?_ GE183.out)|exact HB.out)) hb);clear BK182;clear BK183;clear HB;have BK182:=n0_;have BK183:=n1_;have HB:=n2_;clear n0_ n1_ n2_;(try clear hb);(try clear hb2);(try clear hk);(try clear hi);have hcz15_0:w14.cell? ⟨gb182,0,none⟩=some (.bool a0_0):=(blk_cell BK182.out 0).trans rfl;have hcz15_1:w14.cell? ⟨gb182,1,none⟩=some (.bool a0_1):=(blk_cell BK182.out 1).trans rfl;have hcz15_2:w14.cell? ⟨gb182,2,none⟩=some (.slice A0_2 l0_2.length c0_2):=(blk_cell BK182.out 2).trans rfl;have hcz15_3:w14.cell? ⟨gb182,3,none⟩=some (.slice A0_3 l0_3.length c0_3):=(blk_cell BK182.out 3).trans rfl;have hcz15_4:w14.cell? ⟨gb182,4,none⟩=some (.slice A0_4 l0_4.length c0_4):=(blk_cell BK182.out 4).trans rfl;have hcz15_5:w14.cell? ⟨gb182,5,none⟩=some (.slice A0_5 l0_5.length c0_5):=(blk_cell BK182.out 5).trans rfl;have hcz15_6:w14.cell? ⟨gb182,6,none⟩=some (.slice A0_6 l0_6.length c0_6):=(blk_cell BK182.out 6).trans rfl;have hcz15_7:w14.cell? ⟨gb182,7,none⟩=some (.bool a0_7):=(blk_cell BK182.out 7).trans rfl;have hcz15_8:w14.cell? ⟨gb182,8,none⟩=some (.bool a0_8):=(blk_cell BK182.out 8).trans rfl;have hfz15_0:=blk_frozen BK182.out 0;have hfz15_1:=blk_frozen BK182.out 1;have hfz15_2:=blk_frozen BK182.out 2;have hfz15_3:=blk_frozen BK182.out 3;have hfz15_4:=blk_frozen BK182.out 4;have hfz15_5:=blk_frozen BK182.out 5;have hfz15_6:=blk_frozen BK182.out 6;have hfz15_7:=blk_frozen BK182.out 7;have hfz15_8:=blk_frozen BK182.out 8;have hcz16_0:w14.cell? ⟨gb183,0,none⟩=some (.bool a1_0):=(blk_cell BK183.out 0).trans rfl;have hcz16_1:w14.cell? ⟨gb183,1,none⟩=some (.bool a1_1):=(blk_cell BK183.out 1).trans rfl;have hcz16_2:w14.cell? ⟨gb183,2,none⟩=some (.slice A1_2 l1_2.length c1_2):=(blk_cell BK183.out 2).trans rfl;have hcz16_3:w14.cell? ⟨gb183,3,none⟩=some (.slice A1_3 l1_3.length c1_3):=(blk_cell BK183.out 3).trans rfl;have hcz16_4:w14.cell? ⟨gb183,4,none⟩=some (.slice A1_4 l1_4.length c1_4):=(blk_cell BK183.out 4).trans rfl;have hcz16_5:w14.cell? ⟨gb183,5,none⟩=some (.slice A1_5 l1_5.length c1_5):=(blk_cell BK183.out 5).trans rfl;have hcz16_6:w14.cell? ⟨gb183,6,none⟩=some (.slice A1_6 l1_6.length c1_6):=(blk_cell BK183.out 6).trans rfl;have hcz16_7:w14.cell? ⟨gb183,7,none⟩=some (.bool a1_7):=(blk_cell BK183.out 7).trans rfl;have hcz16_8:w14.cell? ⟨gb183,8,none⟩=some (.bool a1_8):=(blk_cell BK183.out 8).trans rfl;have hfz16_0:=blk_frozen BK183.out 0;have hfz16_1:=blk_frozen BK183.out 1;have hfz16_2:=blk_frozen BK183.out 2;have hfz16_3:=blk_frozen BK183.out 3;have hfz16_4:=blk_frozen BK183.out 4;have hfz16_5:=blk_frozen BK183.out 5;have hfz16_6:=blk_frozen BK183.out 6;have hfz16_7:=blk_frozen BK183.out 7;have hfz16_8:=blk_frozen BK183.out 8)|(go_at_call 135;(with_reducible refine (spec_l07Same.calls a0_0 a0_1 _ _ l0_2 _ _ l0_3 _ _ l0_4 _ _ l0_5 _ _ l0_6 a0_7 a0_8 a1_0 a1_1 _ _ l1_2 _ _ l1_3 _ _ l1_4 _ _ l1_5 _ _ l1_6 a1_7 a1_8 t186 _ ?side1 ?side2 ?side3 ?side4 ?side5 ?side6 ?side7 ?side8 ?side9 ?side10 ?side11 ?side12 ?side13 ?side14 ?side15 ?side16 ?side17 ?side18 ?side19 ?side20 A7.out).mono ?_);(case side1=>repeat (first|exact (Kd.C_below HR0_2.out HB.out)|(with_reducible refine Kd.C_alloc ?_ _)|(with_reducible refine Kd.C_drewN ?_ _)|(with_reducible refine Kd.C_drew ?_)));(case side2=>exact HC0_2.out);(case side3=>repeat (first|exact (Kd.C_below HR0_3.out HB.out)|(with_reducible refine Kd.C_alloc ?_ _)|(with_reducible refine Kd.C_drewN ?_ _)|(with_reducible refine Kd.C_drew ?_)));(case side4=>exact HC0_3.out);(case side5=>repeat (first|exact (Kd.C_below HR0_4.out HB.out)|(with_reducible refine Kd.C_alloc ?_ _)|(with_reducible refine Kd.C_drewN ?_ _)|(with_reducible refine Kd.C_drew ?_)));(case side6=>exact HC0_4.out);(case side7=>repeat (first|exact (Kd.C_below HR0_5.out HB.out)|(with_reducible refine Kd.C_alloc ?_ _)|(with_reducible refine Kd.C_drewN ?_ _)|(with_reducible refine Kd.C_drew ?_)));(case side8=>exact HC0_5.out);(case side9=>repeat (first|exact (Kd.C_below HR0_6.out HB.out)|(with_reducible refine Kd.C_alloc ?_ _)|(with_reducible refine Kd.C_drewN ?_ _)|(with_reducible refine Kd.C_drew ?_)));(case side10=>exact HC0_6.out);(case side11=>repeat (first|exact (Kd.C_below HR1_2.out HB.out)|(with_reducible refine Kd.C_alloc ?_ _)|(with_reducible refine Kd.C_drewN ?_ _)|(with_reducible refine Kd.C_drew ?_)));(case side12=>exact HC1_2.out);(case side13=>repeat (first|exact (Kd.C_below HR1_3.out HB.out)|(with_reducible refine Kd.C_alloc ?_ _)|(with_reducible refine Kd.C_drewN ?_ _)|(with_reducible refine Kd.C_drew ?_)));(case side14=>exact HC1_3.out);(case side15=>repeat (first|exact (Kd.C_below HR1_4.out HB.out)|(with_reducible refine Kd.C_alloc ?_ _)|(with_reducible refine Kd.C_drewN ?_ _)|(with_reducible refine Kd.C_drew ?_)));(case side16=>exact HC1_4.out);(case side17=>repeat (first|exact (Kd.C_below HR1_5.out HB.out)|(with_reducible refine Kd.C_alloc ?_ _)|(with_reducible refine Kd.C_drewN ?_ _)|(with_reducible refine Kd.C_drew ?_)));(case side18=>exact HC1_5.out);(case side19=>repeat (first|exact (Kd.C_below HR1_6.out HB.out)|(with_reducible refine Kd.C_alloc ?_ _)|(with_reducible refine Kd.C_drewN ?_ _)|(with_reducible refine Kd.C_drew ?_)));(case side20=>exact HC1_6.out);rintro e w17 ⟨rfl,hb⟩;have n0_:=Aside0.mk (blk_below (g:=gb182) (o:=.cells #[.bool a0_0,.bool a0_1,.slice A0_2 l0_2.length c0_2,.slice A0_3 l0_3.length c0_3,.slice A0_4 l0_4.length c0_4,.slice A0_5 l0_5.length c0_5,.slice A0_6 l0_6.length c0_6,.bool a0_7,.bool a0_8] 78 (0,0)) (by (with_reducible repeat (first|refine blk_drewN ?_ _|refine blk_drew ?_|refine blk_alloc ?_ _));exact BK182.out) hb);have n1_:=Aside0.mk (blk_below (g:=gb183) (o:=.cells #[.bool a1_0,.bool a1_1,.slice A1_2 l1_2.length c1_2,.slice A1_3 l1_3.length c1_3,.slice A1_4 l1_4.length c1_4,.slice A1_5 l1_5.length c1_5,.slice A1_6 l1_6.length c1_6,.bool a1_7,.bool a1_8] 78 (0,0)) (by (with_reducible repeat (first|refine blk_drewN ?_ _|refine blk_drew ?_|refine blk_alloc ?_ _));exact BK183.out) hb);have n2_:=Aside0.mk (below_step (by repeat (first|(with_reducible first|exact HB.out|apply below_alloc|apply pw_below_drewN|apply below_drew1|refine below_set ?_ GE182.out|refine below_set ?_ GE183.out)|exact HB.out)) hb);clear BK182;clear BK183;clear HB;have BK182:=n0_;have BK183:=n1_;have HB:=n2_;clear n0_ n1_ n2_;(try clear hb);(try clear hb2);(try clear hk);(try clear hi)))
   go_ret
   exact ⟨by first|rfl|(simp [errW_none,errW_some] <;> rfl)|(simp [*,errW_none,errW_some] <;> rfl),by repeat (first|(with_reducible first|exact HB.out|apply below_alloc|apply pw_below_drewN|apply below_drew1|refine below_set ?_ GE182.out|refine below_set ?_ GE183.out)|exact HB.out)⟩
  ·rw [if_neg c6] at H
   have c6b0:(t185 == 0)=false:=beq_eq_false_iff_ne.mpr c6
   have c6b1:(t185 != 0)=true:=bne_iff_ne.mpr c6
   obtain rfl:=Option.some.inj H
   go_enter Try.func68,Try.ntmps68
   go_wp2_with (first|((with_reducible refine gate_dst (N:=2) rfl ?_);refine box_event ?hg (N:=2) ?hd (cs:=#[.bool a0_0,.bool a0_1,.slice A0_2 l0_2.length c0_2,.slice A0_3 l0_3.length c0_3,.slice A0_4 l0_4.length c0_4,.slice A0_5 l0_5.length c0_5,.slice A0_6 l0_6.length c0_6,.bool a0_7,.bool a0_8]) (t:=78) ?hr ?_;(case hd=>rfl);(case hg=>rfl);(case hr=>first|(go_simp;done)|(go_simp;rfl));intro gb182 hg w18 hbox hb;have n0_:=Aside0.mk (below_step (by repeat (first|(with_reducible first|exact HB.out|apply below_alloc|apply pw_below_drewN|apply below_drew1)|exact HB.out)) hb);have n1_:=Aside0.mk (hbox);have n2_:=Aside0.mk ((by rw [hg];exact (below_size (by repeat (first|(with_reducible first|exact HB.out|apply below_alloc|apply pw_below_drewN|apply below_drew1)|exact HB.out))):w.heap.size≤gb182));have n3_:=Aside0.mk ((by rw [hg];exact (below_size (by repeat (first|(with_reducible first|exact HB.out|apply below_alloc|apply pw_below_drewN|apply below_drew1)|exact HB.out))):w.heap.size≤gb182));clear HB;have HB:=n0_;have BK182:=n1_;have GW182:=n2_;have GE182:=n3_;clear n0_ n1_ n2_ n3_;clear hb hbox hg)|((with_reducible refine gate_dst (N:=3) rfl ?_);refine box_event ?hg (N:=3) ?hd (cs:=#[.bool a1_0,.bool a1_1,.slice A1_2 l1_2.length c1_2,.slice A1_3 l1_3.length c1_3,.slice A1_4 l1_4.length c1_4,.slice A1_5 l1_5.length c1_5,.slice A1_6 l1_6.length c1_6,.bool a1_7,.bool a1_8]) (t:=78) ?hr ?_;(case hd=>rfl);(case hg=>rfl);(case hr=>first|(go_simp;done)|(go_simp;rfl));intro gb183 hg w19 hbox hb;have n0_:=Aside0.mk (blk_below (g:=gb182) (o:=.cells #[.bool a0_0,.bool a0_1,.slice A0_2 l0_2.length c0_2,.slice A0_3 l0_3.length c0_3,.slice A0_4 l0_4.length c0_4,.slice A0_5 l0_5.length c0_5,.slice A0_6 l0_6.length c0_6,.bool a0_7,.bool a0_8] 78 (0,0)) (by (with_reducible repeat (first|refine blk_drewN ?_ _|refine blk_drew ?_|refine blk_alloc ?_ _));exact BK182.out) hb);have n1_:=Aside0.mk (below_step (by repeat (first|(with_reducible first|exact HB.out|apply below_alloc|apply pw_below_drewN|apply below_drew1|refine below_set ?_ GE182.out)|exact HB.out)) hb);have n2_:=Aside0.mk (hbox);have n3_:=Aside0.mk ((by rw [hg];exact (below_size (by repeat (first|(with_reducible first|exact HB.out|apply below_alloc|apply pw_below_drewN|apply below_drew1|refine below_set ?_ GE182.out)|exact HB.out))):w.heap.size≤gb183));have n4_:=Aside0.mk ((by rw [hg];exact (below_size (by repeat (first|(with_reducible first|exact HB.out|apply below_alloc|apply pw_below_drewN|apply below_drew1|refine below_set ?_ GE182.out)|exact HB.out))):w.heap.size≤gb183));have n5_:=Aside0.mk ((by rw [hg];exact Nat.ne_of_lt (blk_lt (g:=gb182) (o:=.cells #[.bool a0_0,.bool a0_1,.slice A0_2 l0_2.length c0_2,.slice A0_3 l0_3.length c0_3,.slice A0_4 l0_4.length c0_4,.slice A0_5 l0_5.length c0_5,.slice A0_6 l0_6.length c0_6,.bool a0_7,.bool a0_8] 78 (0,0)) (by (with_reducible repeat (first|refine blk_drewN ?_ _|refine blk_drew ?_|refine blk_alloc ?_ _));exact BK182.out)):gb182≠gb183));have n6_:=Aside0.mk ((by rw [hg];exact Nat.ne_of_gt (blk_lt (g:=gb182) (o:=.cells #[.bool a0_0,.bool a0_1,.slice A0_2 l0_2.length c0_2,.slice A0_3 l0_3.length c0_3,.slice A0_4 l0_4.length c0_4,.slice A0_5 l0_5.length c0_5,.slice A0_6 l0_6.length c0_6,.bool a0_7,.bool a0_8] 78 (0,0)) (by (with_reducible repeat (first|refine blk_drewN ?_ _|refine blk_drew ?_|refine blk_alloc ?_ _));exact BK182.out)):gb183≠gb182));clear BK182;clear HB;have BK182:=n0_;have HB:=n1_;have BK183:=n2_;have GW183:=n3_;have GE183:=n4_;have NB182_183:=n5_;have NB183_182:=n6_;clear n0_ n1_ n2_ n3_ n4_ n5_ n6_;clear hb hbox hg;have hnb20:=NB182_183.out;have hnc20:=NB183_182.out;have hcz21_0:w19.cell? ⟨gb182,0,none⟩=some (.bool a0_0):=(blk_cell BK182.out 0).trans rfl;have hcz21_1:w19.cell? ⟨gb182,1,none⟩=some (.bool a0_1):=(blk_cell BK182.out 1).trans rfl;have hcz21_2:w19.cell? ⟨gb182,2,none⟩=some (.slice A0_2 l0_2.length c0_2):=(blk_cell BK182.out 2).trans rfl;have hcz21_3:w19.cell? ⟨gb182,3,none⟩=some (.slice A0_3 l0_3.length c0_3):=(blk_cell BK182.out 3).trans rfl;have hcz21_4:w19.cell? ⟨gb182,4,none⟩=some (.slice A0_4 l0_4.length c0_4):=(blk_cell BK182.out 4).trans rfl;have hcz21_5:w19.cell? ⟨gb182,5,none⟩=some (.slice A0_5 l0_5.length c0_5):=(blk_cell BK182.out 5).trans rfl;have hcz21_6:w19.cell? ⟨gb182,6,none⟩=some (.slice A0_6 l0_6.length c0_6):=(blk_cell BK182.out 6).trans rfl;have hcz21_7:w19.cell? ⟨gb182,7,none⟩=some (.bool a0_7):=(blk_cell BK182.out 7).trans rfl;have hcz21_8:w19.cell? ⟨gb182,8,none⟩=some (.bool a0_8):=(blk_cell BK182.out 8).trans rfl;have hfz21_0:=blk_frozen BK182.out 0;have hfz21_1:=blk_frozen BK182.out 1;have hfz21_2:=blk_frozen BK182.out 2;have hfz21_3:=blk_frozen BK182.out 3;have hfz21_4:=blk_frozen BK182.out 4;have hfz21_5:=blk_frozen BK182.out 5;have hfz21_6:=blk_frozen BK182.out 6;have hfz21_7:=blk_frozen BK182.out 7;have hfz21_8:=blk_frozen BK182.out 8)|((with_reducible refine gate_callee (f:=126) rfl ?_);refine goesL_ (some 6) rfl rfl Try.func126 (by kernel_rfl) rfl #[.agg #[.bool a0_0,.bool a0_1,.slice A0_2 l0_2.length c0_2,.slice A0_3 l0_3.length c0_3,.slice A0_4 l0_4.length c0_4,.slice A0_5 l0_5.length c0_5,.slice A0_6 l0_6.length c0_6,.bool a0_7,.bool a0_8]] rfl (by (try simp only [List.map_toArray,List.map_cons,List.map_nil]);first|done|rfl|(simp only [List.length_drop,List.length_take];rfl)) ?_;(with_reducible refine (spec_l07Check.calls k a0_0 a0_1 _ _ l0_2 _ _ l0_3 _ _ l0_4 _ _ l0_5 _ _ l0_6 a0_7 a0_8 t184 _ ?side1 ?side2 ?side3 ?side4 ?side5 ?side6 ?side7 ?side8 ?side9 ?side10 A3.out).mono ?_);(case side1=>repeat (first|exact (Kd.C_below HR0_2.out HB.out)|(with_reducible refine Kd.C_alloc ?_ _)|(with_reducible refine Kd.C_drewN ?_ _)|(with_reducible refine Kd.C_drew ?_)));(case side2=>exact HC0_2.out);(case side3=>repeat (first|exact (Kd.C_below HR0_3.out HB.out)|(with_reducible refine Kd.C_alloc ?_ _)|(with_reducible refine Kd.C_drewN ?_ _)|(with_reducible refine Kd.C_drew ?_)));(case side4=>exact HC0_3.out);(case side5=>repeat (first|exact (Kd.C_below HR0_4.out HB.out)|(with_reducible refine Kd.C_alloc ?_ _)|(with_reducible refine Kd.C_drewN ?_ _)|(with_reducible refine Kd.C_drew ?_)));(case side6=>exact HC0_4.out);(case side7=>repeat (first|exact (Kd.C_below HR0_5.out HB.out)|(with_reducible refine Kd.C_alloc ?_ _)|(with_reducible refine Kd.C_drewN ?_ _)|(with_reducible refine Kd.C_drew ?_)));(case side8=>exact HC0_5.out);(case side9=>repeat (first|exact (Kd.C_below HR0_6.out HB.out)|(with_reducible refine Kd.C_alloc ?_ _)|(with_reducible refine Kd.C_drewN ?_ _)|(with_reducible refine Kd.C_drew ?_)));(case side10=>exact HC0_6.out);rintro e w22 ⟨rfl,hb⟩;refine ⟨_,rfl,?_⟩;have n0_:=Aside0.mk (blk_below (g:=gb182) (o:=.cells #[.bool a0_0,.bool a0_1,.slice A0_2 l0_2.length c0_2,.slice A0_3 l0_3.length c0_3,.slice A0_4 l0_4.length c0_4,.slice A0_5 l0_5.length c0_5,.slice A0_6 l0_6.length c0_6,.bool a0_7,.bool a0_8] 78 (0,0)) (by (with_reducible repeat (first|refine blk_drewN ?_ _|refine blk_drew ?_|refine blk_alloc ?_ _));exact BK182.out) hb);have n1_:=Aside0.mk (blk_below (g:=gb183) (o:=.cells #[.bool a1_0,.bool a1_1,.slice A1_2 l1_2.length c1_2,.slice A1_3 l1_3.length c1_3,.slice A1_4 l1_4.length c1_4,.slice A1_5 l1_5.length c1_5,.slice A1_6 l1_6.length c1_6,.bool a1_7,.bool a1_8] 78 (0,0)) (by (with_reducible repeat (first|refine blk_drewN ?_ _|refine blk_drew ?_|refine blk_alloc ?_ _));exact BK183.out) hb);have n2_:=Aside0.mk (below_step (by repeat (first|(with_reducible first|exact HB.out|apply below_alloc|apply pw_below_drewN|apply below_drew1|refine below_set ?_ GE182.out|refine below_set ?_ GE183.out)|exact HB.out)) hb);clear BK182;clear BK183;clear HB;have BK182:=n0_;have BK183:=n1_;have HB:=n2_;clear n0_ n1_ n2_;(try clear hb);(try clear hb2);(try clear hk);(try clear hi);have hcz23_0:w22.cell? ⟨gb183,0,none⟩=some (.bool a1_0):=(blk_cell BK183.out 0).trans rfl;have hcz23_1:w22.cell? ⟨gb183,1,none⟩=some (.bool a1_1):=(blk_cell BK183.out 1).trans rfl;have hcz23_2:w22.cell? ⟨gb183,2,none⟩=some (.slice A1_2 l1_2.length c1_2):=(blk_cell BK183.out 2).trans rfl;have hcz23_3:w22.cell? ⟨gb183,3,none⟩=some (.slice A1_3 l1_3.length c1_3):=(blk_cell BK183.out 3).trans rfl;have hcz23_4:w22.cell? ⟨gb183,4,none⟩=some (.slice A1_4 l1_4.length c1_4):=(blk_cell BK183.out 4).trans rfl;have hcz23_5:w22.cell? ⟨gb183,5,none⟩=some (.slice A1_5 l1_5.length c1_5):=(blk_cell BK183.out 5).trans rfl;have hcz23_6:w22.cell? ⟨gb183,6,none⟩=some (.slice A1_6 l1_6.length c1_6):=(blk_cell BK183.out 6).trans rfl;have hcz23_7:w22.cell? ⟨gb183,7,none⟩=some (.bool a1_7):=(blk_cell BK183.out 7).trans rfl;have hcz23_8:w22.cell? ⟨gb183,8,none⟩=some (.bool a1_8):=(blk_cell BK183.out 8).trans rfl;have hfz23_0:=blk_frozen BK183.out 0;have hfz23_1:=blk_frozen BK183.out 1;have hfz23_2:=blk_frozen BK183.out 2;have hfz23_3:=blk_frozen BK183.out 3;have hfz23_4:=blk_frozen BK183.out 4;have hfz23_5:=blk_frozen BK183.out 5;have hfz23_6:=blk_frozen BK183.out 6;have hfz23_7:=blk_frozen BK183.out 7;have hfz23_8:=blk_frozen BK183.out 8)|(go_at_call 126;(with_reducible refine (spec_l07Check.calls k a1_0 a1_1 _ _ l1_2 _ _ l1_3 _ _ l1_4 _ _ l1_5 _ _ l1_6 a1_7 a1_8 t185 _ ?side1 ?side2 ?side3 ?side4 ?side5 ?side6 ?side7 ?side8 ?side9 ?side10 A5.out).mono ?_);(case side1=>repeat (first|exact (Kd.C_below HR1_2.out HB.out)|(with_reducible refine Kd.C_alloc ?_ _)|(with_reducible refine Kd.C_drewN ?_ _)|(with_reducible refine Kd.C_drew ?_)));(case side2=>exact HC1_2.out);(case side3=>repeat (first|exact (Kd.C_below HR1_3.out HB.out)|(with_reducible refine Kd.C_alloc ?_ _)|(with_reducible refine Kd.C_drewN ?_ _)|(with_reducible refine Kd.C_drew ?_)));(case side4=>exact HC1_3.out);(case side5=>repeat (first|exact (Kd.C_below HR1_4.out HB.out)|(with_reducible refine Kd.C_alloc ?_ _)|(with_reducible refine Kd.C_drewN ?_ _)|(with_reducible refine Kd.C_drew ?_)));(case side6=>exact HC1_4.out);(case side7=>repeat (first|exact (Kd.C_below HR1_5.out HB.out)|(with_reducible refine Kd.C_alloc ?_ _)|(with_reducible refine Kd.C_drewN ?_ _)|(with_reducible refine Kd.C_drew ?_)));(case side8=>exact HC1_5.out);(case side9=>repeat (first|exact (Kd.C_below HR1_6.out HB.out)|(with_reducible refine Kd.C_alloc ?_ _)|(with_reducible refine Kd.C_drewN ?_ _)|(with_reducible refine Kd.C_drew ?_)));(case side10=>exact HC1_6.out);rintro e w24 ⟨rfl,hb⟩;have n0_:=Aside0.mk (blk_below (g:=gb182) (o:=.cells #[.bool a0_0,.bool a0_1,.slice A0_2 l0_2.length c0_2,.slice A0_3 l0_3.length c0_3,.slice A0_4 l0_4.length c0_4,.slice A0_5 l0_5.length c0_5,.slice A0_6 l0_6.length c0_6,.bool a0_7,.bool a0_8] 78 (0,0)) (by (with_reducible repeat (first|refine blk_drewN ?_ _|refine blk_drew ?_|refine blk_alloc ?_ _));exact BK182.out) hb);have n1_:=Aside0.mk (blk_below (g:=gb183) (o:=.cells #[.bool a1_0,.bool a1_1,.slice A1_2 l1_2.length c1_2,.slice A1_3 l1_3.length c1_3,.slice A1_4 l1_4.length c1_4,.slice A1_5 l1_5.length c1_5,.slice A1_6 l1_6.length c1_6,.bool a1_7,.bool a1_8] 78 (0,0)) (by (with_reducible repeat (first|refine blk_drewN ?_ _|refine blk_drew ?_|refine blk_alloc ?_ _));exact BK183.out) hb);have n2_:=Aside0.mk (below_step (by repeat (first|(with_reducible first|exact HB.out|apply below_alloc|apply pw_below_drewN|apply below_drew1|refine below_set ?_ GE182.out|refine below_set ?_ GE183.out)|exact HB.out)) hb);clear BK182;clear BK183;clear HB;have BK182:=n0_;have BK183:=n1_;have HB:=n2_;clear n0_ n1_ n2_;(try clear hb);(try clear hb2);(try clear hk);(try clear hi)))
   go_ret
   exact ⟨by first|rfl|(simp [errW_none,errW_some] <;> rfl)|(simp [*,errW_none,errW_some] <;> rfl),by repeat (first|(with_reducible first|exact HB.out|apply below_alloc|apply pw_below_drewN|apply below_drew1|refine below_set ?_ GE182.out|refine below_set ?_ GE183.out)|exact HB.out)⟩
 ·rw [if_neg c4] at H
  have c4b0:(t184 == 0)=false:=beq_eq_false_iff_ne.mpr c4
  have c4b1:(t184 != 0)=true:=bne_iff_ne.mpr c4
  obtain rfl:=Option.some.inj H
  go_enter Try.func68,Try.ntmps68
  go_wp2_with (first|((with_reducible refine gate_dst (N:=2) rfl ?_);refine box_event ?hg (N:=2) ?hd (cs:=#[.bool a0_0,.bool a0_1,.slice A0_2 l0_2.length c0_2,.slice A0_3 l0_3.length c0_3,.slice A0_4 l0_4.length c0_4,.slice A0_5 l0_5.length c0_5,.slice A0_6 l0_6.length c0_6,.bool a0_7,.bool a0_8]) (t:=78) ?hr ?_;(case hd=>rfl);(case hg=>rfl);(case hr=>first|(go_simp;done)|(go_simp;rfl));intro gb182 hg w25 hbox hb;have n0_:=Aside0.mk (below_step (by repeat (first|(with_reducible first|exact HB.out|apply below_alloc|apply pw_below_drewN|apply below_drew1)|exact HB.out)) hb);have n1_:=Aside0.mk (hbox);have n2_:=Aside0.mk ((by rw [hg];exact (below_size (by repeat (first|(with_reducible first|exact HB.out|apply below_alloc|apply pw_below_drewN|apply below_drew1)|exact HB.out))):w.heap.size≤gb182));have n3_:=Aside0.mk ((by rw [hg];exact (below_size (by repeat (first|(with_reducible first|exact HB.out|apply below_alloc|apply pw_below_drewN|apply below_drew1)|exact HB.out))):w.heap.size≤gb182));clear HB;have HB:=n0_;have BK182:=n1_;have GW182:=n2_;have GE182:=n3_;clear n0_ n1_ n2_ n3_;clear hb hbox hg)|((with_reducible refine gate_dst (N:=3) rfl ?_);refine box_event ?hg (N:=3) ?hd (cs:=#[.bool a1_0,.bool a1_1,.slice A1_2 l1_2.length c1_2,.slice A1_3 l1_3.length c1_3,.slice A1_4 l1_4.length c1_4,.slice A1_5 l1_5.length c1_5,.slice A1_6 l1_6.length c1_6,.bool a1_7,.bool a1_8]) (t:=78) ?hr ?_;(case hd=>rfl);(case hg=>rfl);(case hr=>first|(go_simp;done)|(go_simp;rfl));intro gb183 hg w26 hbox hb;have n0_:=Aside0.mk (blk_below (g:=gb182) (o:=.cells #[.bool a0_0,.bool a0_1,.slice A0_2 l0_2.length c0_2,.slice A0_3 l0_3.length c0_3,.slice A0_4 l0_4.length c0_4,.slice A0_5 l0_5.length c0_5,.slice A0_6 l0_6.length c0_6,.bool a0_7,.bool a0_8] 78 (0,0)) (by (with_reducible repeat (first|refine blk_drewN ?_ _|refine blk_drew ?_|refine blk_alloc ?_ _));exact BK182.out) hb);have n1_:=Aside0.mk (below_step (by repeat (first|(with_reducible first|exact HB.out|apply below_alloc|apply pw_below_drewN|apply below_drew1|refine below_set ?_ GE182.out)|exact HB.out)) hb);have n2_:=Aside0.mk (hbox);have n3_:=Aside0.mk ((by rw [hg];exact (below_size (by repeat (first|(with_reducible first|exact HB.out|apply below_alloc|apply pw_below_drewN|apply below_drew1|refine below_set ?_ GE182.out)|exact HB.out))):w.heap.size≤gb183));have n4_:=Aside0.mk ((by rw [hg];exact (below_size (by repeat (first|(with_reducible first|exact HB.out|apply below_alloc|apply pw_below_drewN|apply below_drew1|refine below_set ?_ GE182.out)|exact HB.out))):w.heap.size≤gb183));have n5_:=Aside0.mk ((by rw [hg];exact Nat.ne_of_lt (blk_lt (g:=gb182) (o:=.cells #[.bool a0_0,.bool a0_1,.slice A0_2 l0_2.length c0_2,.slice A0_3 l0_3.length c0_3,.slice A0_4 l0_4.length c0_4,.slice A0_5 l0_5.length c0_5,.slice A0_6 l0_6.length c0_6,.bool a0_7,.bool a0_8] 78 (0,0)) (by (with_reducible repeat (first|refine blk_drewN ?_ _|refine blk_drew ?_|refine blk_alloc ?_ _));exact BK182.out)):gb182≠gb183));have n6_:=Aside0.mk ((by rw [hg];exact Nat.ne_of_gt (blk_lt (g:=gb182) (o:=.cells #[.bool a0_0,.bool a0_1,.slice A0_2 l0_2.length c0_2,.slice A0_3 l0_3.length c0_3,.slice A0_4 l0_4.length c0_4,.slice A0_5 l0_5.length c0_5,.slice A0_6 l0_6.length c0_6,.bool a0_7,.bool a0_8] 78 (0,0)) (by (with_reducible repeat (first|refine blk_drewN ?_ _|refine blk_drew ?_|refine blk_alloc ?_ _));exact BK182.out)):gb183≠gb182));clear BK182;clear HB;have BK182:=n0_;have HB:=n1_;have BK183:=n2_;have GW183:=n3_;have GE183:=n4_;have NB182_183:=n5_;have NB183_182:=n6_;clear n0_ n1_ n2_ n3_ n4_ n5_ n6_;clear hb hbox hg;have hnb27:=NB182_183.out;have hnc27:=NB183_182.out;have hcz28_0:w26.cell? ⟨gb182,0,none⟩=some (.bool a0_0):=(blk_cell BK182.out 0).trans rfl;have hcz28_1:w26.cell? ⟨gb182,1,none⟩=some (.bool a0_1):=(blk_cell BK182.out 1).trans rfl;have hcz28_2:w26.cell? ⟨gb182,2,none⟩=some (.slice A0_2 l0_2.length c0_2):=(blk_cell BK182.out 2).trans rfl;have hcz28_3:w26.cell? ⟨gb182,3,none⟩=some (.slice A0_3 l0_3.length c0_3):=(blk_cell BK182.out 3).trans rfl;have hcz28_4:w26.cell? ⟨gb182,4,none⟩=some (.slice A0_4 l0_4.length c0_4):=(blk_cell BK182.out 4).trans rfl;have hcz28_5:w26.cell? ⟨gb182,5,none⟩=some (.slice A0_5 l0_5.length c0_5):=(blk_cell BK182.out 5).trans rfl;have hcz28_6:w26.cell? ⟨gb182,6,none⟩=some (.slice A0_6 l0_6.length c0_6):=(blk_cell BK182.out 6).trans rfl;have hcz28_7:w26.cell? ⟨gb182,7,none⟩=some (.bool a0_7):=(blk_cell BK182.out 7).trans rfl;have hcz28_8:w26.cell? ⟨gb182,8,none⟩=some (.bool a0_8):=(blk_cell BK182.out 8).trans rfl;have hfz28_0:=blk_frozen BK182.out 0;have hfz28_1:=blk_frozen BK182.out 1;have hfz28_2:=blk_frozen BK182.out 2;have hfz28_3:=blk_frozen BK182.out 3;have hfz28_4:=blk_frozen BK182.out 4;have hfz28_5:=blk_frozen BK182.out 5;have hfz28_6:=blk_frozen BK182.out 6;have hfz28_7:=blk_frozen BK182.out 7;have hfz28_8:=blk_frozen BK182.out 8)|((with_reducible refine gate_callee (f:=126) rfl ?_);refine goesL_ (some 6) rfl rfl Try.func126 (by kernel_rfl) rfl #[.agg #[.bool a0_0,.bool a0_1,.slice A0_2 l0_2.length c0_2,.slice A0_3 l0_3.length c0_3,.slice A0_4 l0_4.length c0_4,.slice A0_5 l0_5.length c0_5,.slice A0_6 l0_6.length c0_6,.bool a0_7,.bool a0_8]] rfl (by (try simp only [List.map_toArray,List.map_cons,List.map_nil]);first|done|rfl|(simp only [List.length_drop,List.length_take];rfl)) ?_;(with_reducible refine (spec_l07Check.calls k a0_0 a0_1 _ _ l0_2 _ _ l0_3 _ _ l0_4 _ _ l0_5 _ _ l0_6 a0_7 a0_8 t184 _ ?side1 ?side2 ?side3 ?side4 ?side5 ?side6 ?side7 ?side8 ?side9 ?side10 A3.out).mono ?_);(case side1=>repeat (first|exact (Kd.C_below HR0_2.out HB.out)|(with_reducible refine Kd.C_alloc ?_ _)|(with_reducible refine Kd.C_drewN ?_ _)|(with_reducible refine Kd.C_drew ?_)));(case side2=>exact HC0_2.out);(case side3=>repeat (first|exact (Kd.C_below HR0_3.out HB.out)|(with_reducible refine Kd.C_alloc ?_ _)|(with_reducible refine Kd.C_drewN ?_ _)|(with_reducible refine Kd.C_drew ?_)));(case side4=>exact HC0_3.out);(case side5=>repeat (first|exact (Kd.C_below HR0_4.out HB.out)|(with_reducible refine Kd.C_alloc ?_ _)|(with_reducible refine Kd.C_drewN ?_ _)|(with_reducible refine Kd.C_drew ?_)));(case side6=>exact HC0_4.out);(case side7=>repeat (first|exact (Kd.C_below HR0_5.out HB.out)|(with_reducible refine Kd.C_alloc ?_ _)|(with_reducible refine Kd.C_drewN ?_ _)|(with_reducible refine Kd.C_drew ?_)));(case side8=>exact HC0_5.out);(case side9=>repeat (first|exact (Kd.C_below HR0_6.out HB.out)|(with_reducible refine Kd.C_alloc ?_ _)|(with_reducible refine Kd.C_drewN ?_ _)|(with_reducible refine Kd.C_drew ?_)));(case side10=>exact HC0_6.out);rintro e w29 ⟨rfl,hb⟩;refine ⟨_,rfl,?_⟩;have n0_:=Aside0.mk (blk_below (g:=gb182) (o:=.cells #[.bool a0_0,.bool a0_1,.slice A0_2 l0_2.length c0_2,.slice A0_3 l0_3.length c0_3,.slice A0_4 l0_4.length c0_4,.slice A0_5 l0_5.length c0_5,.slice A0_6 l0_6.length c0_6,.bool a0_7,.bool a0_8] 78 (0,0)) (by (with_reducible repeat (first|refine blk_drewN ?_ _|refine blk_drew ?_|refine blk_alloc ?_ _));exact BK182.out) hb);have n1_:=Aside0.mk (blk_below (g:=gb183) (o:=.cells #[.bool a1_0,.bool a1_1,.slice A1_2 l1_2.length c1_2,.slice A1_3 l1_3.length c1_3,.slice A1_4 l1_4.length c1_4,.slice A1_5 l1_5.length c1_5,.slice A1_6 l1_6.length c1_6,.bool a1_7,.bool a1_8] 78 (0,0)) (by (with_reducible repeat (first|refine blk_drewN ?_ _|refine blk_drew ?_|refine blk_alloc ?_ _));exact BK183.out) hb);have n2_:=Aside0.mk (below_step (by repeat (first|(with_reducible first|exact HB.out|apply below_alloc|apply pw_below_drewN|apply below_drew1|refine below_set ?_ GE182.out|refine below_set ?_ GE183.out)|exact HB.out)) hb);clear BK182;clear BK183;clear HB;have BK182:=n0_;have BK183:=n1_;have HB:=n2_;clear n0_ n1_ n2_;(try clear hb);(try clear hb2);(try clear hk);(try clear hi)))
  go_ret
  exact ⟨by first|rfl|(simp [errW_none,errW_some] <;> rfl)|(simp [*,errW_none,errW_some] <;> rfl),by repeat (first|(with_reducible first|exact HB.out|apply below_alloc|apply pw_below_drewN|apply below_drew1|refine below_set ?_ GE182.out|refine below_set ?_ GE183.out)|exact HB.out)⟩
/-! ### impl_within: function 75 -/
def impl_within.f (a0:Int) (a1:Int) (a2:Int):Option (Bool):=if a0≥a1 then (some (decide (a0≤a2))) else (some false)
set_option maxHeartbeats 8000000 in
set_option maxRecDepth 100000 in
theorem impl_within.calls (a0:Int) (a1:Int) (a2:Int) (r:Bool) (w:World) (h:impl_within.f a0 a1 a2=some r) :
 Calls Try.prog 75 #[.int .i64 a0,.int .i64 a1,.int .i64 a2] w fun e w'=>e=.returned (.bool r)∧Drawn0 w w':=by
 have H:(if a0≥a1 then (some (decide (a0≤a2))) else (some false))=some r:=h
 clear h
 by_cases c4:a0≥a1
 ·rw [if_pos c4] at H
  have c4b0:decide (a1≤a0)=true:=decide_eq_true c4
  clear c4
  obtain rfl:=Option.some.inj H
  go_enter Try.func75,Try.ntmps75
  go_wp2
  go_ret
  exact ⟨by first|rfl|(simp;done)|(simp [*];done),by repeat (first|exact Drawn0.refl _|apply Drawn0.step)⟩
 ·rw [if_neg c4] at H
  have c4b0:decide (a1≤a0)=false:=decide_eq_false c4
  clear c4
  obtain rfl:=Option.some.inj H
  go_enter Try.func75,Try.ntmps75
  go_wp2
  go_ret
  exact ⟨by first|rfl|(simp;done)|(simp [*];done),by repeat (first|exact Drawn0.refl _|apply Drawn0.step)⟩
theorem impl_within.pure (n a b:Int) (W:World):Calls Try.prog 75 #[.int .i64 n,.int .i64 a,.int .i64 b] W fun e w'=>e=.returned (.bool (decide (a≤n∧n≤b)))∧Drawn0 W w':=by
 refine impl_within.calls n a b _ W ?_
 unfold impl_within.f
 by_cases h:n≥a
 ·rw [if_pos h];simp [h]
 ·rw [if_neg h];simp;omega
/-! ### impl_isSmall: function 105 -/
def impl_isSmall.f (a0:Int):Option (Bool):=if a0≥97 then (some (decide (a0≤122))) else (some false)
set_option maxHeartbeats 8000000 in
set_option maxRecDepth 100000 in
theorem impl_isSmall.calls (a0:Int) (r:Bool) (w:World) (h:impl_isSmall.f a0=some r) :
 Calls Try.prog 105 #[.int .u8 a0] w fun e w'=>e=.returned (.bool r)∧Drawn0 w w':=by
 have H:(if a0≥97 then (some (decide (a0≤122))) else (some false))=some r:=h
 clear h
 by_cases c2:a0≥97
 ·rw [if_pos c2] at H
  have c2b0:decide (97≤a0)=true:=decide_eq_true c2
  clear c2
  obtain rfl:=Option.some.inj H
  go_enter Try.func105,Try.ntmps105
  go_wp2
  go_ret
  exact ⟨by first|rfl|(simp;done)|(simp [*];done),by repeat (first|exact Drawn0.refl _|apply Drawn0.step)⟩
 ·rw [if_neg c2] at H
  have c2b0:decide (97≤a0)=false:=decide_eq_false c2
  clear c2
  obtain rfl:=Option.some.inj H
  go_enter Try.func105,Try.ntmps105
  go_wp2
  go_ret
  exact ⟨by first|rfl|(simp;done)|(simp [*];done),by repeat (first|exact Drawn0.refl _|apply Drawn0.step)⟩
/-! ### impl_isDigit: function 106 -/
def impl_isDigit.f (a0:Int):Option (Bool):=if a0≥48 then (some (decide (a0≤57))) else (some false)
set_option maxHeartbeats 8000000 in
set_option maxRecDepth 100000 in
theorem impl_isDigit.calls (a0:Int) (r:Bool) (w:World) (h:impl_isDigit.f a0=some r) :
 Calls Try.prog 106 #[.int .u8 a0] w fun e w'=>e=.returned (.bool r)∧Drawn0 w w':=by
 have H:(if a0≥48 then (some (decide (a0≤57))) else (some false))=some r:=h
 clear h
 by_cases c2:a0≥48
 ·rw [if_pos c2] at H
  have c2b0:decide (48≤a0)=true:=decide_eq_true c2
  clear c2
  obtain rfl:=Option.some.inj H
  go_enter Try.func106,Try.ntmps106
  go_wp2
  go_ret
  exact ⟨by first|rfl|(simp;done)|(simp [*];done),by repeat (first|exact Drawn0.refl _|apply Drawn0.step)⟩
 ·rw [if_neg c2] at H
  have c2b0:decide (48≤a0)=false:=decide_eq_false c2
  clear c2
  obtain rfl:=Option.some.inj H
  go_enter Try.func106,Try.ntmps106
  go_wp2
  go_ret
  exact ⟨by first|rfl|(simp;done)|(simp [*];done),by repeat (first|exact Drawn0.refl _|apply Drawn0.step)⟩
/-! ### impl_TagOK: function 42 -/
def impl_TagOK.l0:Nat→ByteArray→Int→Int→Option (Bool)
 | 0,_,_,_=>none
 | k+1,x0,x6,x7=>if x7<x6 then (if 0≤x7 then (if x7<(x0.size:Int) then ((impl_isSmall.f (bt x0 x7)).bind fun t188=>(if t188=true then (impl_TagOK.l0 k x0 x6 (wrap64 (x7+1))) else (if x7=0 then (some false) else ((impl_isDigit.f (bt x0 x7)).bind fun t189=>(if t189=true then (impl_TagOK.l0 k x0 x6 (wrap64 (x7+1))) else (if (bt x0 x7)=45 then (impl_TagOK.l0 k x0 x6 (wrap64 (x7+1))) else (some false))))))) else (none)) else (none)) else ((impl_within.f (x0.size:Int) 1 12).bind fun t187=>(some t187))
def impl_TagOK.f (k:Nat) (a0:ByteArray):Option (Bool):=impl_TagOK.l0 k a0 (a0.size:Int) 0
theorem impl_TagOK.mono_l:∀ k,(∀ y0 y1 y2,LeO (impl_TagOK.l0 k y0 y1 y2) (impl_TagOK.l0 (k+1) y0 y1 y2))
 | 0=>fun _ _ _ r h=>by simp [impl_TagOK.l0] at h
 | k+1=>by
  have ih0:=impl_TagOK.mono_l k
  ·intro y0 y1 y2
   unfold impl_TagOK.l0
   repeat' first
   | (with_reducible exact ih0 _ _ _)
   | (with_reducible exact LeO.refl _)
   | (with_reducible exact LeO.none _)
   | (with_reducible refine LeO.ite ?_ ?_)
   | (with_reducible refine LeO.bind ?_ (fun _=>?_))
   | exact ih0 _ _ _
   | exact LeO.none _
   | refine LeO.ite ?_ ?_
   | refine LeO.bind ?_ (fun _=>?_)
theorem impl_TagOK.mono:∀ a0 k,LeO (impl_TagOK.f k a0) (impl_TagOK.f (k+1) a0):=by
 intro a0 k
 have ih0:=impl_TagOK.mono_l k
 unfold impl_TagOK.f
 repeat' first
  | (with_reducible exact ih0 _ _ _)
  | (with_reducible exact LeO.refl _)
  | (with_reducible exact LeO.none _)
  | (with_reducible refine LeO.ite ?_ ?_)
  | (with_reducible refine LeO.bind ?_ (fun _=>?_))
  | exact ih0 _ _ _
  | exact LeO.none _
  | refine LeO.ite ?_ ?_
  | refine LeO.bind ?_ (fun _=>?_)
set_option maxHeartbeats 8000000 in
set_option maxRecDepth 100000 in
theorem impl_TagOK.calls (k:Nat) (a0:ByteArray) (r:Bool) (w:World) (h:impl_TagOK.f k a0=some r) :
 Calls Try.prog 42 #[.string a0] w fun e w'=>e=.returned (.bool r)∧Drawn0 w w':=by
 have H:(impl_TagOK.l0 k a0 (a0.size:Int) 0)=some r:=h
 clear h
 have H':=Aside0.mk H
 clear H
 go_enter Try.func42,Try.ntmps42
 go_wp2
 go_loopg [7] k (fun kq v7 w'=>∃ (x7_1:Int),v7=.int .i64 x7_1∧Aside0 (impl_TagOK.l0 kq a0 (a0.size:Int) x7_1=some r)∧Aside0 (kq≤k)∧Drawn0 w w')
 case atStart=>exact ⟨(0),(by first|rfl|(simp;done)|(simp [*];done)),H',⟨Nat.le_refl _⟩,by repeat (first|exact Drawn0.refl _|apply Drawn0.step)⟩
 case round =>
  clear H'
  obtain ⟨x7_1,rfl,HA,HK1,⟨m1,rfl⟩⟩:=hrel
  cases gk with
  | zero=>exact absurd HA.out (by simp [impl_TagOK.l0])
  | succ k1 =>
   have H:=HA.out
   clear HA
   simp only [impl_TagOK.l0] at H
   by_cases c2:x7_1<(a0.size:Int)
   ·rw [if_pos c2] at H
    have c2b0:decide (x7_1<(a0.size:Int))=true:=decide_eq_true c2
    clear c2
    by_cases c3:0≤x7_1
    ·rw [if_pos c3] at H
     have c3b0:decide (0≤x7_1)=true:=decide_eq_true c3
     clear c3
     by_cases c4:x7_1<(a0.size:Int)
     ·rw [if_pos c4] at H
      have c4b0:decide (x7_1<(a0.size:Int))=true:=decide_eq_true c4
      clear c4
      replace H:=Option.bind_eq_some_iff.mp H
      obtain ⟨t188,A60,H⟩:=H
      replace H:(if t188=true then (impl_TagOK.l0 k1 a0 (a0.size:Int) (wrap64 (x7_1+1))) else (if x7_1=0 then (some false) else ((impl_isDigit.f (bt a0 x7_1)).bind fun t189=>(if t189=true then (impl_TagOK.l0 k1 a0 (a0.size:Int) (wrap64 (x7_1+1))) else (if (bt a0 x7_1)=45 then (impl_TagOK.l0 k1 a0 (a0.size:Int) (wrap64 (x7_1+1))) else (some false))))))=some r:=H
      have A6:=Aside0.mk A60
      clear A60
      by_cases c7:t188=true
      ·subst c7
       have H1:(impl_TagOK.l0 k1 a0 (a0.size:Int) (wrap64 (x7_1+1)))=some r:=by rw [if_pos rfl] at H;exact H
       clear H
       have H:=H1
       clear H1
       have H':=Aside0.mk H
       clear H
       have p5:0≤(x7_1:Int):=of_decide_eq_true (by first|(with_reducible assumption)|assumption)
       have q5:x7_1<(a0.size:Int):=of_decide_eq_true (by first|(with_reducible assumption)|assumption)
       have hx5:=bt_at a0 x7_1
       replace p5:=eq_true p5
       replace q5:=eq_true q5
       go_wp2_with (first|((with_reducible refine gate_callee (f:=105) rfl ?_);refine goesL_ (some 14) rfl rfl Try.func105 (by kernel_rfl) rfl #[.int .u8 (bt a0 x7_1)] rfl (by (try simp only [List.map_toArray,List.map_cons,List.map_nil]);first|done|rfl|(simp only [List.length_drop,List.length_take];rfl)) ?_;(with_reducible refine (impl_isSmall.calls (bt a0 x7_1) true _ A6.out).mono ?_);rintro e w' ⟨rfl,⟨nd,rfl⟩⟩;refine ⟨_,rfl,?_⟩))
       go_roundg k1
       case measure=>have:=HK1.out;omega
       case rel=>exact ⟨(wrap64 (x7_1+1)),(by first|rfl|(simp;done)|(simp [*];done)),H',⟨by have:=HK1.out;omega⟩,by repeat (first|exact Drawn0.refl _|apply Drawn0.step)⟩
      ·replace c7:=Bool.eq_false_iff.mpr c7
       subst c7
       have H1:(if x7_1=0 then (some false) else ((impl_isDigit.f (bt a0 x7_1)).bind fun t189=>(if t189=true then (impl_TagOK.l0 k1 a0 (a0.size:Int) (wrap64 (x7_1+1))) else (if (bt a0 x7_1)=45 then (impl_TagOK.l0 k1 a0 (a0.size:Int) (wrap64 (x7_1+1))) else (some false)))))=some r:=by rw [if_neg (show ¬ (false=true) by decide)] at H;exact H
       clear H
       have H:=H1
       clear H1
       by_cases c8:x7_1=0
       ·rw [if_pos c8] at H
        have c8b0:(x7_1 == 0)=true:=beq_iff_eq.mpr c8
        have c8b1:(x7_1 != 0)=false:=bne_eq_false_iff_eq.mpr c8
        clear c8
        obtain rfl:=Option.some.inj H
        have p5:0≤(x7_1:Int):=of_decide_eq_true (by first|(with_reducible assumption)|assumption)
        have q5:x7_1<(a0.size:Int):=of_decide_eq_true (by first|(with_reducible assumption)|assumption)
        have hx5:=bt_at a0 x7_1
        replace p5:=eq_true p5
        replace q5:=eq_true q5
        go_wp2_with (first|((with_reducible refine gate_callee (f:=105) rfl ?_);refine goesL_ (some 14) rfl rfl Try.func105 (by kernel_rfl) rfl #[.int .u8 (bt a0 x7_1)] rfl (by (try simp only [List.map_toArray,List.map_cons,List.map_nil]);first|done|rfl|(simp only [List.length_drop,List.length_take];rfl)) ?_;(with_reducible refine (impl_isSmall.calls (bt a0 x7_1) false _ A6.out).mono ?_);rintro e w' ⟨rfl,⟨nd,rfl⟩⟩;refine ⟨_,rfl,?_⟩))
        go_ret
        exact ⟨by first|rfl|(simp;done)|(simp [*];done),by repeat (first|exact Drawn0.refl _|apply Drawn0.step)⟩
       ·rw [if_neg c8] at H
        have c8b0:(x7_1 == 0)=false:=beq_eq_false_iff_ne.mpr c8
        have c8b1:(x7_1 != 0)=true:=bne_iff_ne.mpr c8
        replace H:=Option.bind_eq_some_iff.mp H
        obtain ⟨t189,A90,H⟩:=H
        replace H:(if t189=true then (impl_TagOK.l0 k1 a0 (a0.size:Int) (wrap64 (x7_1+1))) else (if (bt a0 x7_1)=45 then (impl_TagOK.l0 k1 a0 (a0.size:Int) (wrap64 (x7_1+1))) else (some false)))=some r:=H
        have A9:=Aside0.mk A90
        clear A90
        by_cases c10:t189=true
        ·subst c10
         have H1:(impl_TagOK.l0 k1 a0 (a0.size:Int) (wrap64 (x7_1+1)))=some r:=by rw [if_pos rfl] at H;exact H
         clear H
         have H:=H1
         clear H1
         have H':=Aside0.mk H
         clear H
         have p5:0≤(x7_1:Int):=of_decide_eq_true (by first|(with_reducible assumption)|assumption)
         have q5:x7_1<(a0.size:Int):=of_decide_eq_true (by first|(with_reducible assumption)|assumption)
         have hx5:=bt_at a0 x7_1
         replace p5:=eq_true p5
         replace q5:=eq_true q5
         go_wp2_with (first|((with_reducible refine gate_callee (f:=105) rfl ?_);refine goesL_ (some 14) rfl rfl Try.func105 (by kernel_rfl) rfl #[.int .u8 (bt a0 x7_1)] rfl (by (try simp only [List.map_toArray,List.map_cons,List.map_nil]);first|done|rfl|(simp only [List.length_drop,List.length_take];rfl)) ?_;(with_reducible refine (impl_isSmall.calls (bt a0 x7_1) false _ A6.out).mono ?_);rintro e w' ⟨rfl,⟨nd,rfl⟩⟩;refine ⟨_,rfl,?_⟩)|(go_at_call 106;(with_reducible refine (impl_isDigit.calls (bt a0 x7_1) true _ A9.out).mono ?_);rintro e w' ⟨rfl,⟨nd,rfl⟩⟩))
         go_roundg k1
         case measure=>have:=HK1.out;omega
         case rel=>exact ⟨(wrap64 (x7_1+1)),(by first|rfl|(simp;done)|(simp [*];done)),H',⟨by have:=HK1.out;omega⟩,by repeat (first|exact Drawn0.refl _|apply Drawn0.step)⟩
        ·replace c10:=Bool.eq_false_iff.mpr c10
         subst c10
         have H1:(if (bt a0 x7_1)=45 then (impl_TagOK.l0 k1 a0 (a0.size:Int) (wrap64 (x7_1+1))) else (some false))=some r:=by rw [if_neg (show ¬ (false=true) by decide)] at H;exact H
         clear H
         have H:=H1
         clear H1
         by_cases c11:(bt a0 x7_1)=45
         ·rw [if_pos c11] at H
          have c11b0:((bt a0 x7_1) == 45)=true:=beq_iff_eq.mpr c11
          have c11b1:((bt a0 x7_1) != 45)=false:=bne_eq_false_iff_eq.mpr c11
          clear c11
          have H':=Aside0.mk H
          clear H
          have p5:0≤(x7_1:Int):=of_decide_eq_true (by first|(with_reducible assumption)|assumption)
          have q5:x7_1<(a0.size:Int):=of_decide_eq_true (by first|(with_reducible assumption)|assumption)
          have hx5:=bt_at a0 x7_1
          replace p5:=eq_true p5
          replace q5:=eq_true q5
          go_wp2_with (first|((with_reducible refine gate_callee (f:=105) rfl ?_);refine goesL_ (some 14) rfl rfl Try.func105 (by kernel_rfl) rfl #[.int .u8 (bt a0 x7_1)] rfl (by (try simp only [List.map_toArray,List.map_cons,List.map_nil]);first|done|rfl|(simp only [List.length_drop,List.length_take];rfl)) ?_;(with_reducible refine (impl_isSmall.calls (bt a0 x7_1) false _ A6.out).mono ?_);rintro e w' ⟨rfl,⟨nd,rfl⟩⟩;refine ⟨_,rfl,?_⟩)|(go_at_call 106;(with_reducible refine (impl_isDigit.calls (bt a0 x7_1) false _ A9.out).mono ?_);rintro e w' ⟨rfl,⟨nd,rfl⟩⟩))
          go_roundg k1
          case measure=>have:=HK1.out;omega
          case rel=>exact ⟨(wrap64 (x7_1+1)),(by first|rfl|(simp;done)|(simp [*];done)),H',⟨by have:=HK1.out;omega⟩,by repeat (first|exact Drawn0.refl _|apply Drawn0.step)⟩
         ·rw [if_neg c11] at H
          have c11b0:((bt a0 x7_1) == 45)=false:=beq_eq_false_iff_ne.mpr c11
          have c11b1:((bt a0 x7_1) != 45)=true:=bne_iff_ne.mpr c11
          obtain rfl:=Option.some.inj H
          have p5:0≤(x7_1:Int):=of_decide_eq_true (by first|(with_reducible assumption)|assumption)
          have q5:x7_1<(a0.size:Int):=of_decide_eq_true (by first|(with_reducible assumption)|assumption)
          have hx5:=bt_at a0 x7_1
          replace p5:=eq_true p5
          replace q5:=eq_true q5
          go_wp2_with (first|((with_reducible refine gate_callee (f:=105) rfl ?_);refine goesL_ (some 14) rfl rfl Try.func105 (by kernel_rfl) rfl #[.int .u8 (bt a0 x7_1)] rfl (by (try simp only [List.map_toArray,List.map_cons,List.map_nil]);first|done|rfl|(simp only [List.length_drop,List.length_take];rfl)) ?_;(with_reducible refine (impl_isSmall.calls (bt a0 x7_1) false _ A6.out).mono ?_);rintro e w' ⟨rfl,⟨nd,rfl⟩⟩;refine ⟨_,rfl,?_⟩)|(go_at_call 106;(with_reducible refine (impl_isDigit.calls (bt a0 x7_1) false _ A9.out).mono ?_);rintro e w' ⟨rfl,⟨nd,rfl⟩⟩))
          go_ret
          exact ⟨by first|rfl|(simp;done)|(simp [*];done),by repeat (first|exact Drawn0.refl _|apply Drawn0.step)⟩
     ·rw [if_neg c4] at H
      exact absurd H (by simp)
    ·rw [if_neg c3] at H
     exact absurd H (by simp)
   ·rw [if_neg c2] at H
    have c2b0:decide (x7_1<(a0.size:Int))=false:=decide_eq_false c2
    clear c2
    replace H:=Option.bind_eq_some_iff.mp H
    obtain ⟨t187,A120,H⟩:=H
    replace H:(some t187)=some r:=H
    have A12:=Aside0.mk A120
    clear A120
    obtain rfl:=Option.some.inj H
    go_wp2_with (first|((with_reducible refine gate_callee (f:=75) rfl ?_);refine goesL_ (some 32) rfl rfl Try.func75 (by kernel_rfl) rfl #[.int .i64 (a0.size:Int),.int .i64 1,.int .i64 12] rfl (by (try simp only [List.map_toArray,List.map_cons,List.map_nil]);first|done|rfl|(simp only [List.length_drop,List.length_take];rfl)) ?_;(with_reducible refine (impl_within.calls (a0.size:Int) 1 12 t187 _ A12.out).mono ?_);rintro e w' ⟨rfl,⟨nd,rfl⟩⟩;refine ⟨_,rfl,?_⟩))
    go_ret
    exact ⟨by first|rfl|(simp;done)|(simp [*];done),by repeat (first|exact Drawn0.refl _|apply Drawn0.step)⟩
open Go.Proofs.Ytophaihdibplkaa.Kit (small digit big pos_eq neg_eq tagB isTag nameB isName lowC lowS lowS_bytes handler wantJ wantJ_eq keepC badL badFrom badFrom_zero badFrom_full badFrom_nil badFrom_skip badFrom_take indexByte_any markB namesAt namesOK)
theorem isSmall_eq (c:Int):impl_isSmall.f c=some (small c):=by
 unfold impl_isSmall.f small
 by_cases h:c≥97
 ·rw [if_pos h];simp [h]
 ·rw [if_neg h];simp;omega
theorem isDigit_eq (c:Int):impl_isDigit.f c=some (digit c):=by
 unfold impl_isDigit.f digit
 by_cases h:c≥48
 ·rw [if_pos h];simp [h]
 ·rw [if_neg h];simp;omega
theorem within_eq (n a b:Int):impl_within.f n a b=some (decide (a≤n∧n≤b)):=by
 unfold impl_within.f
 by_cases h:n≥a
 ·rw [if_pos h];simp [h]
 ·rw [if_neg h];simp;omega
theorem ev_tag_impl (s:ByteArray) (hn:s.size≤9223372036854775807):Ev (fun k=>impl_TagOK.f k s) (isTag s):=by
 have key:∀ i:Nat,i≤s.size→Ev (fun k=>impl_TagOK.l0 k s s.size i) (Kit.allB (tagB s) i s.size && decide ((1:Int)≤(s.size:Int)∧(s.size:Int)≤12)):=by
  refine Kit.down ?_ ?_
  ·refine Ev.step (fun k=>rfl) ?_
   refine Kit.ev_neg (by omega) ?_
   refine Kit.ev_some (within_eq _ _ _) ?_
   rw [Kit.allB_end,Bool.true_and]
   exact Ev.now _
  ·intro i hi ih
   refine Ev.step (fun k=>rfl) ?_
   refine Kit.ev_pos (by omega) (Kit.ev_pos (by omega) (Kit.ev_pos (by omega) ?_))
   rw [Kit.allB_step _ hi,Kit.wrap_nat hi hn]
   have yes:tagB s i=true→Ev (fun k=>impl_TagOK.l0 k s s.size ((i+1:Nat):Int)) (tagB s i && Kit.allB (tagB s) (i+1) s.size && decide ((1:Int)≤(s.size:Int)∧(s.size:Int)≤12)):=fun h=>by rw [h,Bool.true_and];exact ih
   have no:tagB s i=false→Ev (fun _:Nat=>some false) (tagB s i && Kit.allB (tagB s) (i+1) s.size && decide ((1:Int)≤(s.size:Int)∧(s.size:Int)≤12)):=fun h=>by rw [h,Bool.false_and,Bool.false_and];exact Ev.now _
   refine Kit.ev_some (isSmall_eq _) (Kit.ev_if (fun h=>yes (by simp [tagB,h])) (fun h=>?_))
   refine Kit.ev_if (fun h0=>no ?_) (fun h0=>?_)
   ·simp [tagB,h];intro h1;omega
   refine Kit.ev_some (isDigit_eq _) (Kit.ev_if (fun h1=>yes ?_) (fun h1=>Kit.ev_if (fun h2=>yes ?_) (fun h2=>no ?_)))
   ·simp [tagB,h1];omega
   ·simp [tagB,h2];omega
   ·simp [tagB,h,h1,h2]
 exact key 0 (by omega)
theorem impl_TagOK.pure (s:ByteArray) (hs:s.size≤9223372036854775807) (W:World):Calls Try.prog 42 #[.string s] W fun e w'=>e=.returned (.bool (isTag s))∧Drawn0 W w':=by
 obtain ⟨K,hK⟩:=ev_tag_impl s hs
 exact impl_TagOK.calls K s _ W (hK K (Nat.le_refl _))
/-! ### impl_areNames: function 131, by hand -/
open Go.Proofs.Ytophaihdibplkaa.Kit (small digit big pos_eq neg_eq tagB isTag nameB isName lowC lowS lowS_bytes handler wantJ wantJ_eq keepC badL badFrom badFrom_zero badFrom_full badFrom_nil badFrom_skip badFrom_take indexByte_any markB namesAt namesOK)
def impl_areNames.f (l0:List ByteArray):Option Bool:=if ∀ x∈l0,x.size≤9223372036854775807 then some (namesOK l0) else none
theorem impl_areNames.calls (A0:Option Addr) (c0:Nat) (l0:List ByteArray) (r:Bool) (w:World) (hr0:Kd.C Kd.string w A0 l0.length l0) (hc0:l0.length≤c0) (h:impl_areNames.f l0=some r) :
 Calls Try.prog 131 #[.slice A0 l0.length c0] w fun e w'=>e=.returned (.bool r)∧Drawn0 w w':=by
 unfold impl_areNames.f at h
 obtain ⟨hsz,h⟩:=Option.ite_none_right_eq_some.mp h
 obtain rfl:=Option.some.inj h
 have HS:=Aside0.mk hsz
 have hn:l0.length≤9223372036854775807:=hr0.2.1
 have HR:=Aside0.mk hr0
 have HC:=Aside0.mk hc0
 clear hr0 hc0 hsz
 go_enter Try.func131,Try.ntmps131
 go_wp2
 go_loopg [7] l0.length (fun gg s7 wr=>∃ kk:Nat,kk≤l0.length∧l0.length - kk≤gg∧s7=.int .i64 kk∧Aside0 (∀ j,j<kk→namesAt l0 j=true)∧Drawn0 w wr)
 case atStart=>exact ⟨0,Nat.zero_le _,by omega,rfl,⟨fun j hj=>absurd hj (Nat.not_lt_zero _)⟩,Drawn0.refl _⟩
 case round =>
  obtain ⟨kk,hkk,hg,rfl,AA,⟨m1,rfl⟩⟩:=hrel
  by_cases hlt:kk<l0.length
  ·have hltz:(kk:Int)<(l0.length:Int):=by omega
   obtain ⟨ad,e,l1⟩:=Kd.at_string HR.out (kk:Int) (by omega) hltz
   cases e
   rw [Kit.rdOf_nat,Int.toNat_natCast] at l1
   have hs:=HS.out (l0.getD kk ByteArray.empty) (by rw [List.getD_eq_getElem?_getD,List.getElem?_eq_getElem hlt];exact List.getElem_mem hlt)
   obtain ⟨K,hK⟩:=ev_tag_impl _ hs
   have hK:=hK K (Nat.le_refl _)
   have hat:namesAt l0 kk=(isTag (l0.getD kk ByteArray.empty) && !Kit.hasT (l0.take kk) (l0.getD kk ByteArray.empty)):=rfl
   obtain ⟨i0,hi,_,hz1,_⟩:=info_parts info9
   obtain ⟨hcut,hA,hC⟩:=print_take_of (P:=Try.prog) Value.string (⟨#[]⟩:ByteArray) 44 9 .i64 Try.underlying44 hi hz1 (some ad) c0 l0 (kk:Int) (by omega) (by omega) HC.out
   have HR1:=Aside0.mk (Kd.C_of_reads (h1:=fun _=>rfl) (hA _ (Kd.reads_of_C HR.out)))
   have HC1:=Aside0.mk hC
   have q1:=fun W=>(impl_TagOK.calls K (l0.getD kk ByteArray.empty) _ W hK)
   obtain ⟨K2,hK2⟩:=ev_slices_Contains (l0.take kk) (l0.getD kk ByteArray.empty) (by rw [List.length_take];omega)
   have hK2:=hK2 K2 (Nat.le_refl _)
   rw [Int.toNat_natCast] at hcut HR1 HC1
   have q2:=fun m=>(slices_Contains_string_string.calls K2 (some ad) c0 (l0.take kk) (l0.getD kk ByteArray.empty) _ (w.drewN m) (Kd.C_drewN HR1.out m) HC1.out hK2)
   clear hK hK2 hC hA
   generalize l0.getD kk ByteArray.empty=y at *
   generalize l0.take kk=T at *
   cases ht:isTag y with
   | false =>
    rw [ht] at q1 hat
    rw [Bool.false_and] at hat
    clear ht q2
    have hall:namesOK l0=false:=by
     unfold namesOK
     rw [Bool.and_eq_false_iff]
     refine .inr (Bool.eq_false_iff.2 fun h=>?_)
     have:=(Kit.allB_iff _ _ _).1 h kk (Nat.zero_le _) hlt
     rw [hat] at this
     cases this
    have HALL:=Aside0.mk hall
    clear hall hat
    go_wp2_with (go_at_call 42;(with_reducible refine (q1 _).mono ?_);rintro e w' ⟨rfl,⟨nd,rfl⟩⟩)
    go_ret
    exact ⟨by rw [HALL.out];rfl,(by first|exact ⟨⟨_,rfl⟩⟩|exact (Drawn0.refl _).step _|exact ((Drawn0.refl _).step _).step _)⟩
   | true =>
    rw [ht] at q1 hat
    rw [Bool.true_and] at hat
    clear ht
    cases hh:Kit.hasT T y with
    | true =>
     rw [hh] at q2 hat
     have hall:namesOK l0=false:=by
      unfold namesOK
      rw [Bool.and_eq_false_iff]
      refine .inr (Bool.eq_false_iff.2 fun h=>?_)
      have:=(Kit.allB_iff _ _ _).1 h kk (Nat.zero_le _) hlt
      rw [hat] at this
      cases this
     have HALL:=Aside0.mk hall
     clear hall hat hh
     go_wp2_with (first|(go_at_call 42;(with_reducible refine (q1 _).mono ?_);rintro e w' ⟨rfl,⟨nd,rfl⟩⟩)|(go_at_call 95;(first|(with_reducible refine (q2 _).mono ?_)|(rw [World.drewN_drewN];with_reducible refine (q2 _).mono ?_));rintro e w' ⟨rfl,⟨nd2,rfl⟩⟩))
     go_ret
     exact ⟨by rw [HALL.out];rfl,(by first|exact ⟨⟨_,rfl⟩⟩|exact (Drawn0.refl _).step _|exact ((Drawn0.refl _).step _).step _|exact (((Drawn0.refl _).step _).step _).step _)⟩
    | false =>
     rw [hh] at q2 hat
     have HAT:=Aside0.mk hat
     clear hat hh
     go_wp2_with (first|(go_at_call 42;(with_reducible refine (q1 _).mono ?_);rintro e w' ⟨rfl,⟨nd,rfl⟩⟩)|(go_at_call 95;(first|(with_reducible refine (q2 _).mono ?_)|(rw [World.drewN_drewN];with_reducible refine (q2 _).mono ?_));rintro e w' ⟨rfl,⟨nd2,rfl⟩⟩))
     go_roundg (l0.length - (kk+1))
     case measure=>omega
     case rel =>
      refine ⟨kk+1,by omega,by omega,by go_num,⟨fun j hj=>?_⟩,(by first|exact ⟨⟨_,rfl⟩⟩|exact (Drawn0.refl _).step _|exact ((Drawn0.refl _).step _).step _|exact (((Drawn0.refl _).step _).step _).step _)⟩
      by_cases e:j=kk
      ·subst e;exact HAT.out
      ·exact AA.out j (by omega)
  ·have hltz:¬ (kk:Int)<(l0.length:Int):=by omega
   have hke:kk=l0.length:=by omega
   have hall:namesOK l0=decide ((l0.length:Int)≤10):=by
    unfold namesOK
    rw [(Kit.allB_iff _ _ _).2 fun j _ hj=>AA.out j (by omega),Bool.and_true,decide_eq_decide]
    omega
   have HALL:=Aside0.mk hall
   clear hall hke
   go_wp2
   go_ret
   exact ⟨by rw [HALL.out];rfl,(by first|exact ⟨⟨_,rfl⟩⟩|exact (Drawn0.refl _).step _)⟩
/-! ### impl_RuleOK: function 172 -/
def impl_RuleOK.f (k:Nat) (a0_0:Int) (a0_1:ByteArray) (l0_2:List ByteArray):Option (Bool):=(impl_within.f a0_0 0 2).bind fun t191=>(if t191=true then ((impl_TagOK.f k a0_1).bind fun t192=>(if t192=true then ((impl_areNames.f l0_2).bind fun t193=>(some t193)) else (some false))) else (some false))
theorem impl_RuleOK.mono:∀ a0 a1 a2 k,LeO (impl_RuleOK.f k a0 a1 a2) (impl_RuleOK.f (k+1) a0 a1 a2):=by
 intro a0 a1 a2 k
 unfold impl_RuleOK.f
 repeat' first
  | (with_reducible exact impl_TagOK.mono _ _)
  | (with_reducible exact LeO.refl _)
  | (with_reducible exact LeO.none _)
  | (with_reducible refine LeO.ite ?_ ?_)
  | (with_reducible refine LeO.bind ?_ (fun _=>?_))
  | exact impl_TagOK.mono _ _
  | exact LeO.none _
  | refine LeO.ite ?_ ?_
  | refine LeO.bind ?_ (fun _=>?_)
set_option maxHeartbeats 8000000 in
set_option maxRecDepth 100000 in
theorem impl_RuleOK.calls (k:Nat) (a0_0:Int) (a0_1:ByteArray) (A0_2:Option Addr) (c0_2:Nat) (l0_2:List ByteArray) (r:Bool) (w:World) (hr0_2:Kd.C Kd.string w A0_2 l0_2.length l0_2) (hc0_2:l0_2.length≤c0_2) (h:impl_RuleOK.f k a0_0 a0_1 l0_2=some r) :
 Calls Try.prog 172 #[.agg #[.int .i64 a0_0,.string a0_1,.slice A0_2 l0_2.length c0_2]] w fun e w'=>e=.returned (.bool r)∧Below w.heap.size w w':=by
 have hu155:=Try.underlying155
 have HR0_2:=Aside0.mk hr0_2
 have HC0_2:=Aside0.mk hc0_2
 clear hr0_2 hc0_2
 have HB:=Aside0.mk (Below.refl w.heap.size w)
 have H:((impl_within.f a0_0 0 2).bind fun t191=>(if t191=true then ((impl_TagOK.f k a0_1).bind fun t192=>(if t192=true then ((impl_areNames.f l0_2).bind fun t193=>(some t193)) else (some false))) else (some false)))=some r:=h
 clear h
 replace H:=Option.bind_eq_some_iff.mp H
 obtain ⟨t191,A20,H⟩:=H
 replace H:(if t191=true then ((impl_TagOK.f k a0_1).bind fun t192=>(if t192=true then ((impl_areNames.f l0_2).bind fun t193=>(some t193)) else (some false))) else (some false))=some r:=H
 have A2:=Aside0.mk A20
 clear A20
 by_cases c3:t191=true
 ·subst c3
  have H1:((impl_TagOK.f k a0_1).bind fun t192=>(if t192=true then ((impl_areNames.f l0_2).bind fun t193=>(some t193)) else (some false)))=some r:=by rw [if_pos rfl] at H;exact H
  clear H
  have H:=H1
  clear H1
  replace H:=Option.bind_eq_some_iff.mp H
  obtain ⟨t192,A40,H⟩:=H
  replace H:(if t192=true then ((impl_areNames.f l0_2).bind fun t193=>(some t193)) else (some false))=some r:=H
  have A4:=Aside0.mk A40
  clear A40
  by_cases c5:t192=true
  ·subst c5
   have H1:((impl_areNames.f l0_2).bind fun t193=>(some t193))=some r:=by rw [if_pos rfl] at H;exact H
   clear H
   have H:=H1
   clear H1
   replace H:=Option.bind_eq_some_iff.mp H
   obtain ⟨t193,A60,H⟩:=H
   replace H:(some t193)=some r:=H
   have A6:=Aside0.mk A60
   clear A60
   obtain rfl:=Option.some.inj H
   go_enter Try.func172,Try.ntmps172
   go_wp2_with (first|((with_reducible refine gate_dst (N:=1) rfl ?_);refine box_event ?hg (N:=1) ?hd (cs:=#[.int .i64 a0_0,.string a0_1,.slice A0_2 l0_2.length c0_2]) (t:=155) ?hr ?_;(case hd=>rfl);(case hg=>rfl);(case hr=>first|(go_simp;done)|(go_simp;rfl));intro gb190 hg w7 hbox hb;have n0_:=Aside0.mk (below_step (by repeat (first|(with_reducible first|exact HB.out|apply below_alloc|apply pw_below_drewN|apply below_drew1)|exact HB.out)) hb);have n1_:=Aside0.mk (hbox);have n2_:=Aside0.mk ((by rw [hg];exact (below_size (by repeat (first|(with_reducible first|exact HB.out|apply below_alloc|apply pw_below_drewN|apply below_drew1)|exact HB.out))):w.heap.size≤gb190));have n3_:=Aside0.mk ((by rw [hg];exact (below_size (by repeat (first|(with_reducible first|exact HB.out|apply below_alloc|apply pw_below_drewN|apply below_drew1)|exact HB.out))):w.heap.size≤gb190));clear HB;have HB:=n0_;have BK190:=n1_;have GW190:=n2_;have GE190:=n3_;clear n0_ n1_ n2_ n3_;clear hb hbox hg;have hcz8_0:w7.cell? ⟨gb190,0,none⟩=some (.int .i64 a0_0):=(blk_cell BK190.out 0).trans rfl;have hcz8_1:w7.cell? ⟨gb190,1,none⟩=some (.string a0_1):=(blk_cell BK190.out 1).trans rfl;have hcz8_2:w7.cell? ⟨gb190,2,none⟩=some (.slice A0_2 l0_2.length c0_2):=(blk_cell BK190.out 2).trans rfl;have hfz8_0:=blk_frozen BK190.out 0;have hfz8_1:=blk_frozen BK190.out 1;have hfz8_2:=blk_frozen BK190.out 2)|((with_reducible refine gate_callee (f:=75) rfl ?_);refine goesL_ (some 5) rfl rfl Try.func75 (by kernel_rfl) rfl #[.int .i64 a0_0,.int .i64 0,.int .i64 2] rfl (by (try simp only [List.map_toArray,List.map_cons,List.map_nil]);first|done|rfl|(simp only [List.length_drop,List.length_take];rfl)) ?_;(with_reducible refine (impl_within.calls a0_0 0 2 true _ A2.out).mono ?_);rintro e w' ⟨rfl,⟨nd,rfl⟩⟩;refine ⟨_,rfl,?_⟩)|(go_at_call 42;(with_reducible refine (impl_TagOK.calls k a0_1 true _ A4.out).mono ?_);rintro e w' ⟨rfl,⟨nd,rfl⟩⟩)|(go_at_call 131;(with_reducible refine (impl_areNames.calls _ _ l0_2 t193 _ ?side1 ?side2 A6.out).mono ?_);(case side1=>repeat (first|exact (Kd.C_below HR0_2.out (by repeat (first|(with_reducible first|exact HB.out|apply below_alloc|apply pw_below_drewN|apply below_drew1|refine below_set ?_ GE190.out)|exact HB.out)))|(with_reducible refine Kd.C_alloc ?_ _)|(with_reducible refine Kd.C_drewN ?_ _)|(with_reducible refine Kd.C_drew ?_)));(case side2=>exact HC0_2.out);rintro e w' ⟨rfl,⟨nd,rfl⟩⟩))
   go_ret
   exact ⟨by first|rfl|(simp [errW_none,errW_some] <;> rfl)|(simp [*,errW_none,errW_some] <;> rfl),by repeat (first|(with_reducible first|exact HB.out|apply below_alloc|apply pw_below_drewN|apply below_drew1|refine below_set ?_ GE190.out)|exact HB.out)⟩
  ·replace c5:=Bool.eq_false_iff.mpr c5
   subst c5
   have H1:(some false)=some r:=by rw [if_neg (show ¬ (false=true) by decide)] at H;exact H
   clear H
   have H:=H1
   clear H1
   obtain rfl:=Option.some.inj H
   go_enter Try.func172,Try.ntmps172
   go_wp2_with (first|((with_reducible refine gate_dst (N:=1) rfl ?_);refine box_event ?hg (N:=1) ?hd (cs:=#[.int .i64 a0_0,.string a0_1,.slice A0_2 l0_2.length c0_2]) (t:=155) ?hr ?_;(case hd=>rfl);(case hg=>rfl);(case hr=>first|(go_simp;done)|(go_simp;rfl));intro gb190 hg w9 hbox hb;have n0_:=Aside0.mk (below_step (by repeat (first|(with_reducible first|exact HB.out|apply below_alloc|apply pw_below_drewN|apply below_drew1)|exact HB.out)) hb);have n1_:=Aside0.mk (hbox);have n2_:=Aside0.mk ((by rw [hg];exact (below_size (by repeat (first|(with_reducible first|exact HB.out|apply below_alloc|apply pw_below_drewN|apply below_drew1)|exact HB.out))):w.heap.size≤gb190));have n3_:=Aside0.mk ((by rw [hg];exact (below_size (by repeat (first|(with_reducible first|exact HB.out|apply below_alloc|apply pw_below_drewN|apply below_drew1)|exact HB.out))):w.heap.size≤gb190));clear HB;have HB:=n0_;have BK190:=n1_;have GW190:=n2_;have GE190:=n3_;clear n0_ n1_ n2_ n3_;clear hb hbox hg;have hcz10_0:w9.cell? ⟨gb190,0,none⟩=some (.int .i64 a0_0):=(blk_cell BK190.out 0).trans rfl;have hcz10_1:w9.cell? ⟨gb190,1,none⟩=some (.string a0_1):=(blk_cell BK190.out 1).trans rfl;have hcz10_2:w9.cell? ⟨gb190,2,none⟩=some (.slice A0_2 l0_2.length c0_2):=(blk_cell BK190.out 2).trans rfl;have hfz10_0:=blk_frozen BK190.out 0;have hfz10_1:=blk_frozen BK190.out 1;have hfz10_2:=blk_frozen BK190.out 2)|((with_reducible refine gate_callee (f:=75) rfl ?_);refine goesL_ (some 5) rfl rfl Try.func75 (by kernel_rfl) rfl #[.int .i64 a0_0,.int .i64 0,.int .i64 2] rfl (by (try simp only [List.map_toArray,List.map_cons,List.map_nil]);first|done|rfl|(simp only [List.length_drop,List.length_take];rfl)) ?_;(with_reducible refine (impl_within.calls a0_0 0 2 true _ A2.out).mono ?_);rintro e w' ⟨rfl,⟨nd,rfl⟩⟩;refine ⟨_,rfl,?_⟩)|(go_at_call 42;(with_reducible refine (impl_TagOK.calls k a0_1 false _ A4.out).mono ?_);rintro e w' ⟨rfl,⟨nd,rfl⟩⟩))
   go_ret
   exact ⟨by first|rfl|(simp [errW_none,errW_some] <;> rfl)|(simp [*,errW_none,errW_some] <;> rfl),by repeat (first|(with_reducible first|exact HB.out|apply below_alloc|apply pw_below_drewN|apply below_drew1|refine below_set ?_ GE190.out)|exact HB.out)⟩
 ·replace c3:=Bool.eq_false_iff.mpr c3
  subst c3
  have H1:(some false)=some r:=by rw [if_neg (show ¬ (false=true) by decide)] at H;exact H
  clear H
  have H:=H1
  clear H1
  obtain rfl:=Option.some.inj H
  go_enter Try.func172,Try.ntmps172
  go_wp2_with (first|((with_reducible refine gate_dst (N:=1) rfl ?_);refine box_event ?hg (N:=1) ?hd (cs:=#[.int .i64 a0_0,.string a0_1,.slice A0_2 l0_2.length c0_2]) (t:=155) ?hr ?_;(case hd=>rfl);(case hg=>rfl);(case hr=>first|(go_simp;done)|(go_simp;rfl));intro gb190 hg w11 hbox hb;have n0_:=Aside0.mk (below_step (by repeat (first|(with_reducible first|exact HB.out|apply below_alloc|apply pw_below_drewN|apply below_drew1)|exact HB.out)) hb);have n1_:=Aside0.mk (hbox);have n2_:=Aside0.mk ((by rw [hg];exact (below_size (by repeat (first|(with_reducible first|exact HB.out|apply below_alloc|apply pw_below_drewN|apply below_drew1)|exact HB.out))):w.heap.size≤gb190));have n3_:=Aside0.mk ((by rw [hg];exact (below_size (by repeat (first|(with_reducible first|exact HB.out|apply below_alloc|apply pw_below_drewN|apply below_drew1)|exact HB.out))):w.heap.size≤gb190));clear HB;have HB:=n0_;have BK190:=n1_;have GW190:=n2_;have GE190:=n3_;clear n0_ n1_ n2_ n3_;clear hb hbox hg;have hcz12_0:w11.cell? ⟨gb190,0,none⟩=some (.int .i64 a0_0):=(blk_cell BK190.out 0).trans rfl;have hcz12_1:w11.cell? ⟨gb190,1,none⟩=some (.string a0_1):=(blk_cell BK190.out 1).trans rfl;have hcz12_2:w11.cell? ⟨gb190,2,none⟩=some (.slice A0_2 l0_2.length c0_2):=(blk_cell BK190.out 2).trans rfl;have hfz12_0:=blk_frozen BK190.out 0;have hfz12_1:=blk_frozen BK190.out 1;have hfz12_2:=blk_frozen BK190.out 2)|((with_reducible refine gate_callee (f:=75) rfl ?_);refine goesL_ (some 5) rfl rfl Try.func75 (by kernel_rfl) rfl #[.int .i64 a0_0,.int .i64 0,.int .i64 2] rfl (by (try simp only [List.map_toArray,List.map_cons,List.map_nil]);first|done|rfl|(simp only [List.length_drop,List.length_take];rfl)) ?_;(with_reducible refine (impl_within.calls a0_0 0 2 false _ A2.out).mono ?_);rintro e w' ⟨rfl,⟨nd,rfl⟩⟩;refine ⟨_,rfl,?_⟩))
  go_ret
  exact ⟨by first|rfl|(simp [errW_none,errW_some] <;> rfl)|(simp [*,errW_none,errW_some] <;> rfl),by repeat (first|(with_reducible first|exact HB.out|apply below_alloc|apply pw_below_drewN|apply below_drew1|refine below_set ?_ GE190.out)|exact HB.out)⟩
end Go.Proofs.Ytophaihdibplkaa.PFnExactSameConfig
