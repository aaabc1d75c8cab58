/- By a program of this session, out of the kit's print and contracts made by hand: the machine side of a law; Lean checks it. No conditions. -/
import Derived.Test.YtmeafbneklphnaaPFnExactAllowsAttrx0
import Derived.Test.YtmeafbneklphnaaPFnExactAllowsAttrx3
import Derived.Test.YtmeafbneklphnaaPFnExactAllowsAttrx4
import Derived.Test.YtmeafbneklphnaaPFnExactAllowsAttrx8
namespace Go.Proofs.Ytmeafbneklphnaa.PFnExactAllowsAttr
open Go.RowKit Go.Proofs.YtmeafbneklphnaaW.PrintWords Go.Proofs.YtmeafbneklphnaaW.PrintLast Go.Proofs.YtmeafbneklphnaaW.PrintMore
attribute [local go_sem] max2_int min2_int max_two min_two max_three min_three max_four min_four
set_option linter.unusedVariables false
set_option linter.unusedSimpArgs false
/-! ### spec_l07AskName: function 45 -/
def spec_l07AskName.f (k:Nat) (a0_0:Bool) (a0_1:Bool) (l0_2:List (S56)) (l0_3:List (S56)) (l0_4:List (S56)) (l0_5:List ByteArray) (l0_6:List ByteArray) (a0_7:Bool) (a0_8:Bool) (a1:Int) (a2:ByteArray):Option (Int):=if (a2.size:Int)>65536 then (some 2) else ((spec_l07Check.f k a0_0 a0_1 l0_2 l0_3 l0_4 l0_5 l0_6 a0_7 a0_8).bind fun t134=>(if t134=0 then ((spec_l01In.f a1 0 2).bind fun t135=>(if t135=true then ((spec_l01Tag.f k a2).bind fun t136=>(if t136=true then (some 0) else (some 10))) else (some 4))) else (some t134)))
theorem spec_l07AskName.mono:∀ a0 a1 a2 a3 a4 a5 a6 a7 a8 a9 a10 k,LeO (spec_l07AskName.f k a0 a1 a2 a3 a4 a5 a6 a7 a8 a9 a10) (spec_l07AskName.f (k+1) a0 a1 a2 a3 a4 a5 a6 a7 a8 a9 a10):=by
 intro a0 a1 a2 a3 a4 a5 a6 a7 a8 a9 a10 k
 unfold spec_l07AskName.f
 repeat' first
  | (with_reducible exact spec_l01Tag.mono _ _)
  | (with_reducible exact spec_l07Check.mono _ _ _ _ _ _ _ _ _ _)
  | (with_reducible exact LeO.refl _)
  | (with_reducible exact LeO.none _)
  | (with_reducible refine LeO.ite ?_ ?_)
  | (with_reducible refine LeO.bind ?_ (fun _=>?_))
  | exact spec_l01Tag.mono _ _
  | exact spec_l07Check.mono _ _ _ _ _ _ _ _ _ _
  | exact LeO.none _
  | refine LeO.ite ?_ ?_
  | refine LeO.bind ?_ (fun _=>?_)
set_option maxHeartbeats 8000000 in
set_option maxRecDepth 100000 in
theorem spec_l07AskName.calls (k:Nat) (a0_0:Bool) (a0_1:Bool) (A0_2:Option Addr) (c0_2:Nat) (l0_2:List (S56)) (A0_3:Option Addr) (c0_3:Nat) (l0_3:List (S56)) (A0_4:Option Addr) (c0_4:Nat) (l0_4:List (S56)) (A0_5:Option Addr) (c0_5:Nat) (l0_5:List ByteArray) (A0_6:Option Addr) (c0_6:Nat) (l0_6:List ByteArray) (a0_7:Bool) (a0_8:Bool) (a1:Int) (a2:ByteArray) (r:Int) (w:World) (hr0_2:Kd.C k56 w A0_2 l0_2.length l0_2) (hc0_2:l0_2.length≤c0_2) (hr0_3:Kd.C k56 w A0_3 l0_3.length l0_3) (hc0_3:l0_3.length≤c0_3) (hr0_4:Kd.C k56 w A0_4 l0_4.length l0_4) (hc0_4:l0_4.length≤c0_4) (hr0_5:Kd.C Kd.string w A0_5 l0_5.length l0_5) (hc0_5:l0_5.length≤c0_5) (hr0_6:Kd.C Kd.string w A0_6 l0_6.length l0_6) (hc0_6:l0_6.length≤c0_6) (h:spec_l07AskName.f k a0_0 a0_1 l0_2 l0_3 l0_4 l0_5 l0_6 a0_7 a0_8 a1 a2=some r) :
 Calls Try.prog 45 #[.agg #[.bool a0_0,.bool a0_1,.slice A0_2 l0_2.length c0_2,.slice A0_3 l0_3.length c0_3,.slice A0_4 l0_4.length c0_4,.slice A0_5 l0_5.length c0_5,.slice A0_6 l0_6.length c0_6,.bool a0_7,.bool a0_8],.int .i64 a1,.string a2] w fun e w'=>e=.returned (.int .i64 r)∧Below w.heap.size w w':=by
 have hu25:=Try.underlying25
 have HR0_2:=A_ hr0_2
 have HC0_2:=A_ hc0_2
 clear hr0_2 hc0_2
 have HR0_3:=A_ hr0_3
 have HC0_3:=A_ hc0_3
 clear hr0_3 hc0_3
 have HR0_4:=A_ hr0_4
 have HC0_4:=A_ hc0_4
 clear hr0_4 hc0_4
 have HR0_5:=A_ hr0_5
 have HC0_5:=A_ hc0_5
 clear hr0_5 hc0_5
 have HR0_6:=A_ hr0_6
 have HC0_6:=A_ hc0_6
 clear hr0_6 hc0_6
 have HB:=A_ (Below.refl w.heap.size w)
 have H:(if (a2.size:Int)>65536 then (some 2) else ((spec_l07Check.f k a0_0 a0_1 l0_2 l0_3 l0_4 l0_5 l0_6 a0_7 a0_8).bind fun t134=>(if t134=0 then ((spec_l01In.f a1 0 2).bind fun t135=>(if t135=true then ((spec_l01Tag.f k a2).bind fun t136=>(if t136=true then (some 0) else (some 10))) else (some 4))) else (some t134))))=some r:=h
 clear h
 by_cases c4:(a2.size:Int)>65536
 ·rw [if_pos c4] at H
  have c4b0:decide (65536<(a2.size:Int))=true:=dt_ c4
  have c4b1:decide (65536<a2.size)=true:=dt_ (by omega)
  clear c4
  obtain rfl:=oi_ H
  go_enter Try.func45,Try.ntmps45
  go_wp2_with (first|((with_reducible refine gate_dst (N:=3) rfl ?_);refine box_event ?hg (N:=3) ?hd (cs:=#[.bool a0_0,.bool a0_1,.slice A0_2 l0_2.length c0_2,.slice A0_3 l0_3.length c0_3,.slice A0_4 l0_4.length c0_4,.slice A0_5 l0_5.length c0_5,.slice A0_6 l0_6.length c0_6,.bool a0_7,.bool a0_8]) (t:=25) ?hr ?_;(case hd=>rfl);(case hg=>rfl);(case hr=>first|(go_simp;done)|(go_simp;rfl));intro gb133 hg w5 hbox hb;have n0_:=A_ (bp_ (by repeat (first|(with_reducible first|exact HB.out|apply ba_|apply pd_|apply b1_)|exact HB.out)) hb);have n1_:=A_ (hbox);have n2_:=A_ ((by rw [hg];exact (bz_ (by repeat (first|(with_reducible first|exact HB.out|apply ba_|apply pd_|apply b1_)|exact HB.out))):w.heap.size≤gb133));have n3_:=A_ ((by rw [hg];exact (bz_ (by repeat (first|(with_reducible first|exact HB.out|apply ba_|apply pd_|apply b1_)|exact HB.out))):w.heap.size≤gb133));clear HB;have HB:=n0_;have BK133:=n1_;have GW133:=n2_;have GE133:=n3_;clear n0_ n1_ n2_ n3_;clear hb hbox hg))
  go_ret
  exact ⟨by first|rfl|(simp [errW_none,errW_some] <;> rfl)|(simp [*,errW_none,errW_some] <;> rfl),by repeat (first|(with_reducible first|exact HB.out|apply ba_|apply pd_|apply b1_|refine bs_ ?_ GE133.out)|exact HB.out)⟩
 ·rw [if_neg c4] at H
  have c4b0:decide (65536<(a2.size:Int))=false:=df_ c4
  have c4b1:decide (65536<a2.size)=false:=df_ (by omega)
  clear c4
  replace H:=ob_ H
  obtain ⟨t134,A60,H⟩:=H
  replace H:(if t134=0 then ((spec_l01In.f a1 0 2).bind fun t135=>(if t135=true then ((spec_l01Tag.f k a2).bind fun t136=>(if t136=true then (some 0) else (some 10))) else (some 4))) else (some t134))=some r:=H
  have A6:=A_ A60
  clear A60
  by_cases c7:t134=0
  ·rw [if_pos c7] at H
   have c7b0:(t134 == 0)=true:=beq_iff_eq.mpr c7
   have c7b1:(t134 != 0)=false:=bne_eq_false_iff_eq.mpr c7
   clear c7
   replace H:=ob_ H
   obtain ⟨t135,A80,H⟩:=H
   replace H:(if t135=true then ((spec_l01Tag.f k a2).bind fun t136=>(if t136=true then (some 0) else (some 10))) else (some 4))=some r:=H
   have A8:=A_ A80
   clear A80
   by_cases c9:t135=true
   ·subst c9
    have H1:((spec_l01Tag.f k a2).bind fun t136=>(if t136=true then (some 0) else (some 10)))=some r:=by rw [if_pos rfl] at H;exact H
    clear H
    have H:=H1
    clear H1
    replace H:=ob_ H
    obtain ⟨t136,A100,H⟩:=H
    replace H:(if t136=true then (some 0) else (some 10))=some r:=H
    have A10:=A_ A100
    clear A100
    by_cases c11:t136=true
    ·subst c11
     have H1:(some 0)=some r:=by rw [if_pos rfl] at H;exact H
     clear H
     have H:=H1
     clear H1
     obtain rfl:=oi_ H
     go_enter Try.func45,Try.ntmps45
     go_wp2_with (first|((with_reducible refine gate_dst (N:=3) rfl ?_);refine box_event ?hg (N:=3) ?hd (cs:=#[.bool a0_0,.bool a0_1,.slice A0_2 l0_2.length c0_2,.slice A0_3 l0_3.length c0_3,.slice A0_4 l0_4.length c0_4,.slice A0_5 l0_5.length c0_5,.slice A0_6 l0_6.length c0_6,.bool a0_7,.bool a0_8]) (t:=25) ?hr ?_;(case hd=>rfl);(case hg=>rfl);(case hr=>first|(go_simp;done)|(go_simp;rfl));intro gb133 hg w12 hbox hb;have n0_:=A_ (bp_ (by repeat (first|(with_reducible first|exact HB.out|apply ba_|apply pd_|apply b1_)|exact HB.out)) hb);have n1_:=A_ (hbox);have n2_:=A_ ((by rw [hg];exact (bz_ (by repeat (first|(with_reducible first|exact HB.out|apply ba_|apply pd_|apply b1_)|exact HB.out))):w.heap.size≤gb133));have n3_:=A_ ((by rw [hg];exact (bz_ (by repeat (first|(with_reducible first|exact HB.out|apply ba_|apply pd_|apply b1_)|exact HB.out))):w.heap.size≤gb133));clear HB;have HB:=n0_;have BK133:=n1_;have GW133:=n2_;have GE133:=n3_;clear n0_ n1_ n2_ n3_;clear hb hbox hg;have hcz13_0:w12.cell? ⟨gb133,0,none⟩=some (.bool a0_0):=(bc_ BK133.out 0).trans rfl;have hcz13_1:w12.cell? ⟨gb133,1,none⟩=some (.bool a0_1):=(bc_ BK133.out 1).trans rfl;have hcz13_2:w12.cell? ⟨gb133,2,none⟩=some (.slice A0_2 l0_2.length c0_2):=(bc_ BK133.out 2).trans rfl;have hcz13_3:w12.cell? ⟨gb133,3,none⟩=some (.slice A0_3 l0_3.length c0_3):=(bc_ BK133.out 3).trans rfl;have hcz13_4:w12.cell? ⟨gb133,4,none⟩=some (.slice A0_4 l0_4.length c0_4):=(bc_ BK133.out 4).trans rfl;have hcz13_5:w12.cell? ⟨gb133,5,none⟩=some (.slice A0_5 l0_5.length c0_5):=(bc_ BK133.out 5).trans rfl;have hcz13_6:w12.cell? ⟨gb133,6,none⟩=some (.slice A0_6 l0_6.length c0_6):=(bc_ BK133.out 6).trans rfl;have hcz13_7:w12.cell? ⟨gb133,7,none⟩=some (.bool a0_7):=(bc_ BK133.out 7).trans rfl;have hcz13_8:w12.cell? ⟨gb133,8,none⟩=some (.bool a0_8):=(bc_ BK133.out 8).trans rfl;have hfz13_0:=bf_ BK133.out 0;have hfz13_1:=bf_ BK133.out 1;have hfz13_2:=bf_ BK133.out 2;have hfz13_3:=bf_ BK133.out 3;have hfz13_4:=bf_ BK133.out 4;have hfz13_5:=bf_ BK133.out 5;have hfz13_6:=bf_ BK133.out 6;have hfz13_7:=bf_ BK133.out 7;have hfz13_8:=bf_ BK133.out 8)|((with_reducible refine gate_callee (f:=73) rfl ?_);refine goesL_ (some 12) rfl rfl Try.func73 (by kernel_rfl) rfl #[.agg #[.bool a0_0,.bool a0_1,.slice A0_2 l0_2.length c0_2,.slice A0_3 l0_3.length c0_3,.slice A0_4 l0_4.length c0_4,.slice A0_5 l0_5.length c0_5,.slice A0_6 l0_6.length c0_6,.bool a0_7,.bool a0_8]] rfl (by (try simp only [List.map_toArray,List.map_cons,List.map_nil]);first|done|rfl|(simp only [ld_,lt_];rfl)) ?_;(with_reducible refine (spec_l07Check.calls k a0_0 a0_1 _ _ l0_2 _ _ l0_3 _ _ l0_4 _ _ l0_5 _ _ l0_6 a0_7 a0_8 t134 _ ?side1 ?side2 ?side3 ?side4 ?side5 ?side6 ?side7 ?side8 ?side9 ?side10 A6.out).mono ?_);(case side1=>repeat (first|exact (cb_ HR0_2.out HB.out)|(with_reducible refine ca_ ?_ _)|(with_reducible refine cn_ ?_ _)|(with_reducible refine cd_ ?_)));(case side2=>exact HC0_2.out);(case side3=>repeat (first|exact (cb_ HR0_3.out HB.out)|(with_reducible refine ca_ ?_ _)|(with_reducible refine cn_ ?_ _)|(with_reducible refine cd_ ?_)));(case side4=>exact HC0_3.out);(case side5=>repeat (first|exact (cb_ HR0_4.out HB.out)|(with_reducible refine ca_ ?_ _)|(with_reducible refine cn_ ?_ _)|(with_reducible refine cd_ ?_)));(case side6=>exact HC0_4.out);(case side7=>repeat (first|exact (cb_ HR0_5.out HB.out)|(with_reducible refine ca_ ?_ _)|(with_reducible refine cn_ ?_ _)|(with_reducible refine cd_ ?_)));(case side8=>exact HC0_5.out);(case side9=>repeat (first|exact (cb_ HR0_6.out HB.out)|(with_reducible refine ca_ ?_ _)|(with_reducible refine cn_ ?_ _)|(with_reducible refine cd_ ?_)));(case side10=>exact HC0_6.out);rintro e w14 ⟨rfl,hb⟩;refine ⟨_,rfl,?_⟩;have n0_:=A_ (kb_ (g:=gb133) (o:=.cells #[.bool a0_0,.bool a0_1,.slice A0_2 l0_2.length c0_2,.slice A0_3 l0_3.length c0_3,.slice A0_4 l0_4.length c0_4,.slice A0_5 l0_5.length c0_5,.slice A0_6 l0_6.length c0_6,.bool a0_7,.bool a0_8] 25 (0,0)) (by (with_reducible repeat (first|refine kn_ ?_ _|refine kd_ ?_|refine ka_ ?_ _));exact BK133.out) hb);have n1_:=A_ (bp_ (by repeat (first|(with_reducible first|exact HB.out|apply ba_|apply pd_|apply b1_|refine bs_ ?_ GE133.out)|exact HB.out)) hb);clear BK133;clear HB;have BK133:=n0_;have HB:=n1_;clear n0_ n1_;(try clear hb);(try clear hb2);(try clear hk);(try clear hi))|((with_reducible refine gate_callee (f:=60) rfl ?_);refine goesL_ (some 17) rfl rfl Try.func60 (by kernel_rfl) rfl #[.int .i64 a1,.int .i64 0,.int .i64 2] rfl (by (try simp only [List.map_toArray,List.map_cons,List.map_nil]);first|done|rfl|(simp only [ld_,lt_];rfl)) ?_;(with_reducible refine (spec_l01In.calls a1 0 2 true _ A8.out).mono ?_);rintro e w' ⟨rfl,⟨nd,rfl⟩⟩;refine ⟨_,rfl,?_⟩)|((with_reducible refine gate_callee (f:=59) rfl ?_);refine goesL_ (some 20) rfl rfl Try.func59 (by kernel_rfl) rfl #[.string a2] rfl (by (try simp only [List.map_toArray,List.map_cons,List.map_nil]);first|done|rfl|(simp only [ld_,lt_];rfl)) ?_;(with_reducible refine (spec_l01Tag.calls k a2 true _ A10.out).mono ?_);rintro e w' ⟨rfl,⟨nd,rfl⟩⟩;refine ⟨_,rfl,?_⟩))
     go_ret
     exact ⟨by first|rfl|(simp [errW_none,errW_some] <;> rfl)|(simp [*,errW_none,errW_some] <;> rfl),by repeat (first|(with_reducible first|exact HB.out|apply ba_|apply pd_|apply b1_|refine bs_ ?_ GE133.out)|exact HB.out)⟩
    ·replace c11:=bm_ c11
     subst c11
     have H1:(some 10)=some r:=by rw [if_neg (show ¬ (false=true) by decide)] at H;exact H
     clear H
     have H:=H1
     clear H1
     obtain rfl:=oi_ H
     go_enter Try.func45,Try.ntmps45
     go_wp2_with (first|((with_reducible refine gate_dst (N:=3) rfl ?_);refine box_event ?hg (N:=3) ?hd (cs:=#[.bool a0_0,.bool a0_1,.slice A0_2 l0_2.length c0_2,.slice A0_3 l0_3.length c0_3,.slice A0_4 l0_4.length c0_4,.slice A0_5 l0_5.length c0_5,.slice A0_6 l0_6.length c0_6,.bool a0_7,.bool a0_8]) (t:=25) ?hr ?_;(case hd=>rfl);(case hg=>rfl);(case hr=>first|(go_simp;done)|(go_simp;rfl));intro gb133 hg w15 hbox hb;have n0_:=A_ (bp_ (by repeat (first|(with_reducible first|exact HB.out|apply ba_|apply pd_|apply b1_)|exact HB.out)) hb);have n1_:=A_ (hbox);have n2_:=A_ ((by rw [hg];exact (bz_ (by repeat (first|(with_reducible first|exact HB.out|apply ba_|apply pd_|apply b1_)|exact HB.out))):w.heap.size≤gb133));have n3_:=A_ ((by rw [hg];exact (bz_ (by repeat (first|(with_reducible first|exact HB.out|apply ba_|apply pd_|apply b1_)|exact HB.out))):w.heap.size≤gb133));clear HB;have HB:=n0_;have BK133:=n1_;have GW133:=n2_;have GE133:=n3_;clear n0_ n1_ n2_ n3_;clear hb hbox hg;have hcz16_0:w15.cell? ⟨gb133,0,none⟩=some (.bool a0_0):=(bc_ BK133.out 0).trans rfl;have hcz16_1:w15.cell? ⟨gb133,1,none⟩=some (.bool a0_1):=(bc_ BK133.out 1).trans rfl;have hcz16_2:w15.cell? ⟨gb133,2,none⟩=some (.slice A0_2 l0_2.length c0_2):=(bc_ BK133.out 2).trans rfl;have hcz16_3:w15.cell? ⟨gb133,3,none⟩=some (.slice A0_3 l0_3.length c0_3):=(bc_ BK133.out 3).trans rfl;have hcz16_4:w15.cell? ⟨gb133,4,none⟩=some (.slice A0_4 l0_4.length c0_4):=(bc_ BK133.out 4).trans rfl;have hcz16_5:w15.cell? ⟨gb133,5,none⟩=some (.slice A0_5 l0_5.length c0_5):=(bc_ BK133.out 5).trans rfl;have hcz16_6:w15.cell? ⟨gb133,6,none⟩=some (.slice A0_6 l0_6.length c0_6):=(bc_ BK133.out 6).trans rfl;have hcz16_7:w15.cell? ⟨gb133,7,none⟩=some (.bool a0_7):=(bc_ BK133.out 7).trans rfl;have hcz16_8:w15.cell? ⟨gb133,8,none⟩=some (.bool a0_8):=(bc_ BK133.out 8).trans rfl;have hfz16_0:=bf_ BK133.out 0;have hfz16_1:=bf_ BK133.out 1;have hfz16_2:=bf_ BK133.out 2;have hfz16_3:=bf_ BK133.out 3;have hfz16_4:=bf_ BK133.out 4;have hfz16_5:=bf_ BK133.out 5;have hfz16_6:=bf_ BK133.out 6;have hfz16_7:=bf_ BK133.out 7;have hfz16_8:=bf_ BK133.out 8)|((with_reducible refine gate_callee (f:=73) rfl ?_);refine goesL_ (some 12) rfl rfl Try.func73 (by kernel_rfl) rfl #[.agg #[.bool a0_0,.bool a0_1,.slice A0_2 l0_2.length c0_2,.slice A0_3 l0_3.length c0_3,.slice A0_4 l0_4.length c0_4,.slice A0_5 l0_5.length c0_5,.slice A0_6 l0_6.length c0_6,.bool a0_7,.bool a0_8]] rfl (by (try simp only [List.map_toArray,List.map_cons,List.map_nil]);first|done|rfl|(simp only [ld_,lt_];rfl)) ?_;(with_reducible refine (spec_l07Check.calls k a0_0 a0_1 _ _ l0_2 _ _ l0_3 _ _ l0_4 _ _ l0_5 _ _ l0_6 a0_7 a0_8 t134 _ ?side1 ?side2 ?side3 ?side4 ?side5 ?side6 ?side7 ?side8 ?side9 ?side10 A6.out).mono ?_);(case side1=>repeat (first|exact (cb_ HR0_2.out HB.out)|(with_reducible refine ca_ ?_ _)|(with_reducible refine cn_ ?_ _)|(with_reducible refine cd_ ?_)));(case side2=>exact HC0_2.out);(case side3=>repeat (first|exact (cb_ HR0_3.out HB.out)|(with_reducible refine ca_ ?_ _)|(with_reducible refine cn_ ?_ _)|(with_reducible refine cd_ ?_)));(case side4=>exact HC0_3.out);(case side5=>repeat (first|exact (cb_ HR0_4.out HB.out)|(with_reducible refine ca_ ?_ _)|(with_reducible refine cn_ ?_ _)|(with_reducible refine cd_ ?_)));(case side6=>exact HC0_4.out);(case side7=>repeat (first|exact (cb_ HR0_5.out HB.out)|(with_reducible refine ca_ ?_ _)|(with_reducible refine cn_ ?_ _)|(with_reducible refine cd_ ?_)));(case side8=>exact HC0_5.out);(case side9=>repeat (first|exact (cb_ HR0_6.out HB.out)|(with_reducible refine ca_ ?_ _)|(with_reducible refine cn_ ?_ _)|(with_reducible refine cd_ ?_)));(case side10=>exact HC0_6.out);rintro e w17 ⟨rfl,hb⟩;refine ⟨_,rfl,?_⟩;have n0_:=A_ (kb_ (g:=gb133) (o:=.cells #[.bool a0_0,.bool a0_1,.slice A0_2 l0_2.length c0_2,.slice A0_3 l0_3.length c0_3,.slice A0_4 l0_4.length c0_4,.slice A0_5 l0_5.length c0_5,.slice A0_6 l0_6.length c0_6,.bool a0_7,.bool a0_8] 25 (0,0)) (by (with_reducible repeat (first|refine kn_ ?_ _|refine kd_ ?_|refine ka_ ?_ _));exact BK133.out) hb);have n1_:=A_ (bp_ (by repeat (first|(with_reducible first|exact HB.out|apply ba_|apply pd_|apply b1_|refine bs_ ?_ GE133.out)|exact HB.out)) hb);clear BK133;clear HB;have BK133:=n0_;have HB:=n1_;clear n0_ n1_;(try clear hb);(try clear hb2);(try clear hk);(try clear hi))|((with_reducible refine gate_callee (f:=60) rfl ?_);refine goesL_ (some 17) rfl rfl Try.func60 (by kernel_rfl) rfl #[.int .i64 a1,.int .i64 0,.int .i64 2] rfl (by (try simp only [List.map_toArray,List.map_cons,List.map_nil]);first|done|rfl|(simp only [ld_,lt_];rfl)) ?_;(with_reducible refine (spec_l01In.calls a1 0 2 true _ A8.out).mono ?_);rintro e w' ⟨rfl,⟨nd,rfl⟩⟩;refine ⟨_,rfl,?_⟩)|((with_reducible refine gate_callee (f:=59) rfl ?_);refine goesL_ (some 20) rfl rfl Try.func59 (by kernel_rfl) rfl #[.string a2] rfl (by (try simp only [List.map_toArray,List.map_cons,List.map_nil]);first|done|rfl|(simp only [ld_,lt_];rfl)) ?_;(with_reducible refine (spec_l01Tag.calls k a2 false _ A10.out).mono ?_);rintro e w' ⟨rfl,⟨nd,rfl⟩⟩;refine ⟨_,rfl,?_⟩))
     go_ret
     exact ⟨by first|rfl|(simp [errW_none,errW_some] <;> rfl)|(simp [*,errW_none,errW_some] <;> rfl),by repeat (first|(with_reducible first|exact HB.out|apply ba_|apply pd_|apply b1_|refine bs_ ?_ GE133.out)|exact HB.out)⟩
   ·replace c9:=bm_ c9
    subst c9
    have H1:(some 4)=some r:=by rw [if_neg (show ¬ (false=true) by decide)] at H;exact H
    clear H
    have H:=H1
    clear H1
    obtain rfl:=oi_ H
    go_enter Try.func45,Try.ntmps45
    go_wp2_with (first|((with_reducible refine gate_dst (N:=3) rfl ?_);refine box_event ?hg (N:=3) ?hd (cs:=#[.bool a0_0,.bool a0_1,.slice A0_2 l0_2.length c0_2,.slice A0_3 l0_3.length c0_3,.slice A0_4 l0_4.length c0_4,.slice A0_5 l0_5.length c0_5,.slice A0_6 l0_6.length c0_6,.bool a0_7,.bool a0_8]) (t:=25) ?hr ?_;(case hd=>rfl);(case hg=>rfl);(case hr=>first|(go_simp;done)|(go_simp;rfl));intro gb133 hg w18 hbox hb;have n0_:=A_ (bp_ (by repeat (first|(with_reducible first|exact HB.out|apply ba_|apply pd_|apply b1_)|exact HB.out)) hb);have n1_:=A_ (hbox);have n2_:=A_ ((by rw [hg];exact (bz_ (by repeat (first|(with_reducible first|exact HB.out|apply ba_|apply pd_|apply b1_)|exact HB.out))):w.heap.size≤gb133));have n3_:=A_ ((by rw [hg];exact (bz_ (by repeat (first|(with_reducible first|exact HB.out|apply ba_|apply pd_|apply b1_)|exact HB.out))):w.heap.size≤gb133));clear HB;have HB:=n0_;have BK133:=n1_;have GW133:=n2_;have GE133:=n3_;clear n0_ n1_ n2_ n3_;clear hb hbox hg;have hcz19_0:w18.cell? ⟨gb133,0,none⟩=some (.bool a0_0):=(bc_ BK133.out 0).trans rfl;have hcz19_1:w18.cell? ⟨gb133,1,none⟩=some (.bool a0_1):=(bc_ BK133.out 1).trans rfl;have hcz19_2:w18.cell? ⟨gb133,2,none⟩=some (.slice A0_2 l0_2.length c0_2):=(bc_ BK133.out 2).trans rfl;have hcz19_3:w18.cell? ⟨gb133,3,none⟩=some (.slice A0_3 l0_3.length c0_3):=(bc_ BK133.out 3).trans rfl;have hcz19_4:w18.cell? ⟨gb133,4,none⟩=some (.slice A0_4 l0_4.length c0_4):=(bc_ BK133.out 4).trans rfl;have hcz19_5:w18.cell? ⟨gb133,5,none⟩=some (.slice A0_5 l0_5.length c0_5):=(bc_ BK133.out 5).trans rfl;have hcz19_6:w18.cell? ⟨gb133,6,none⟩=some (.slice A0_6 l0_6.length c0_6):=(bc_ BK133.out 6).trans rfl;have hcz19_7:w18.cell? ⟨gb133,7,none⟩=some (.bool a0_7):=(bc_ BK133.out 7).trans rfl;have hcz19_8:w18.cell? ⟨gb133,8,none⟩=some (.bool a0_8):=(bc_ BK133.out 8).trans rfl;have hfz19_0:=bf_ BK133.out 0;have hfz19_1:=bf_ BK133.out 1;have hfz19_2:=bf_ BK133.out 2;have hfz19_3:=bf_ BK133.out 3;have hfz19_4:=bf_ BK133.out 4;have hfz19_5:=bf_ BK133.out 5;have hfz19_6:=bf_ BK133.out 6;have hfz19_7:=bf_ BK133.out 7;have hfz19_8:=bf_ BK133.out 8)|((with_reducible refine gate_callee (f:=73) rfl ?_);refine goesL_ (some 12) rfl rfl Try.func73 (by kernel_rfl) rfl #[.agg #[.bool a0_0,.bool a0_1,.slice A0_2 l0_2.length c0_2,.slice A0_3 l0_3.length c0_3,.slice A0_4 l0_4.length c0_4,.slice A0_5 l0_5.length c0_5,.slice A0_6 l0_6.length c0_6,.bool a0_7,.bool a0_8]] rfl (by (try simp only [List.map_toArray,List.map_cons,List.map_nil]);first|done|rfl|(simp only [ld_,lt_];rfl)) ?_;(with_reducible refine (spec_l07Check.calls k a0_0 a0_1 _ _ l0_2 _ _ l0_3 _ _ l0_4 _ _ l0_5 _ _ l0_6 a0_7 a0_8 t134 _ ?side1 ?side2 ?side3 ?side4 ?side5 ?side6 ?side7 ?side8 ?side9 ?side10 A6.out).mono ?_);(case side1=>repeat (first|exact (cb_ HR0_2.out HB.out)|(with_reducible refine ca_ ?_ _)|(with_reducible refine cn_ ?_ _)|(with_reducible refine cd_ ?_)));(case side2=>exact HC0_2.out);(case side3=>repeat (first|exact (cb_ HR0_3.out HB.out)|(with_reducible refine ca_ ?_ _)|(with_reducible refine cn_ ?_ _)|(with_reducible refine cd_ ?_)));(case side4=>exact HC0_3.out);(case side5=>repeat (first|exact (cb_ HR0_4.out HB.out)|(with_reducible refine ca_ ?_ _)|(with_reducible refine cn_ ?_ _)|(with_reducible refine cd_ ?_)));(case side6=>exact HC0_4.out);(case side7=>repeat (first|exact (cb_ HR0_5.out HB.out)|(with_reducible refine ca_ ?_ _)|(with_reducible refine cn_ ?_ _)|(with_reducible refine cd_ ?_)));(case side8=>exact HC0_5.out);(case side9=>repeat (first|exact (cb_ HR0_6.out HB.out)|(with_reducible refine ca_ ?_ _)|(with_reducible refine cn_ ?_ _)|(with_reducible refine cd_ ?_)));(case side10=>exact HC0_6.out);rintro e w20 ⟨rfl,hb⟩;refine ⟨_,rfl,?_⟩;have n0_:=A_ (kb_ (g:=gb133) (o:=.cells #[.bool a0_0,.bool a0_1,.slice A0_2 l0_2.length c0_2,.slice A0_3 l0_3.length c0_3,.slice A0_4 l0_4.length c0_4,.slice A0_5 l0_5.length c0_5,.slice A0_6 l0_6.length c0_6,.bool a0_7,.bool a0_8] 25 (0,0)) (by (with_reducible repeat (first|refine kn_ ?_ _|refine kd_ ?_|refine ka_ ?_ _));exact BK133.out) hb);have n1_:=A_ (bp_ (by repeat (first|(with_reducible first|exact HB.out|apply ba_|apply pd_|apply b1_|refine bs_ ?_ GE133.out)|exact HB.out)) hb);clear BK133;clear HB;have BK133:=n0_;have HB:=n1_;clear n0_ n1_;(try clear hb);(try clear hb2);(try clear hk);(try clear hi))|((with_reducible refine gate_callee (f:=60) rfl ?_);refine goesL_ (some 17) rfl rfl Try.func60 (by kernel_rfl) rfl #[.int .i64 a1,.int .i64 0,.int .i64 2] rfl (by (try simp only [List.map_toArray,List.map_cons,List.map_nil]);first|done|rfl|(simp only [ld_,lt_];rfl)) ?_;(with_reducible refine (spec_l01In.calls a1 0 2 false _ A8.out).mono ?_);rintro e w' ⟨rfl,⟨nd,rfl⟩⟩;refine ⟨_,rfl,?_⟩))
    go_ret
    exact ⟨by first|rfl|(simp [errW_none,errW_some] <;> rfl)|(simp [*,errW_none,errW_some] <;> rfl),by repeat (first|(with_reducible first|exact HB.out|apply ba_|apply pd_|apply b1_|refine bs_ ?_ GE133.out)|exact HB.out)⟩
  ·rw [if_neg c7] at H
   have c7b0:(t134 == 0)=false:=beq_eq_false_iff_ne.mpr c7
   have c7b1:(t134 != 0)=true:=bne_iff_ne.mpr c7
   obtain rfl:=oi_ H
   go_enter Try.func45,Try.ntmps45
   go_wp2_with (first|((with_reducible refine gate_dst (N:=3) rfl ?_);refine box_event ?hg (N:=3) ?hd (cs:=#[.bool a0_0,.bool a0_1,.slice A0_2 l0_2.length c0_2,.slice A0_3 l0_3.length c0_3,.slice A0_4 l0_4.length c0_4,.slice A0_5 l0_5.length c0_5,.slice A0_6 l0_6.length c0_6,.bool a0_7,.bool a0_8]) (t:=25) ?hr ?_;(case hd=>rfl);(case hg=>rfl);(case hr=>first|(go_simp;done)|(go_simp;rfl));intro gb133 hg w21 hbox hb;have n0_:=A_ (bp_ (by repeat (first|(with_reducible first|exact HB.out|apply ba_|apply pd_|apply b1_)|exact HB.out)) hb);have n1_:=A_ (hbox);have n2_:=A_ ((by rw [hg];exact (bz_ (by repeat (first|(with_reducible first|exact HB.out|apply ba_|apply pd_|apply b1_)|exact HB.out))):w.heap.size≤gb133));have n3_:=A_ ((by rw [hg];exact (bz_ (by repeat (first|(with_reducible first|exact HB.out|apply ba_|apply pd_|apply b1_)|exact HB.out))):w.heap.size≤gb133));clear HB;have HB:=n0_;have BK133:=n1_;have GW133:=n2_;have GE133:=n3_;clear n0_ n1_ n2_ n3_;clear hb hbox hg;have hcz22_0:w21.cell? ⟨gb133,0,none⟩=some (.bool a0_0):=(bc_ BK133.out 0).trans rfl;have hcz22_1:w21.cell? ⟨gb133,1,none⟩=some (.bool a0_1):=(bc_ BK133.out 1).trans rfl;have hcz22_2:w21.cell? ⟨gb133,2,none⟩=some (.slice A0_2 l0_2.length c0_2):=(bc_ BK133.out 2).trans rfl;have hcz22_3:w21.cell? ⟨gb133,3,none⟩=some (.slice A0_3 l0_3.length c0_3):=(bc_ BK133.out 3).trans rfl;have hcz22_4:w21.cell? ⟨gb133,4,none⟩=some (.slice A0_4 l0_4.length c0_4):=(bc_ BK133.out 4).trans rfl;have hcz22_5:w21.cell? ⟨gb133,5,none⟩=some (.slice A0_5 l0_5.length c0_5):=(bc_ BK133.out 5).trans rfl;have hcz22_6:w21.cell? ⟨gb133,6,none⟩=some (.slice A0_6 l0_6.length c0_6):=(bc_ BK133.out 6).trans rfl;have hcz22_7:w21.cell? ⟨gb133,7,none⟩=some (.bool a0_7):=(bc_ BK133.out 7).trans rfl;have hcz22_8:w21.cell? ⟨gb133,8,none⟩=some (.bool a0_8):=(bc_ BK133.out 8).trans rfl;have hfz22_0:=bf_ BK133.out 0;have hfz22_1:=bf_ BK133.out 1;have hfz22_2:=bf_ BK133.out 2;have hfz22_3:=bf_ BK133.out 3;have hfz22_4:=bf_ BK133.out 4;have hfz22_5:=bf_ BK133.out 5;have hfz22_6:=bf_ BK133.out 6;have hfz22_7:=bf_ BK133.out 7;have hfz22_8:=bf_ BK133.out 8)|((with_reducible refine gate_callee (f:=73) rfl ?_);refine goesL_ (some 12) rfl rfl Try.func73 (by kernel_rfl) rfl #[.agg #[.bool a0_0,.bool a0_1,.slice A0_2 l0_2.length c0_2,.slice A0_3 l0_3.length c0_3,.slice A0_4 l0_4.length c0_4,.slice A0_5 l0_5.length c0_5,.slice A0_6 l0_6.length c0_6,.bool a0_7,.bool a0_8]] rfl (by (try simp only [List.map_toArray,List.map_cons,List.map_nil]);first|done|rfl|(simp only [ld_,lt_];rfl)) ?_;(with_reducible refine (spec_l07Check.calls k a0_0 a0_1 _ _ l0_2 _ _ l0_3 _ _ l0_4 _ _ l0_5 _ _ l0_6 a0_7 a0_8 t134 _ ?side1 ?side2 ?side3 ?side4 ?side5 ?side6 ?side7 ?side8 ?side9 ?side10 A6.out).mono ?_);(case side1=>repeat (first|exact (cb_ HR0_2.out HB.out)|(with_reducible refine ca_ ?_ _)|(with_reducible refine cn_ ?_ _)|(with_reducible refine cd_ ?_)));(case side2=>exact HC0_2.out);(case side3=>repeat (first|exact (cb_ HR0_3.out HB.out)|(with_reducible refine ca_ ?_ _)|(with_reducible refine cn_ ?_ _)|(with_reducible refine cd_ ?_)));(case side4=>exact HC0_3.out);(case side5=>repeat (first|exact (cb_ HR0_4.out HB.out)|(with_reducible refine ca_ ?_ _)|(with_reducible refine cn_ ?_ _)|(with_reducible refine cd_ ?_)));(case side6=>exact HC0_4.out);(case side7=>repeat (first|exact (cb_ HR0_5.out HB.out)|(with_reducible refine ca_ ?_ _)|(with_reducible refine cn_ ?_ _)|(with_reducible refine cd_ ?_)));(case side8=>exact HC0_5.out);(case side9=>repeat (first|exact (cb_ HR0_6.out HB.out)|(with_reducible refine ca_ ?_ _)|(with_reducible refine cn_ ?_ _)|(with_reducible refine cd_ ?_)));(case side10=>exact HC0_6.out);rintro e w23 ⟨rfl,hb⟩;refine ⟨_,rfl,?_⟩;have n0_:=A_ (kb_ (g:=gb133) (o:=.cells #[.bool a0_0,.bool a0_1,.slice A0_2 l0_2.length c0_2,.slice A0_3 l0_3.length c0_3,.slice A0_4 l0_4.length c0_4,.slice A0_5 l0_5.length c0_5,.slice A0_6 l0_6.length c0_6,.bool a0_7,.bool a0_8] 25 (0,0)) (by (with_reducible repeat (first|refine kn_ ?_ _|refine kd_ ?_|refine ka_ ?_ _));exact BK133.out) hb);have n1_:=A_ (bp_ (by repeat (first|(with_reducible first|exact HB.out|apply ba_|apply pd_|apply b1_|refine bs_ ?_ GE133.out)|exact HB.out)) hb);clear BK133;clear HB;have BK133:=n0_;have HB:=n1_;clear n0_ n1_;(try clear hb);(try clear hb2);(try clear hk);(try clear hi)))
   go_ret
   exact ⟨by first|rfl|(simp [errW_none,errW_some] <;> rfl)|(simp [*,errW_none,errW_some] <;> rfl),by repeat (first|(with_reducible first|exact HB.out|apply ba_|apply pd_|apply b1_|refine bs_ ?_ GE133.out)|exact HB.out)⟩
/-! ### spec_l03Attrs: function 46 -/
mutual
def spec_l03Attrs.l0:Nat→List (S51)→Int→Option (Bool)
 | 0,_,_=>none
 | k+1,x0,x3=>if x3<(x0.length:Int) then (if 0≤x3 then ((spec_l01Tag.f k ((rd_T51 x0 x3).f0)).bind fun t138=>(if t138=true then (spec_l03Attrs.j1 k x0 x3 (decide ((((rd_T51 x0 x3).f1).size:Int)>40))) else (spec_l03Attrs.j1 k x0 x3 true))) else (none)) else (some true)
def spec_l03Attrs.j1:Nat→List (S51)→Int→Bool→Option (Bool)
 | 0,_,_,_=>none
 | k+1,x0,x3,x29=>if x29=true then (some false) else (spec_l03Attrs.l1 k x0 x3 0)
def spec_l03Attrs.l1:Nat→List (S51)→Int→Int→Option (Bool)
 | 0,_,_,_=>none
 | k+1,x0,x3,x4=>if x4<x3 then (if 0≤x4 then (if x4<(x0.length:Int) then (if 0≤x3 then (if x3<(x0.length:Int) then (if ((rd_T51 x0 x4).f0).toList=((rd_T51 x0 x3).f0).toList then (some false) else (spec_l03Attrs.l1 k x0 x3 (wrap64 (x4+1)))) else (none)) else (none)) else (none)) else (none)) else (spec_l03Attrs.l0 k x0 (wrap64 (x3+1)))
end
def spec_l03Attrs.f (k:Nat) (l0:List (S51)):Option (Bool):=if (l0.length:Int)>6 then (some false) else (spec_l03Attrs.l0 k l0 0)
theorem spec_l03Attrs.mono_l:∀ k,(∀ y0 y1,LeO (spec_l03Attrs.l0 k y0 y1) (spec_l03Attrs.l0 (k+1) y0 y1))∧(∀ y0 y1 y2,LeO (spec_l03Attrs.j1 k y0 y1 y2) (spec_l03Attrs.j1 (k+1) y0 y1 y2))∧(∀ y0 y1 y2,LeO (spec_l03Attrs.l1 k y0 y1 y2) (spec_l03Attrs.l1 (k+1) y0 y1 y2))
 | 0=>⟨fun _ _ r h=>by simp [spec_l03Attrs.l0] at h,fun _ _ _ r h=>by simp [spec_l03Attrs.j1] at h,fun _ _ _ r h=>by simp [spec_l03Attrs.l1] at h⟩
 | k+1=>by
  obtain ⟨ih0,ih1,ih2⟩:=spec_l03Attrs.mono_l k
  refine ⟨?_,?_,?_⟩
  ·intro y0 y1
   unfold spec_l03Attrs.l0
   repeat' first
   | (with_reducible exact ih0 _ _)
   | (with_reducible exact ih1 _ _ _)
   | (with_reducible exact ih2 _ _ _)
   | (with_reducible exact spec_l01Tag.mono _ _)
   | (with_reducible exact LeO.refl _)
   | (with_reducible exact LeO.none _)
   | (with_reducible refine LeO.ite ?_ ?_)
   | (with_reducible refine LeO.bind ?_ (fun _=>?_))
   | exact ih0 _ _
   | exact ih1 _ _ _
   | exact ih2 _ _ _
   | exact spec_l01Tag.mono _ _
   | exact LeO.none _
   | refine LeO.ite ?_ ?_
   | refine LeO.bind ?_ (fun _=>?_)
  ·intro y0 y1 y2
   unfold spec_l03Attrs.j1
   repeat' first
   | (with_reducible exact ih0 _ _)
   | (with_reducible exact ih1 _ _ _)
   | (with_reducible exact ih2 _ _ _)
   | (with_reducible exact spec_l01Tag.mono _ _)
   | (with_reducible exact LeO.refl _)
   | (with_reducible exact LeO.none _)
   | (with_reducible refine LeO.ite ?_ ?_)
   | (with_reducible refine LeO.bind ?_ (fun _=>?_))
   | exact ih0 _ _
   | exact ih1 _ _ _
   | exact ih2 _ _ _
   | exact spec_l01Tag.mono _ _
   | exact LeO.none _
   | refine LeO.ite ?_ ?_
   | refine LeO.bind ?_ (fun _=>?_)
  ·intro y0 y1 y2
   unfold spec_l03Attrs.l1
   repeat' first
   | (with_reducible exact ih0 _ _)
   | (with_reducible exact ih1 _ _ _)
   | (with_reducible exact ih2 _ _ _)
   | (with_reducible exact spec_l01Tag.mono _ _)
   | (with_reducible exact LeO.refl _)
   | (with_reducible exact LeO.none _)
   | (with_reducible refine LeO.ite ?_ ?_)
   | (with_reducible refine LeO.bind ?_ (fun _=>?_))
   | exact ih0 _ _
   | exact ih1 _ _ _
   | exact ih2 _ _ _
   | exact spec_l01Tag.mono _ _
   | exact LeO.none _
   | refine LeO.ite ?_ ?_
   | refine LeO.bind ?_ (fun _=>?_)
theorem spec_l03Attrs.mono:∀ a0 k,LeO (spec_l03Attrs.f k a0) (spec_l03Attrs.f (k+1) a0):=by
 intro a0 k
 obtain ⟨ih0,ih1,ih2⟩:=spec_l03Attrs.mono_l k
 unfold spec_l03Attrs.f
 repeat' first
  | (with_reducible exact ih0 _ _)
  | (with_reducible exact ih1 _ _ _)
  | (with_reducible exact ih2 _ _ _)
  | (with_reducible exact spec_l01Tag.mono _ _)
  | (with_reducible exact LeO.refl _)
  | (with_reducible exact LeO.none _)
  | (with_reducible refine LeO.ite ?_ ?_)
  | (with_reducible refine LeO.bind ?_ (fun _=>?_))
  | exact ih0 _ _
  | exact ih1 _ _ _
  | exact ih2 _ _ _
  | exact spec_l01Tag.mono _ _
  | exact LeO.none _
  | refine LeO.ite ?_ ?_
  | refine LeO.bind ?_ (fun _=>?_)
set_option maxHeartbeats 8000000 in
set_option maxRecDepth 100000 in
theorem spec_l03Attrs.calls (k:Nat) (A0:Option Addr) (c0:Nat) (l0:List (S51)) (r:Bool) (w:World) (hr0:Kd.C k51 w A0 l0.length l0) (hc0:l0.length≤c0) (h:spec_l03Attrs.f k l0=some r) :
 Calls Try.prog 46 #[.slice A0 l0.length c0] w fun e w'=>e=.returned (.bool r)∧Drawn0 w w':=by
 have HR0:=A_ hr0
 have HC0:=A_ hc0
 clear hr0 hc0
 have H:(if (l0.length:Int)>6 then (some false) else (spec_l03Attrs.l0 k l0 0))=some r:=h
 clear h
 by_cases c2:(l0.length:Int)>6
 ·rw [if_pos c2] at H
  have c2b0:decide (6<(l0.length:Int))=true:=dt_ c2
  have c2b1:decide (6<l0.length)=true:=dt_ (by omega)
  clear c2
  obtain rfl:=oi_ H
  go_enter Try.func46,Try.ntmps46
  go_wp2
  repeat (go_quiet (fail);try go_wp2)
  go_ret
  exact ⟨by first|rfl|(simp;done)|(simp [*];done),by repeat (first|exact dr_ _|apply dp_)⟩
 ·rw [if_neg c2] at H
  have c2b0:decide (6<(l0.length:Int))=false:=df_ c2
  have c2b1:decide (6<l0.length)=false:=df_ (by omega)
  clear c2
  have H':=A_ H
  clear H
  go_enter Try.func46,Try.ntmps46
  go_wp2
  repeat (go_quiet (fail);try go_wp2)
  go_loopg [3] k (fun kq v3 w'=>∃ (x3_1:Int),v3=.int .i64 x3_1∧Aside0 (spec_l03Attrs.l0 kq l0 x3_1=some r)∧Aside0 (kq≤k)∧Drawn0 w w')
  case atStart=>exact ⟨(0),(by first|rfl|(simp;done)|(simp [*];done)),H',⟨Nat.le_refl _⟩,by repeat (first|exact dr_ _|apply dp_)⟩
  case round =>
   clear H'
   try clear c2
   try clear c2b0
   try clear c2b1
   try clear p2
   obtain ⟨x3_1,rfl,HA,HK1,⟨m1,rfl⟩⟩:=hrel
   cases gk with
   | zero=>exact absurd HA.out (by simp [spec_l03Attrs.l0])
   | succ k1 =>
    have H:=HA.out
    clear HA
    simp only [spec_l03Attrs.l0] at H
    by_cases c3:x3_1<(l0.length:Int)
    ·rw [if_pos c3] at H
     have c3b0:decide (x3_1<(l0.length:Int))=true:=dt_ c3
     clear c3
     have HC4:=A_ H
     clear H
     go_upto_region 6 with (fail)
     repeat (go_quiet (fail);go_upto_region 6 with (fail))
     go_cut [29] (fun v29 wc=>∃ (kq:Nat) (x29_3:Bool),v29=.bool x29_3∧Aside0 (spec_l03Attrs.j1 kq l0 x3_1 x29_3=some r)∧Aside0 (kq≤k1)∧Drawn0 w wc)
     case first =>
      have H:=HC4.out
      clear HC4
      by_cases c5:0≤x3_1
      ·rw [if_pos c5] at H
       have c5b0:decide (0≤x3_1)=true:=dt_ c5
       clear c5
       (first|rw [c5b0]|(simp only [i64_w,i32_w];rw [c5b0])|skip)
       replace H:=ob_ H
       obtain ⟨t138,A60,H⟩:=H
       replace H:(if t138=true then (spec_l03Attrs.j1 k1 l0 x3_1 (decide ((((rd_T51 l0 x3_1).f1).size:Int)>40))) else (spec_l03Attrs.j1 k1 l0 x3_1 true))=some r:=H
       have A6:=A_ A60
       clear A60
       by_cases c7:t138=true
       ·subst c7
        have H1:(spec_l03Attrs.j1 k1 l0 x3_1 (decide ((((rd_T51 l0 x3_1).f1).size:Int)>40)))=some r:=by rw [if_pos rfl] at H;exact H
        clear H
        have H:=H1
        clear H1
        have H':=A_ H
        clear H
        have p137:0≤(x3_1:Int):=od_ (by first|(with_reducible assumption)|assumption)
        have q137:x3_1<(l0.length:Int):=od_ (by first|(with_reducible assumption)|assumption)
        obtain ⟨ad137,e137,hx137_0,hx137_1⟩:=at_T51 HR0.out x3_1 p137 q137
        cases e137
        replace p137:=eq_true p137
        replace q137:=eq_true q137
        go_wp2_with (first|(go_at_call 59;(with_reducible refine (spec_l01Tag.calls k1 ((rd_T51 l0 x3_1).f0) true _ A6.out).mono ?_);rintro e w' ⟨rfl,⟨nd,rfl⟩⟩;(try first|exact ⟨rfl,_,ww_ _ _ _⟩|exact ⟨rfl,_,Eq.trans (ww_ _ _ _) (congrArg (World.drewN _) (Nat.add_assoc _ _ _))⟩);have p139:0≤(x3_1:Int):=od_ (by first|(with_reducible assumption)|assumption);have q139:x3_1<(l0.length:Int):=od_ (by first|(with_reducible assumption)|assumption);obtain ⟨ad139,e139,hx139_0,hx139_1⟩:=at_T51 HR0.out x3_1 p139 q139;obtain rfl:ad137=ad139:=(by injection e139);replace p139:=eq_true p139;replace q139:=eq_true q139))
        repeat (go_quiet (first|(go_at_call 59;(with_reducible refine (spec_l01Tag.calls k1 ((rd_T51 l0 x3_1).f0) true _ A6.out).mono ?_);rintro e w' ⟨rfl,⟨nd,rfl⟩⟩;(try first|exact ⟨rfl,_,ww_ _ _ _⟩|exact ⟨rfl,_,Eq.trans (ww_ _ _ _) (congrArg (World.drewN _) (Nat.add_assoc _ _ _))⟩);have p139:0≤(x3_1:Int):=od_ (by first|(with_reducible assumption)|assumption);have q139:x3_1<(l0.length:Int):=od_ (by first|(with_reducible assumption)|assumption);obtain ⟨ad139,e139,hx139_0,hx139_1⟩:=at_T51 HR0.out x3_1 p139 q139;obtain rfl:ad137=ad139:=(by injection e139);replace p139:=eq_true p139;replace q139:=eq_true q139));try go_wp2_with (first|(go_at_call 59;(with_reducible refine (spec_l01Tag.calls k1 ((rd_T51 l0 x3_1).f0) true _ A6.out).mono ?_);rintro e w' ⟨rfl,⟨nd,rfl⟩⟩;(try first|exact ⟨rfl,_,ww_ _ _ _⟩|exact ⟨rfl,_,Eq.trans (ww_ _ _ _) (congrArg (World.drewN _) (Nat.add_assoc _ _ _))⟩);have p139:0≤(x3_1:Int):=od_ (by first|(with_reducible assumption)|assumption);have q139:x3_1<(l0.length:Int):=od_ (by first|(with_reducible assumption)|assumption);obtain ⟨ad139,e139,hx139_0,hx139_1⟩:=at_T51 HR0.out x3_1 p139 q139;obtain rfl:ad137=ad139:=(by injection e139);replace p139:=eq_true p139;replace q139:=eq_true q139)))
        go_meet
        case rel=>exact ⟨_,(decide ((((rd_T51 l0 x3_1).f1).size:Int)>40)),(by first|rfl|(simp;done)|(simp [*];done)),H',⟨by have:=HK1.out;first|omega|exact Nat.le_refl _⟩,by repeat (first|exact dr_ _|apply dp_)⟩
       ·replace c7:=bm_ c7
        subst c7
        have H1:(spec_l03Attrs.j1 k1 l0 x3_1 true)=some r:=by rw [if_neg (show ¬ (false=true) by decide)] at H;exact H
        clear H
        have H:=H1
        clear H1
        have H':=A_ H
        clear H
        have p137:0≤(x3_1:Int):=od_ (by first|(with_reducible assumption)|assumption)
        have q137:x3_1<(l0.length:Int):=od_ (by first|(with_reducible assumption)|assumption)
        obtain ⟨ad137,e137,hx137_0,hx137_1⟩:=at_T51 HR0.out x3_1 p137 q137
        cases e137
        replace p137:=eq_true p137
        replace q137:=eq_true q137
        go_wp2_with (first|(go_at_call 59;(with_reducible refine (spec_l01Tag.calls k1 ((rd_T51 l0 x3_1).f0) false _ A6.out).mono ?_);rintro e w' ⟨rfl,⟨nd,rfl⟩⟩;(try first|exact ⟨rfl,_,ww_ _ _ _⟩|exact ⟨rfl,_,Eq.trans (ww_ _ _ _) (congrArg (World.drewN _) (Nat.add_assoc _ _ _))⟩)))
        repeat (go_quiet (first|(go_at_call 59;(with_reducible refine (spec_l01Tag.calls k1 ((rd_T51 l0 x3_1).f0) false _ A6.out).mono ?_);rintro e w' ⟨rfl,⟨nd,rfl⟩⟩;(try first|exact ⟨rfl,_,ww_ _ _ _⟩|exact ⟨rfl,_,Eq.trans (ww_ _ _ _) (congrArg (World.drewN _) (Nat.add_assoc _ _ _))⟩)));try go_wp2_with (first|(go_at_call 59;(with_reducible refine (spec_l01Tag.calls k1 ((rd_T51 l0 x3_1).f0) false _ A6.out).mono ?_);rintro e w' ⟨rfl,⟨nd,rfl⟩⟩;(try first|exact ⟨rfl,_,ww_ _ _ _⟩|exact ⟨rfl,_,Eq.trans (ww_ _ _ _) (congrArg (World.drewN _) (Nat.add_assoc _ _ _))⟩))))
        go_meet
        case rel=>exact ⟨_,(true),(by first|rfl|(simp;done)|(simp [*];done)),H',⟨by have:=HK1.out;first|omega|exact Nat.le_refl _⟩,by repeat (first|exact dr_ _|apply dp_)⟩
      ·rw [if_neg c5] at H
       exact absurd H (by simp)
     case rest =>
      clear HC4
      try clear p1
      try clear q1
      try clear hx1
      try clear c2
      try clear c2b0
      try clear c2b1
      try clear p2
      try clear c3
      try clear c3b0
      try clear c4
      try clear c5
      try clear c5b0
      try clear c7
      try clear hx137_0
      try clear hx137_1
      try clear hx139_0
      try clear hx139_1
      try clear p137
      try clear p139
      try clear p2
      try clear q137
      try clear q139
      obtain ⟨kq,x29_3,rfl,HA,HJ3,⟨mc3,rfl⟩⟩:=hcut
      cases kq with
      | zero=>exact absurd HA.out (by simp [spec_l03Attrs.j1])
      | succ kj3 =>
       have H:=HA.out
       clear HA
       simp only [spec_l03Attrs.j1] at H
       by_cases c8:x29_3=true
       ·subst c8
        have H1:(some false)=some r:=by rw [if_pos rfl] at H;exact H
        clear H
        have H:=H1
        clear H1
        obtain rfl:=oi_ H
        go_wp2
        repeat (go_quiet (fail);try go_wp2)
        go_ret
        exact ⟨by first|rfl|(simp;done)|(simp [*];done),by repeat (first|exact dr_ _|apply dp_)⟩
       ·replace c8:=bm_ c8
        subst c8
        have H1:(spec_l03Attrs.l1 kj3 l0 x3_1 0)=some r:=by rw [if_neg (show ¬ (false=true) by decide)] at H;exact H
        clear H
        have H:=H1
        clear H1
        have H':=A_ H
        clear H
        go_wp2
        repeat (go_quiet (fail);try go_wp2)
        go_loopg [4] kj3 (fun kq v4 w'=>∃ (x4_3:Int),v4=.int .i64 x4_3∧Aside0 (spec_l03Attrs.l1 kq l0 x3_1 x4_3=some r)∧Aside0 (kq≤kj3)∧Drawn0 w w')
        case atStart=>exact ⟨(0),(by first|rfl|(simp;done)|(simp [*];done)),H',⟨Nat.le_refl _⟩,by repeat (first|exact dr_ _|apply dp_)⟩
        case round =>
         clear H'
         try clear p1
         try clear q1
         try clear hx1
         try clear c2
         try clear c2b0
         try clear c2b1
         try clear p2
         try clear c3
         try clear c3b0
         try clear c4
         try clear c5
         try clear c5b0
         try clear c7
         try clear c8
         try clear hx137_0
         try clear hx137_1
         try clear hx139_0
         try clear hx139_1
         try clear p1
         try clear p137
         try clear p139
         try clear p2
         try clear q1
         try clear q137
         try clear q139
         obtain ⟨x4_3,rfl,HA,HK3,⟨m3,rfl⟩⟩:=hrel
         cases gk with
         | zero=>exact absurd HA.out (by simp [spec_l03Attrs.l1])
         | succ k3 =>
          have H:=HA.out
          clear HA
          simp only [spec_l03Attrs.l1] at H
          by_cases c9:x4_3<x3_1
          ·rw [if_pos c9] at H
           have c9b0:decide (x4_3<x3_1)=true:=dt_ c9
           clear c9
           by_cases c10:0≤x4_3
           ·rw [if_pos c10] at H
            have c10b0:decide (0≤x4_3)=true:=dt_ c10
            clear c10
            by_cases c11:x4_3<(l0.length:Int)
            ·rw [if_pos c11] at H
             have c11b0:decide (x4_3<(l0.length:Int))=true:=dt_ c11
             clear c11
             by_cases c12:0≤x3_1
             ·rw [if_pos c12] at H
              have c12b0:decide (0≤x3_1)=true:=dt_ c12
              clear c12
              by_cases c13:x3_1<(l0.length:Int)
              ·rw [if_pos c13] at H
               have c13b0:decide (x3_1<(l0.length:Int))=true:=dt_ c13
               clear c13
               by_cases c14:((rd_T51 l0 x4_3).f0).toList=((rd_T51 l0 x3_1).f0).toList
               ·rw [if_pos c14] at H
                have c14b0:(((rd_T51 l0 x4_3).f0).toList == ((rd_T51 l0 x3_1).f0).toList)=true:=beq_iff_eq.mpr c14
                have c14b1:(((rd_T51 l0 x4_3).f0).toList != ((rd_T51 l0 x3_1).f0).toList)=false:=bne_eq_false_iff_eq.mpr c14
                clear c14
                obtain rfl:=oi_ H
                have p140:0≤(x4_3:Int):=od_ (by first|(with_reducible assumption)|assumption)
                have q140:x4_3<(l0.length:Int):=od_ (by first|(with_reducible assumption)|assumption)
                obtain ⟨ad140,e140,hx140_0,hx140_1⟩:=at_T51 HR0.out x4_3 p140 q140
                cases e140
                replace p140:=eq_true p140
                replace q140:=eq_true q140
                have p141:0≤(x3_1:Int):=od_ (by first|(with_reducible assumption)|assumption)
                have q141:x3_1<(l0.length:Int):=od_ (by first|(with_reducible assumption)|assumption)
                obtain ⟨ad141,e141,hx141_0,hx141_1⟩:=at_T51 HR0.out x3_1 p141 q141
                obtain rfl:ad140=ad141:=(by injection e141)
                replace p141:=eq_true p141
                replace q141:=eq_true q141
                go_wp2
                repeat (go_quiet (fail);try go_wp2)
                go_ret
                exact ⟨by first|rfl|(simp;done)|(simp [*];done),by repeat (first|exact dr_ _|apply dp_)⟩
               ·rw [if_neg c14] at H
                have c14b0:(((rd_T51 l0 x4_3).f0).toList == ((rd_T51 l0 x3_1).f0).toList)=false:=beq_eq_false_iff_ne.mpr c14
                have c14b1:(((rd_T51 l0 x4_3).f0).toList != ((rd_T51 l0 x3_1).f0).toList)=true:=bne_iff_ne.mpr c14
                have H':=A_ H
                clear H
                have p140:0≤(x4_3:Int):=od_ (by first|(with_reducible assumption)|assumption)
                have q140:x4_3<(l0.length:Int):=od_ (by first|(with_reducible assumption)|assumption)
                obtain ⟨ad140,e140,hx140_0,hx140_1⟩:=at_T51 HR0.out x4_3 p140 q140
                cases e140
                replace p140:=eq_true p140
                replace q140:=eq_true q140
                have p141:0≤(x3_1:Int):=od_ (by first|(with_reducible assumption)|assumption)
                have q141:x3_1<(l0.length:Int):=od_ (by first|(with_reducible assumption)|assumption)
                obtain ⟨ad141,e141,hx141_0,hx141_1⟩:=at_T51 HR0.out x3_1 p141 q141
                obtain rfl:ad140=ad141:=(by injection e141)
                replace p141:=eq_true p141
                replace q141:=eq_true q141
                go_wp2
                repeat (go_quiet (fail);try go_wp2)
                go_roundg k3
                case measure=>have:=HK1.out;have:=HJ3.out;have:=HK3.out;omega
                case rel=>exact ⟨(wrap64 (x4_3+1)),(by first|rfl|(simp;done)|(simp [*];done)),H',⟨by have:=HK1.out;have:=HJ3.out;have:=HK3.out;omega⟩,by repeat (first|exact dr_ _|apply dp_)⟩
              ·rw [if_neg c13] at H
               exact absurd H (by simp)
             ·rw [if_neg c12] at H
              exact absurd H (by simp)
            ·rw [if_neg c11] at H
             exact absurd H (by simp)
           ·rw [if_neg c10] at H
            exact absurd H (by simp)
          ·rw [if_neg c9] at H
           have c9b0:decide (x4_3<x3_1)=false:=df_ c9
           clear c9
           have H':=A_ H
           clear H
           go_wp2
           repeat (go_quiet (fail);try go_wp2)
           go_roundg k3
           case measure=>have:=HK1.out;have:=HJ3.out;have:=HK3.out;omega
           case rel=>exact ⟨(wrap64 (x3_1+1)),(by first|rfl|(simp;done)|(simp [*];done)),H',⟨by have:=HK1.out;have:=HJ3.out;have:=HK3.out;omega⟩,by repeat (first|exact dr_ _|apply dp_)⟩
    ·rw [if_neg c3] at H
     have c3b0:decide (x3_1<(l0.length:Int))=false:=df_ c3
     clear c3
     obtain rfl:=oi_ H
     go_wp2
     repeat (go_quiet (fail);try go_wp2)
     go_ret
     exact ⟨by first|rfl|(simp;done)|(simp [*];done),by repeat (first|exact dr_ _|apply dp_)⟩
/-! ### spec_l01Handler: function 74 -/
def spec_l01Handler.f (a0:ByteArray):Option (Bool):=if (a0.size:Int)>2 then (if 0≤2 then (if 2≤(a0.size:Int) then (some ((a0.extract 0 2).toList == ([111,110]:List UInt8))) else (none)) else (none)) else (some false)
set_option maxHeartbeats 8000000 in
set_option maxRecDepth 100000 in
theorem spec_l01Handler.calls (a0:ByteArray) (r:Bool) (w:World) (h:spec_l01Handler.f a0=some r) :
 Calls Try.prog 74 #[.string a0] w fun e w'=>e=.returned (.bool r)∧Drawn0 w w':=by
 have H:(if (a0.size:Int)>2 then (if 0≤2 then (if 2≤(a0.size:Int) then (some ((a0.extract 0 2).toList == ([111,110]:List UInt8))) else (none)) else (none)) else (some false))=some r:=h
 clear h
 by_cases c2:(a0.size:Int)>2
 ·rw [if_pos c2] at H
  have c2b0:decide (2<(a0.size:Int))=true:=dt_ c2
  have c2b1:decide (2<a0.size)=true:=dt_ (by omega)
  clear c2
  by_cases c3:0≤2
  ·rw [if_pos c3] at H
   have c3b0:=eq_true c3
   have c3b1:decide (0≤2)=true:=dt_ c3
   clear c3
   by_cases c4:2≤(a0.size:Int)
   ·rw [if_pos c4] at H
    have c4b0:=eq_true c4
    have c4b1:decide (2≤(a0.size:Int))=true:=dt_ c4
    clear c4
    obtain rfl:=oi_ H
    go_enter Try.func74,Try.ntmps74
    go_wp2
    go_ret
    exact ⟨by first|rfl|(simp;done)|(simp [*];done),by repeat (first|exact dr_ _|apply dp_)⟩
   ·rw [if_neg c4] at H
    exact absurd H (by simp)
  ·rw [if_neg c3] at H
   exact absurd H (by simp)
 ·rw [if_neg c2] at H
  have c2b0:decide (2<(a0.size:Int))=false:=df_ c2
  have c2b1:decide (2<a0.size)=false:=df_ (by omega)
  clear c2
  obtain rfl:=oi_ H
  go_enter Try.func74,Try.ntmps74
  go_wp2
  go_ret
  exact ⟨by first|rfl|(simp;done)|(simp [*];done),by repeat (first|exact dr_ _|apply dp_)⟩
/-! ### spec_l01Link: function 75 -/
def spec_l01Link.f (k:Nat) (a0:ByteArray):Option (Bool):=(spec_l01Has.f k (([(⟨#[104,114,101,102]⟩:ByteArray),(⟨#[115,114,99]⟩:ByteArray),(⟨#[97,99,116,105,111,110]⟩:ByteArray),(⟨#[102,111,114,109,97,99,116,105,111,110]⟩:ByteArray),(⟨#[120,108,105,110,107,45,104,114,101,102]⟩:ByteArray)]:List ByteArray)) a0).bind fun t145=>(some t145)
theorem spec_l01Link.mono:∀ a0 k,LeO (spec_l01Link.f k a0) (spec_l01Link.f (k+1) a0):=by
 intro a0 k
 unfold spec_l01Link.f
 repeat' first
  | (with_reducible exact spec_l01Has.mono _ _ _)
  | (with_reducible exact LeO.refl _)
  | (with_reducible exact LeO.none _)
  | (with_reducible refine LeO.ite ?_ ?_)
  | (with_reducible refine LeO.bind ?_ (fun _=>?_))
  | exact spec_l01Has.mono _ _ _
  | exact LeO.none _
  | refine LeO.ite ?_ ?_
  | refine LeO.bind ?_ (fun _=>?_)
set_option maxHeartbeats 8000000 in
set_option maxRecDepth 100000 in
theorem spec_l01Link.calls (k:Nat) (a0:ByteArray) (r:Bool) (w:World) (h:spec_l01Link.f k a0=some r) :
 Calls Try.prog 75 #[.string a0] w fun e w'=>e=.returned (.bool r)∧Below w.heap.size w w':=by
 have HB:=A_ (Below.refl w.heap.size w)
 have H:((spec_l01Has.f k (([(⟨#[104,114,101,102]⟩:ByteArray),(⟨#[115,114,99]⟩:ByteArray),(⟨#[97,99,116,105,111,110]⟩:ByteArray),(⟨#[102,111,114,109,97,99,116,105,111,110]⟩:ByteArray),(⟨#[120,108,105,110,107,45,104,114,101,102]⟩:ByteArray)]:List ByteArray)) a0).bind fun t145=>(some t145))=some r:=h
 clear h
 obtain ⟨y142,hy142⟩:∃ y_:List ByteArray,y_=(([(⟨#[104,114,101,102]⟩:ByteArray),(⟨#[115,114,99]⟩:ByteArray),(⟨#[97,99,116,105,111,110]⟩:ByteArray),(⟨#[102,111,114,109,97,99,116,105,111,110]⟩:ByteArray),(⟨#[120,108,105,110,107,45,104,114,101,102]⟩:ByteArray)]:List ByteArray)):=⟨_,rfl⟩
 replace H:((spec_l01Has.f k y142 a0).bind fun t145=>(some t145))=some r:=by first|(rw [hy142];with_reducible exact H)|(have H2_:=(Option.bind_some _ _).symm.trans H;rw [hy142];with_reducible exact H2_)|(have H2_:=(Option.bind_some _ _).symm.trans H;with_reducible exact H2_)|with_reducible exact H|(rw [hy142];exact H)|exact H
 have Ny142:=A_ hy142
 clear hy142
 replace H:=ob_ H
 obtain ⟨t145,A20,H⟩:=H
 replace H:(some t145)=some r:=H
 have A2:=A_ A20
 clear A20
 obtain rfl:=oi_ H
 go_enter Try.func75,Try.ntmps75
 go_wp2_with (first|((with_reducible refine gate_dst (N:=3) rfl ?_);refine Kd.R_lit Kd.string _ 9 ?hg (N:=3) ?hd (xs:=([(⟨#[104,114,101,102]⟩:ByteArray),(⟨#[115,114,99]⟩:ByteArray),(⟨#[97,99,116,105,111,110]⟩:ByteArray),(⟨#[102,111,114,109,97,99,116,105,111,110]⟩:ByteArray),(⟨#[120,108,105,110,107,45,104,114,101,102]⟩:ByteArray)]:List ByteArray)) (inner:=[.string (⟨#[104,114,101,102]⟩:ByteArray),.string (⟨#[115,114,99]⟩:ByteArray),.string (⟨#[97,99,116,105,111,110]⟩:ByteArray),.string (⟨#[102,111,114,109,97,99,116,105,111,110]⟩:ByteArray),.string (⟨#[120,108,105,110,107,45,104,114,101,102]⟩:ByteArray)]) (ok:=fun _=>True) (okp:=fun _=>True) ?hr ?hp (fun _ hk=>hk) trivial (Below.refl _ _) (Nat.le_refl _) (by simp) ?_;(case hd=>rfl);(case hg=>rfl);(case hr=>first|(go_simp;done)|(go_simp;rfl)|(first|(go_simp;done)|(go_simp;rfl)));(case hp=>exact (Reps.one (show Kd.M Kd.string _ _ _ (⟨#[104,114,101,102]⟩:ByteArray) [.string (⟨#[104,114,101,102]⟩:ByteArray)] from rfl) (Reps.one (show Kd.M Kd.string _ _ _ (⟨#[115,114,99]⟩:ByteArray) [.string (⟨#[115,114,99]⟩:ByteArray)] from rfl) (Reps.one (show Kd.M Kd.string _ _ _ (⟨#[97,99,116,105,111,110]⟩:ByteArray) [.string (⟨#[97,99,116,105,111,110]⟩:ByteArray)] from rfl) (Reps.one (show Kd.M Kd.string _ _ _ (⟨#[102,111,114,109,97,99,116,105,111,110]⟩:ByteArray) [.string (⟨#[102,111,114,109,97,99,116,105,111,110]⟩:ByteArray)] from rfl) (Reps.one (show Kd.M Kd.string _ _ _ (⟨#[120,108,105,110,107,45,104,114,101,102]⟩:ByteArray) [.string (⟨#[120,108,105,110,107,45,104,114,101,102]⟩:ByteArray)] from rfl) (Reps.none _ _)))))));intro v143 w3 ho4 hb hg_ hnew_;clear hg_ hnew_;(first|rw [←Ny142.out] at ho4|(simp only [Int.reduceToNat] at ho4;rw [←Ny142.out] at ho4));have n0_:=A_ (Kd.R_lower ho4 (bz_ (by repeat (first|(with_reducible first|exact HB.out|apply ba_|apply pd_|apply b1_)|exact HB.out))));have n1_:=A_ (bp_ (by repeat (first|(with_reducible first|exact HB.out|apply ba_|apply pd_|apply b1_)|exact HB.out)) hb);clear HB;have HO144:=n0_;have HB:=n1_;clear n0_ n1_;clear hb ho4;obtain ⟨Ao5,co5,eo5⟩:=Kd.R_slice HO144.out;subst eo5)|((with_reducible refine gate_callee (f:=70) rfl ?_);refine goesL_ (some 5) rfl rfl Try.func70 (by kernel_rfl) rfl #[.slice Ao5 y142.length co5,.string a0] rfl (by (try simp only [List.map_toArray,List.map_cons,List.map_nil]);first|done|rfl|(simp only [ld_,lt_];rfl)) ?_;(with_reducible refine (spec_l01Has.calls k _ _ y142 a0 t145 _ ?side1 ?side2 A2.out).mono ?_);(case side1=>repeat (first|exact (Kd.R_reads' HO144.out).2.2|(with_reducible refine ca_ ?_ _)|(with_reducible refine cn_ ?_ _)|(with_reducible refine cd_ ?_)));(case side2=>exact (Kd.R_reads' HO144.out).2.1);rintro e w' ⟨rfl,⟨nd,rfl⟩⟩;refine ⟨_,rfl,?_⟩))
 go_ret
 exact ⟨by first|rfl|(simp [errW_none,errW_some] <;> rfl)|(simp [*,errW_none,errW_some] <;> rfl),by repeat (first|(with_reducible first|exact HB.out|apply ba_|apply pd_|apply b1_)|exact HB.out)⟩
end Go.Proofs.Ytmeafbneklphnaa.PFnExactAllowsAttr
