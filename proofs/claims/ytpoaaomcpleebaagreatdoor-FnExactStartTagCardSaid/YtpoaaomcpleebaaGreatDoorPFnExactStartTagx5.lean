/- By a program of this session, out of the kit's print and contracts made by hand: the machine side of a law; Lean checks it. No conditions. -/
import Derived.Test.YtpoaaomcpleebaaGreatDoorPFnExactStartTagx0
import Derived.Test.YtpoaaomcpleebaaGreatDoorPFnExactStartTagx2
import Derived.Test.YtpoaaomcpleebaaGreatDoorPFnExactStartTagx3
import Derived.Test.YtpoaaomcpleebaaGreatDoorPFnExactStartTagx4
namespace Go.Proofs.YtpoaaomcpleebaaGreatDoor.PFnExactStartTag
open Go.RowKit Go.Proofs.YtpoaaomcpleebaaGreatDoorW.PrintWords Go.Proofs.YtpoaaomcpleebaaGreatDoorW.PrintLast Go.Proofs.YtpoaaomcpleebaaGreatDoorW.PrintMore
attribute [local go_sem] max2_int min2_int max_two min_two max_three min_three max_four min_four
set_option linter.unusedVariables false
set_option linter.unusedSimpArgs false
/-! ### spec_l03Plain: function 11 -/
def spec_l03Plain.f (k:Nat) (a0_0:Int) (a0_1:Int) (a0_2:ByteArray) (a0_3:ByteArray) (l0_4:List (S51)) (l0_5:List (S32)):Option (Bool):=if a0_0=1 then ((spec_l01Tag.f k a0_2).bind fun t118=>(if t118=true then ((spec_l01In.f a0_1 0 2).bind fun t119=>(if t119=true then (if a0_3.toList=([]:List UInt8) then ((spec_l03Attrs.f k l0_4).bind fun t120=>(some t120)) else (some false)) else (some false))) else (some false))) else (if a0_0=2 then (if a0_2.toList=([]:List UInt8) then (if a0_1=0 then ((spec_l01In.f (a0_3.size:Int) 1 120).bind fun t121=>(if t121=true then (if (l0_4.length:Int)=0 then (some ((l0_5.length:Int) == 0)) else (some false)) else (some false))) else (some false)) else (some false)) else (if a0_0=3 then (if a0_2.toList=([]:List UInt8) then (if a0_1=0 then (if (a0_3.size:Int)≤120 then (if (l0_4.length:Int)=0 then (some ((l0_5.length:Int) == 0)) else (some false)) else (some false)) else (some false)) else (some false)) else (some false)))
theorem spec_l03Plain.mono:∀ a0 a1 a2 a3 a4 a5 k,LeO (spec_l03Plain.f k a0 a1 a2 a3 a4 a5) (spec_l03Plain.f (k+1) a0 a1 a2 a3 a4 a5):=by
 intro a0 a1 a2 a3 a4 a5 k
 unfold spec_l03Plain.f
 repeat' first
  | (with_reducible exact spec_l01Tag.mono _ _)
  | (with_reducible exact spec_l03Attrs.mono _ _)
  | (with_reducible exact LeO.refl _)
  | (with_reducible exact LeO.none _)
  | (with_reducible refine LeO.ite ?_ ?_)
  | (with_reducible refine LeO.bind ?_ (fun _=>?_))
  | exact spec_l01Tag.mono _ _
  | exact spec_l03Attrs.mono _ _
  | exact LeO.none _
  | refine LeO.ite ?_ ?_
  | refine LeO.bind ?_ (fun _=>?_)
set_option maxHeartbeats 8000000 in
set_option maxRecDepth 100000 in
theorem spec_l03Plain.calls (k:Nat) (a0_0:Int) (a0_1:Int) (a0_2:ByteArray) (a0_3:ByteArray) (A0_4:Option Addr) (c0_4:Nat) (l0_4:List (S51)) (A0_5:Option Addr) (c0_5:Nat) (l0_5:List (S32)) (r:Bool) (w:World) (hr0_4:Kd.C k51 w A0_4 l0_4.length l0_4) (hc0_4:l0_4.length≤c0_4) (hr0_5:Kd.C k32 w A0_5 l0_5.length l0_5) (hc0_5:l0_5.length≤c0_5) (h:spec_l03Plain.f k a0_0 a0_1 a0_2 a0_3 l0_4 l0_5=some r) :
 Calls Tryz.prog 11 #[.agg #[.int .i64 a0_0,.int .i64 a0_1,.string a0_2,.string a0_3,.slice A0_4 l0_4.length c0_4,.slice A0_5 l0_5.length c0_5]] w fun e w'=>e=.returned (.bool r)∧Below w.heap.size w w':=by
 have hu32:=Tryz.underlying32
 have HR0_4:=A_ hr0_4
 have HC0_4:=A_ hc0_4
 clear hr0_4 hc0_4
 have HR0_5:=A_ hr0_5
 have HC0_5:=A_ hc0_5
 clear hr0_5 hc0_5
 have HB:=A_ (Below.refl w.heap.size w)
 have H:(if a0_0=1 then ((spec_l01Tag.f k a0_2).bind fun t118=>(if t118=true then ((spec_l01In.f a0_1 0 2).bind fun t119=>(if t119=true then (if a0_3.toList=([]:List UInt8) then ((spec_l03Attrs.f k l0_4).bind fun t120=>(some t120)) else (some false)) else (some false))) else (some false))) else (if a0_0=2 then (if a0_2.toList=([]:List UInt8) then (if a0_1=0 then ((spec_l01In.f (a0_3.size:Int) 1 120).bind fun t121=>(if t121=true then (if (l0_4.length:Int)=0 then (some ((l0_5.length:Int) == 0)) else (some false)) else (some false))) else (some false)) else (some false)) else (if a0_0=3 then (if a0_2.toList=([]:List UInt8) then (if a0_1=0 then (if (a0_3.size:Int)≤120 then (if (l0_4.length:Int)=0 then (some ((l0_5.length:Int) == 0)) else (some false)) else (some false)) else (some false)) else (some false)) else (some false))))=some r:=h
 clear h
 by_cases c2:a0_0=1
 ·rw [if_pos c2] at H
  have c2b0:(a0_0 == 1)=true:=beq_iff_eq.mpr c2
  have c2b1:(a0_0 != 1)=false:=bne_eq_false_iff_eq.mpr c2
  clear c2
  replace H:=ob_ H
  obtain ⟨t118,A30,H⟩:=H
  replace H:(if t118=true then ((spec_l01In.f a0_1 0 2).bind fun t119=>(if t119=true then (if a0_3.toList=([]:List UInt8) then ((spec_l03Attrs.f k l0_4).bind fun t120=>(some t120)) else (some false)) else (some false))) else (some false))=some r:=H
  have A3:=A_ A30
  clear A30
  by_cases c4:t118=true
  ·subst c4
   have H1:((spec_l01In.f a0_1 0 2).bind fun t119=>(if t119=true then (if a0_3.toList=([]:List UInt8) then ((spec_l03Attrs.f k l0_4).bind fun t120=>(some t120)) else (some false)) else (some false)))=some r:=by rw [if_pos rfl] at H;exact H
   clear H
   have H:=H1
   clear H1
   replace H:=ob_ H
   obtain ⟨t119,A50,H⟩:=H
   replace H:(if t119=true then (if a0_3.toList=([]:List UInt8) then ((spec_l03Attrs.f k l0_4).bind fun t120=>(some t120)) else (some false)) else (some false))=some r:=H
   have A5:=A_ A50
   clear A50
   by_cases c6:t119=true
   ·subst c6
    have H1:(if a0_3.toList=([]:List UInt8) then ((spec_l03Attrs.f k l0_4).bind fun t120=>(some t120)) else (some false))=some r:=by rw [if_pos rfl] at H;exact H
    clear H
    have H:=H1
    clear H1
    by_cases c7:a0_3.toList=([]:List UInt8)
    ·rw [if_pos c7] at H
     have c7b0:(a0_3.toList == ([]:List UInt8))=true:=beq_iff_eq.mpr c7
     have c7b1:(a0_3.toList != ([]:List UInt8))=false:=bne_eq_false_iff_eq.mpr c7
     clear c7
     replace H:=ob_ H
     obtain ⟨t120,A80,H⟩:=H
     replace H:(some t120)=some r:=H
     have A8:=A_ A80
     clear A80
     obtain rfl:=oi_ H
     go_enter Tryz.func11,Tryz.ntmps11
     go_wp2_with (first|((with_reducible refine gate_dst (N:=1) rfl ?_);(try (refine gate_guard (by rfl) ?_;dsimp only));refine box_event ?hg (N:=1) ?hd (cs:=#[.int .i64 a0_0,.int .i64 a0_1,.string a0_2,.string a0_3,.slice A0_4 l0_4.length c0_4,.slice A0_5 l0_5.length c0_5]) (t:=32) ?hr ?_;(case hd=>rfl);(case hg=>rfl);(case hr=>first|(go_simp;done)|(go_simp;rfl));intro gb117 hg w9 hbox hb;have n0_:=A_ (bp_ (by repeat (first|(with_reducible first|exact HB.out|apply ba_|apply pd_|apply b1_)|exact HB.out)) hb);have n1_:=A_ (hbox);have n2_:=A_ ((by rw [hg];exact (bz_ (by repeat (first|(with_reducible first|exact HB.out|apply ba_|apply pd_|apply b1_)|exact HB.out))):w.heap.size≤gb117));have n3_:=A_ ((by rw [hg];exact (bz_ (by repeat (first|(with_reducible first|exact HB.out|apply ba_|apply pd_|apply b1_)|exact HB.out))):w.heap.size≤gb117));clear HB;have HB:=n0_;have BK117:=n1_;have GW117:=n2_;have GE117:=n3_;clear n0_ n1_ n2_ n3_;clear hb hbox hg;have hcz10_0:w9.cell? ⟨gb117,0,none⟩=some (.int .i64 a0_0):=(bc_ BK117.out 0).trans rfl;have hcz10_1:w9.cell? ⟨gb117,1,none⟩=some (.int .i64 a0_1):=(bc_ BK117.out 1).trans rfl;have hcz10_2:w9.cell? ⟨gb117,2,none⟩=some (.string a0_2):=(bc_ BK117.out 2).trans rfl;have hcz10_3:w9.cell? ⟨gb117,3,none⟩=some (.string a0_3):=(bc_ BK117.out 3).trans rfl;have hcz10_4:w9.cell? ⟨gb117,4,none⟩=some (.slice A0_4 l0_4.length c0_4):=(bc_ BK117.out 4).trans rfl;have hcz10_5:w9.cell? ⟨gb117,5,none⟩=some (.slice A0_5 l0_5.length c0_5):=(bc_ BK117.out 5).trans rfl;have hfz10_0:=bf_ BK117.out 0;have hfz10_1:=bf_ BK117.out 1;have hfz10_2:=bf_ BK117.out 2;have hfz10_3:=bf_ BK117.out 3;have hfz10_4:=bf_ BK117.out 4;have hfz10_5:=bf_ BK117.out 5)|((with_reducible refine gate_callee (f:=20) rfl ?_);refine goesL_ (some 9) rfl rfl Tryz.func20 (by kernel_rfl) rfl #[.string a0_2] rfl (by (try simp only [List.map_toArray,List.map_cons,List.map_nil]);first|done|rfl|(simp only [ld_,lt_];rfl)) ?_;(with_reducible refine (spec_l01Tag.calls k a0_2 true _ A3.out).mono ?_);rintro e w' ⟨rfl,⟨nd,rfl⟩⟩;refine ⟨_,rfl,?_⟩)|(go_at_call 21;(with_reducible refine (spec_l01In.calls a0_1 0 2 true _ A5.out).mono ?_);rintro e w' ⟨rfl,⟨nd,rfl⟩⟩)|(go_at_call 22;(with_reducible refine (spec_l03Attrs.calls k _ _ l0_4 t120 _ ?side1 ?side2 A8.out).mono ?_);(case side1=>repeat (first|exact (cb_ HR0_4.out (by repeat (first|(with_reducible first|exact HB.out|apply ba_|apply pd_|apply b1_|refine bs_ ?_ GE117.out)|exact HB.out)))|(with_reducible refine ca_ ?_ _)|(with_reducible refine cn_ ?_ _)|(with_reducible refine cd_ ?_)));(case side2=>exact HC0_4.out);rintro e w' ⟨rfl,⟨nd,rfl⟩⟩))
     go_ret
     exact ⟨by first|rfl|(simp [errW_none,errW_some] <;> rfl)|(simp [*,errW_none,errW_some] <;> rfl),by repeat (first|(with_reducible first|exact HB.out|apply ba_|apply pd_|apply b1_|refine bs_ ?_ GE117.out)|exact HB.out)⟩
    ·rw [if_neg c7] at H
     have c7b0:(a0_3.toList == ([]:List UInt8))=false:=beq_eq_false_iff_ne.mpr c7
     have c7b1:(a0_3.toList != ([]:List UInt8))=true:=bne_iff_ne.mpr c7
     obtain rfl:=oi_ H
     go_enter Tryz.func11,Tryz.ntmps11
     go_wp2_with (first|((with_reducible refine gate_dst (N:=1) rfl ?_);(try (refine gate_guard (by rfl) ?_;dsimp only));refine box_event ?hg (N:=1) ?hd (cs:=#[.int .i64 a0_0,.int .i64 a0_1,.string a0_2,.string a0_3,.slice A0_4 l0_4.length c0_4,.slice A0_5 l0_5.length c0_5]) (t:=32) ?hr ?_;(case hd=>rfl);(case hg=>rfl);(case hr=>first|(go_simp;done)|(go_simp;rfl));intro gb117 hg w11 hbox hb;have n0_:=A_ (bp_ (by repeat (first|(with_reducible first|exact HB.out|apply ba_|apply pd_|apply b1_)|exact HB.out)) hb);have n1_:=A_ (hbox);have n2_:=A_ ((by rw [hg];exact (bz_ (by repeat (first|(with_reducible first|exact HB.out|apply ba_|apply pd_|apply b1_)|exact HB.out))):w.heap.size≤gb117));have n3_:=A_ ((by rw [hg];exact (bz_ (by repeat (first|(with_reducible first|exact HB.out|apply ba_|apply pd_|apply b1_)|exact HB.out))):w.heap.size≤gb117));clear HB;have HB:=n0_;have BK117:=n1_;have GW117:=n2_;have GE117:=n3_;clear n0_ n1_ n2_ n3_;clear hb hbox hg;have hcz12_0:w11.cell? ⟨gb117,0,none⟩=some (.int .i64 a0_0):=(bc_ BK117.out 0).trans rfl;have hcz12_1:w11.cell? ⟨gb117,1,none⟩=some (.int .i64 a0_1):=(bc_ BK117.out 1).trans rfl;have hcz12_2:w11.cell? ⟨gb117,2,none⟩=some (.string a0_2):=(bc_ BK117.out 2).trans rfl;have hcz12_3:w11.cell? ⟨gb117,3,none⟩=some (.string a0_3):=(bc_ BK117.out 3).trans rfl;have hcz12_4:w11.cell? ⟨gb117,4,none⟩=some (.slice A0_4 l0_4.length c0_4):=(bc_ BK117.out 4).trans rfl;have hcz12_5:w11.cell? ⟨gb117,5,none⟩=some (.slice A0_5 l0_5.length c0_5):=(bc_ BK117.out 5).trans rfl;have hfz12_0:=bf_ BK117.out 0;have hfz12_1:=bf_ BK117.out 1;have hfz12_2:=bf_ BK117.out 2;have hfz12_3:=bf_ BK117.out 3;have hfz12_4:=bf_ BK117.out 4;have hfz12_5:=bf_ BK117.out 5)|((with_reducible refine gate_callee (f:=20) rfl ?_);refine goesL_ (some 9) rfl rfl Tryz.func20 (by kernel_rfl) rfl #[.string a0_2] rfl (by (try simp only [List.map_toArray,List.map_cons,List.map_nil]);first|done|rfl|(simp only [ld_,lt_];rfl)) ?_;(with_reducible refine (spec_l01Tag.calls k a0_2 true _ A3.out).mono ?_);rintro e w' ⟨rfl,⟨nd,rfl⟩⟩;refine ⟨_,rfl,?_⟩)|(go_at_call 21;(with_reducible refine (spec_l01In.calls a0_1 0 2 true _ A5.out).mono ?_);rintro e w' ⟨rfl,⟨nd,rfl⟩⟩))
     go_ret
     exact ⟨by first|rfl|(simp [errW_none,errW_some] <;> rfl)|(simp [*,errW_none,errW_some] <;> rfl),by repeat (first|(with_reducible first|exact HB.out|apply ba_|apply pd_|apply b1_|refine bs_ ?_ GE117.out)|exact HB.out)⟩
   ·replace c6:=bm_ c6
    subst c6
    have H1:(some false)=some r:=by rw [if_neg (show ¬ (false=true) by decide)] at H;exact H
    clear H
    have H:=H1
    clear H1
    obtain rfl:=oi_ H
    go_enter Tryz.func11,Tryz.ntmps11
    go_wp2_with (first|((with_reducible refine gate_dst (N:=1) rfl ?_);(try (refine gate_guard (by rfl) ?_;dsimp only));refine box_event ?hg (N:=1) ?hd (cs:=#[.int .i64 a0_0,.int .i64 a0_1,.string a0_2,.string a0_3,.slice A0_4 l0_4.length c0_4,.slice A0_5 l0_5.length c0_5]) (t:=32) ?hr ?_;(case hd=>rfl);(case hg=>rfl);(case hr=>first|(go_simp;done)|(go_simp;rfl));intro gb117 hg w13 hbox hb;have n0_:=A_ (bp_ (by repeat (first|(with_reducible first|exact HB.out|apply ba_|apply pd_|apply b1_)|exact HB.out)) hb);have n1_:=A_ (hbox);have n2_:=A_ ((by rw [hg];exact (bz_ (by repeat (first|(with_reducible first|exact HB.out|apply ba_|apply pd_|apply b1_)|exact HB.out))):w.heap.size≤gb117));have n3_:=A_ ((by rw [hg];exact (bz_ (by repeat (first|(with_reducible first|exact HB.out|apply ba_|apply pd_|apply b1_)|exact HB.out))):w.heap.size≤gb117));clear HB;have HB:=n0_;have BK117:=n1_;have GW117:=n2_;have GE117:=n3_;clear n0_ n1_ n2_ n3_;clear hb hbox hg;have hcz14_0:w13.cell? ⟨gb117,0,none⟩=some (.int .i64 a0_0):=(bc_ BK117.out 0).trans rfl;have hcz14_1:w13.cell? ⟨gb117,1,none⟩=some (.int .i64 a0_1):=(bc_ BK117.out 1).trans rfl;have hcz14_2:w13.cell? ⟨gb117,2,none⟩=some (.string a0_2):=(bc_ BK117.out 2).trans rfl;have hcz14_3:w13.cell? ⟨gb117,3,none⟩=some (.string a0_3):=(bc_ BK117.out 3).trans rfl;have hcz14_4:w13.cell? ⟨gb117,4,none⟩=some (.slice A0_4 l0_4.length c0_4):=(bc_ BK117.out 4).trans rfl;have hcz14_5:w13.cell? ⟨gb117,5,none⟩=some (.slice A0_5 l0_5.length c0_5):=(bc_ BK117.out 5).trans rfl;have hfz14_0:=bf_ BK117.out 0;have hfz14_1:=bf_ BK117.out 1;have hfz14_2:=bf_ BK117.out 2;have hfz14_3:=bf_ BK117.out 3;have hfz14_4:=bf_ BK117.out 4;have hfz14_5:=bf_ BK117.out 5)|((with_reducible refine gate_callee (f:=20) rfl ?_);refine goesL_ (some 9) rfl rfl Tryz.func20 (by kernel_rfl) rfl #[.string a0_2] rfl (by (try simp only [List.map_toArray,List.map_cons,List.map_nil]);first|done|rfl|(simp only [ld_,lt_];rfl)) ?_;(with_reducible refine (spec_l01Tag.calls k a0_2 true _ A3.out).mono ?_);rintro e w' ⟨rfl,⟨nd,rfl⟩⟩;refine ⟨_,rfl,?_⟩)|(go_at_call 21;(with_reducible refine (spec_l01In.calls a0_1 0 2 false _ A5.out).mono ?_);rintro e w' ⟨rfl,⟨nd,rfl⟩⟩))
    go_ret
    exact ⟨by first|rfl|(simp [errW_none,errW_some] <;> rfl)|(simp [*,errW_none,errW_some] <;> rfl),by repeat (first|(with_reducible first|exact HB.out|apply ba_|apply pd_|apply b1_|refine bs_ ?_ GE117.out)|exact HB.out)⟩
  ·replace c4:=bm_ c4
   subst c4
   have H1:(some false)=some r:=by rw [if_neg (show ¬ (false=true) by decide)] at H;exact H
   clear H
   have H:=H1
   clear H1
   obtain rfl:=oi_ H
   go_enter Tryz.func11,Tryz.ntmps11
   go_wp2_with (first|((with_reducible refine gate_dst (N:=1) rfl ?_);(try (refine gate_guard (by rfl) ?_;dsimp only));refine box_event ?hg (N:=1) ?hd (cs:=#[.int .i64 a0_0,.int .i64 a0_1,.string a0_2,.string a0_3,.slice A0_4 l0_4.length c0_4,.slice A0_5 l0_5.length c0_5]) (t:=32) ?hr ?_;(case hd=>rfl);(case hg=>rfl);(case hr=>first|(go_simp;done)|(go_simp;rfl));intro gb117 hg w15 hbox hb;have n0_:=A_ (bp_ (by repeat (first|(with_reducible first|exact HB.out|apply ba_|apply pd_|apply b1_)|exact HB.out)) hb);have n1_:=A_ (hbox);have n2_:=A_ ((by rw [hg];exact (bz_ (by repeat (first|(with_reducible first|exact HB.out|apply ba_|apply pd_|apply b1_)|exact HB.out))):w.heap.size≤gb117));have n3_:=A_ ((by rw [hg];exact (bz_ (by repeat (first|(with_reducible first|exact HB.out|apply ba_|apply pd_|apply b1_)|exact HB.out))):w.heap.size≤gb117));clear HB;have HB:=n0_;have BK117:=n1_;have GW117:=n2_;have GE117:=n3_;clear n0_ n1_ n2_ n3_;clear hb hbox hg;have hcz16_0:w15.cell? ⟨gb117,0,none⟩=some (.int .i64 a0_0):=(bc_ BK117.out 0).trans rfl;have hcz16_1:w15.cell? ⟨gb117,1,none⟩=some (.int .i64 a0_1):=(bc_ BK117.out 1).trans rfl;have hcz16_2:w15.cell? ⟨gb117,2,none⟩=some (.string a0_2):=(bc_ BK117.out 2).trans rfl;have hcz16_3:w15.cell? ⟨gb117,3,none⟩=some (.string a0_3):=(bc_ BK117.out 3).trans rfl;have hcz16_4:w15.cell? ⟨gb117,4,none⟩=some (.slice A0_4 l0_4.length c0_4):=(bc_ BK117.out 4).trans rfl;have hcz16_5:w15.cell? ⟨gb117,5,none⟩=some (.slice A0_5 l0_5.length c0_5):=(bc_ BK117.out 5).trans rfl;have hfz16_0:=bf_ BK117.out 0;have hfz16_1:=bf_ BK117.out 1;have hfz16_2:=bf_ BK117.out 2;have hfz16_3:=bf_ BK117.out 3;have hfz16_4:=bf_ BK117.out 4;have hfz16_5:=bf_ BK117.out 5)|((with_reducible refine gate_callee (f:=20) rfl ?_);refine goesL_ (some 9) rfl rfl Tryz.func20 (by kernel_rfl) rfl #[.string a0_2] rfl (by (try simp only [List.map_toArray,List.map_cons,List.map_nil]);first|done|rfl|(simp only [ld_,lt_];rfl)) ?_;(with_reducible refine (spec_l01Tag.calls k a0_2 false _ A3.out).mono ?_);rintro e w' ⟨rfl,⟨nd,rfl⟩⟩;refine ⟨_,rfl,?_⟩))
   go_ret
   exact ⟨by first|rfl|(simp [errW_none,errW_some] <;> rfl)|(simp [*,errW_none,errW_some] <;> rfl),by repeat (first|(with_reducible first|exact HB.out|apply ba_|apply pd_|apply b1_|refine bs_ ?_ GE117.out)|exact HB.out)⟩
 ·rw [if_neg c2] at H
  have c2b0:(a0_0 == 1)=false:=beq_eq_false_iff_ne.mpr c2
  have c2b1:(a0_0 != 1)=true:=bne_iff_ne.mpr c2
  by_cases c17:a0_0=2
  ·rw [if_pos c17] at H
   have c17b0:(a0_0 == 2)=true:=beq_iff_eq.mpr c17
   have c17b1:(a0_0 != 2)=false:=bne_eq_false_iff_eq.mpr c17
   clear c17
   by_cases c18:a0_2.toList=([]:List UInt8)
   ·rw [if_pos c18] at H
    have c18b0:(a0_2.toList == ([]:List UInt8))=true:=beq_iff_eq.mpr c18
    have c18b1:(a0_2.toList != ([]:List UInt8))=false:=bne_eq_false_iff_eq.mpr c18
    clear c18
    by_cases c19:a0_1=0
    ·rw [if_pos c19] at H
     have c19b0:(a0_1 == 0)=true:=beq_iff_eq.mpr c19
     have c19b1:(a0_1 != 0)=false:=bne_eq_false_iff_eq.mpr c19
     clear c19
     replace H:=ob_ H
     obtain ⟨t121,A200,H⟩:=H
     replace H:(if t121=true then (if (l0_4.length:Int)=0 then (some ((l0_5.length:Int) == 0)) else (some false)) else (some false))=some r:=H
     have A20:=A_ A200
     clear A200
     by_cases c21:t121=true
     ·subst c21
      have H1:(if (l0_4.length:Int)=0 then (some ((l0_5.length:Int) == 0)) else (some false))=some r:=by rw [if_pos rfl] at H;exact H
      clear H
      have H:=H1
      clear H1
      by_cases c22:(l0_4.length:Int)=0
      ·rw [if_pos c22] at H
       have c22b0:((l0_4.length:Int) == 0)=true:=beq_iff_eq.mpr c22
       have c22b1:((l0_4.length:Int) != 0)=false:=bne_eq_false_iff_eq.mpr c22
       clear c22
       obtain rfl:=oi_ H
       go_enter Tryz.func11,Tryz.ntmps11
       go_wp2_with (first|((with_reducible refine gate_dst (N:=1) rfl ?_);(try (refine gate_guard (by rfl) ?_;dsimp only));refine box_event ?hg (N:=1) ?hd (cs:=#[.int .i64 a0_0,.int .i64 a0_1,.string a0_2,.string a0_3,.slice A0_4 l0_4.length c0_4,.slice A0_5 l0_5.length c0_5]) (t:=32) ?hr ?_;(case hd=>rfl);(case hg=>rfl);(case hr=>first|(go_simp;done)|(go_simp;rfl));intro gb117 hg w23 hbox hb;have n0_:=A_ (bp_ (by repeat (first|(with_reducible first|exact HB.out|apply ba_|apply pd_|apply b1_)|exact HB.out)) hb);have n1_:=A_ (hbox);have n2_:=A_ ((by rw [hg];exact (bz_ (by repeat (first|(with_reducible first|exact HB.out|apply ba_|apply pd_|apply b1_)|exact HB.out))):w.heap.size≤gb117));have n3_:=A_ ((by rw [hg];exact (bz_ (by repeat (first|(with_reducible first|exact HB.out|apply ba_|apply pd_|apply b1_)|exact HB.out))):w.heap.size≤gb117));clear HB;have HB:=n0_;have BK117:=n1_;have GW117:=n2_;have GE117:=n3_;clear n0_ n1_ n2_ n3_;clear hb hbox hg;have hcz24_0:w23.cell? ⟨gb117,0,none⟩=some (.int .i64 a0_0):=(bc_ BK117.out 0).trans rfl;have hcz24_1:w23.cell? ⟨gb117,1,none⟩=some (.int .i64 a0_1):=(bc_ BK117.out 1).trans rfl;have hcz24_2:w23.cell? ⟨gb117,2,none⟩=some (.string a0_2):=(bc_ BK117.out 2).trans rfl;have hcz24_3:w23.cell? ⟨gb117,3,none⟩=some (.string a0_3):=(bc_ BK117.out 3).trans rfl;have hcz24_4:w23.cell? ⟨gb117,4,none⟩=some (.slice A0_4 l0_4.length c0_4):=(bc_ BK117.out 4).trans rfl;have hcz24_5:w23.cell? ⟨gb117,5,none⟩=some (.slice A0_5 l0_5.length c0_5):=(bc_ BK117.out 5).trans rfl;have hfz24_0:=bf_ BK117.out 0;have hfz24_1:=bf_ BK117.out 1;have hfz24_2:=bf_ BK117.out 2;have hfz24_3:=bf_ BK117.out 3;have hfz24_4:=bf_ BK117.out 4;have hfz24_5:=bf_ BK117.out 5)|(go_at_call 21;(with_reducible refine (spec_l01In.calls (a0_3.size:Int) 1 120 true _ A20.out).mono ?_);rintro e w' ⟨rfl,⟨nd,rfl⟩⟩))
       go_ret
       exact ⟨by first|rfl|(simp [errW_none,errW_some] <;> rfl)|(simp [*,errW_none,errW_some] <;> rfl),by repeat (first|(with_reducible first|exact HB.out|apply ba_|apply pd_|apply b1_|refine bs_ ?_ GE117.out)|exact HB.out)⟩
      ·rw [if_neg c22] at H
       have c22b0:((l0_4.length:Int) == 0)=false:=beq_eq_false_iff_ne.mpr c22
       have c22b1:((l0_4.length:Int) != 0)=true:=bne_iff_ne.mpr c22
       have c22b2:¬ (l0_4=[]):=fun h_=>c22 (by rw [h_];rfl)
       obtain rfl:=oi_ H
       go_enter Tryz.func11,Tryz.ntmps11
       go_wp2_with (first|((with_reducible refine gate_dst (N:=1) rfl ?_);(try (refine gate_guard (by rfl) ?_;dsimp only));refine box_event ?hg (N:=1) ?hd (cs:=#[.int .i64 a0_0,.int .i64 a0_1,.string a0_2,.string a0_3,.slice A0_4 l0_4.length c0_4,.slice A0_5 l0_5.length c0_5]) (t:=32) ?hr ?_;(case hd=>rfl);(case hg=>rfl);(case hr=>first|(go_simp;done)|(go_simp;rfl));intro gb117 hg w25 hbox hb;have n0_:=A_ (bp_ (by repeat (first|(with_reducible first|exact HB.out|apply ba_|apply pd_|apply b1_)|exact HB.out)) hb);have n1_:=A_ (hbox);have n2_:=A_ ((by rw [hg];exact (bz_ (by repeat (first|(with_reducible first|exact HB.out|apply ba_|apply pd_|apply b1_)|exact HB.out))):w.heap.size≤gb117));have n3_:=A_ ((by rw [hg];exact (bz_ (by repeat (first|(with_reducible first|exact HB.out|apply ba_|apply pd_|apply b1_)|exact HB.out))):w.heap.size≤gb117));clear HB;have HB:=n0_;have BK117:=n1_;have GW117:=n2_;have GE117:=n3_;clear n0_ n1_ n2_ n3_;clear hb hbox hg;have hcz26_0:w25.cell? ⟨gb117,0,none⟩=some (.int .i64 a0_0):=(bc_ BK117.out 0).trans rfl;have hcz26_1:w25.cell? ⟨gb117,1,none⟩=some (.int .i64 a0_1):=(bc_ BK117.out 1).trans rfl;have hcz26_2:w25.cell? ⟨gb117,2,none⟩=some (.string a0_2):=(bc_ BK117.out 2).trans rfl;have hcz26_3:w25.cell? ⟨gb117,3,none⟩=some (.string a0_3):=(bc_ BK117.out 3).trans rfl;have hcz26_4:w25.cell? ⟨gb117,4,none⟩=some (.slice A0_4 l0_4.length c0_4):=(bc_ BK117.out 4).trans rfl;have hcz26_5:w25.cell? ⟨gb117,5,none⟩=some (.slice A0_5 l0_5.length c0_5):=(bc_ BK117.out 5).trans rfl;have hfz26_0:=bf_ BK117.out 0;have hfz26_1:=bf_ BK117.out 1;have hfz26_2:=bf_ BK117.out 2;have hfz26_3:=bf_ BK117.out 3;have hfz26_4:=bf_ BK117.out 4;have hfz26_5:=bf_ BK117.out 5)|(go_at_call 21;(with_reducible refine (spec_l01In.calls (a0_3.size:Int) 1 120 true _ A20.out).mono ?_);rintro e w' ⟨rfl,⟨nd,rfl⟩⟩))
       go_ret
       exact ⟨by first|rfl|(simp [errW_none,errW_some] <;> rfl)|(simp [*,errW_none,errW_some] <;> rfl),by repeat (first|(with_reducible first|exact HB.out|apply ba_|apply pd_|apply b1_|refine bs_ ?_ GE117.out)|exact HB.out)⟩
     ·replace c21:=bm_ c21
      subst c21
      have H1:(some false)=some r:=by rw [if_neg (show ¬ (false=true) by decide)] at H;exact H
      clear H
      have H:=H1
      clear H1
      obtain rfl:=oi_ H
      go_enter Tryz.func11,Tryz.ntmps11
      go_wp2_with (first|((with_reducible refine gate_dst (N:=1) rfl ?_);(try (refine gate_guard (by rfl) ?_;dsimp only));refine box_event ?hg (N:=1) ?hd (cs:=#[.int .i64 a0_0,.int .i64 a0_1,.string a0_2,.string a0_3,.slice A0_4 l0_4.length c0_4,.slice A0_5 l0_5.length c0_5]) (t:=32) ?hr ?_;(case hd=>rfl);(case hg=>rfl);(case hr=>first|(go_simp;done)|(go_simp;rfl));intro gb117 hg w27 hbox hb;have n0_:=A_ (bp_ (by repeat (first|(with_reducible first|exact HB.out|apply ba_|apply pd_|apply b1_)|exact HB.out)) hb);have n1_:=A_ (hbox);have n2_:=A_ ((by rw [hg];exact (bz_ (by repeat (first|(with_reducible first|exact HB.out|apply ba_|apply pd_|apply b1_)|exact HB.out))):w.heap.size≤gb117));have n3_:=A_ ((by rw [hg];exact (bz_ (by repeat (first|(with_reducible first|exact HB.out|apply ba_|apply pd_|apply b1_)|exact HB.out))):w.heap.size≤gb117));clear HB;have HB:=n0_;have BK117:=n1_;have GW117:=n2_;have GE117:=n3_;clear n0_ n1_ n2_ n3_;clear hb hbox hg;have hcz28_0:w27.cell? ⟨gb117,0,none⟩=some (.int .i64 a0_0):=(bc_ BK117.out 0).trans rfl;have hcz28_1:w27.cell? ⟨gb117,1,none⟩=some (.int .i64 a0_1):=(bc_ BK117.out 1).trans rfl;have hcz28_2:w27.cell? ⟨gb117,2,none⟩=some (.string a0_2):=(bc_ BK117.out 2).trans rfl;have hcz28_3:w27.cell? ⟨gb117,3,none⟩=some (.string a0_3):=(bc_ BK117.out 3).trans rfl;have hcz28_4:w27.cell? ⟨gb117,4,none⟩=some (.slice A0_4 l0_4.length c0_4):=(bc_ BK117.out 4).trans rfl;have hcz28_5:w27.cell? ⟨gb117,5,none⟩=some (.slice A0_5 l0_5.length c0_5):=(bc_ BK117.out 5).trans rfl;have hfz28_0:=bf_ BK117.out 0;have hfz28_1:=bf_ BK117.out 1;have hfz28_2:=bf_ BK117.out 2;have hfz28_3:=bf_ BK117.out 3;have hfz28_4:=bf_ BK117.out 4;have hfz28_5:=bf_ BK117.out 5)|(go_at_call 21;(with_reducible refine (spec_l01In.calls (a0_3.size:Int) 1 120 false _ A20.out).mono ?_);rintro e w' ⟨rfl,⟨nd,rfl⟩⟩))
      go_ret
      exact ⟨by first|rfl|(simp [errW_none,errW_some] <;> rfl)|(simp [*,errW_none,errW_some] <;> rfl),by repeat (first|(with_reducible first|exact HB.out|apply ba_|apply pd_|apply b1_|refine bs_ ?_ GE117.out)|exact HB.out)⟩
    ·rw [if_neg c19] at H
     have c19b0:(a0_1 == 0)=false:=beq_eq_false_iff_ne.mpr c19
     have c19b1:(a0_1 != 0)=true:=bne_iff_ne.mpr c19
     obtain rfl:=oi_ H
     go_enter Tryz.func11,Tryz.ntmps11
     go_wp2_with (first|((with_reducible refine gate_dst (N:=1) rfl ?_);(try (refine gate_guard (by rfl) ?_;dsimp only));refine box_event ?hg (N:=1) ?hd (cs:=#[.int .i64 a0_0,.int .i64 a0_1,.string a0_2,.string a0_3,.slice A0_4 l0_4.length c0_4,.slice A0_5 l0_5.length c0_5]) (t:=32) ?hr ?_;(case hd=>rfl);(case hg=>rfl);(case hr=>first|(go_simp;done)|(go_simp;rfl));intro gb117 hg w29 hbox hb;have n0_:=A_ (bp_ (by repeat (first|(with_reducible first|exact HB.out|apply ba_|apply pd_|apply b1_)|exact HB.out)) hb);have n1_:=A_ (hbox);have n2_:=A_ ((by rw [hg];exact (bz_ (by repeat (first|(with_reducible first|exact HB.out|apply ba_|apply pd_|apply b1_)|exact HB.out))):w.heap.size≤gb117));have n3_:=A_ ((by rw [hg];exact (bz_ (by repeat (first|(with_reducible first|exact HB.out|apply ba_|apply pd_|apply b1_)|exact HB.out))):w.heap.size≤gb117));clear HB;have HB:=n0_;have BK117:=n1_;have GW117:=n2_;have GE117:=n3_;clear n0_ n1_ n2_ n3_;clear hb hbox hg;have hcz30_0:w29.cell? ⟨gb117,0,none⟩=some (.int .i64 a0_0):=(bc_ BK117.out 0).trans rfl;have hcz30_1:w29.cell? ⟨gb117,1,none⟩=some (.int .i64 a0_1):=(bc_ BK117.out 1).trans rfl;have hcz30_2:w29.cell? ⟨gb117,2,none⟩=some (.string a0_2):=(bc_ BK117.out 2).trans rfl;have hcz30_3:w29.cell? ⟨gb117,3,none⟩=some (.string a0_3):=(bc_ BK117.out 3).trans rfl;have hcz30_4:w29.cell? ⟨gb117,4,none⟩=some (.slice A0_4 l0_4.length c0_4):=(bc_ BK117.out 4).trans rfl;have hcz30_5:w29.cell? ⟨gb117,5,none⟩=some (.slice A0_5 l0_5.length c0_5):=(bc_ BK117.out 5).trans rfl;have hfz30_0:=bf_ BK117.out 0;have hfz30_1:=bf_ BK117.out 1;have hfz30_2:=bf_ BK117.out 2;have hfz30_3:=bf_ BK117.out 3;have hfz30_4:=bf_ BK117.out 4;have hfz30_5:=bf_ BK117.out 5))
     go_ret
     exact ⟨by first|rfl|(simp [errW_none,errW_some] <;> rfl)|(simp [*,errW_none,errW_some] <;> rfl),by repeat (first|(with_reducible first|exact HB.out|apply ba_|apply pd_|apply b1_|refine bs_ ?_ GE117.out)|exact HB.out)⟩
   ·rw [if_neg c18] at H
    have c18b0:(a0_2.toList == ([]:List UInt8))=false:=beq_eq_false_iff_ne.mpr c18
    have c18b1:(a0_2.toList != ([]:List UInt8))=true:=bne_iff_ne.mpr c18
    obtain rfl:=oi_ H
    go_enter Tryz.func11,Tryz.ntmps11
    go_wp2_with (first|((with_reducible refine gate_dst (N:=1) rfl ?_);(try (refine gate_guard (by rfl) ?_;dsimp only));refine box_event ?hg (N:=1) ?hd (cs:=#[.int .i64 a0_0,.int .i64 a0_1,.string a0_2,.string a0_3,.slice A0_4 l0_4.length c0_4,.slice A0_5 l0_5.length c0_5]) (t:=32) ?hr ?_;(case hd=>rfl);(case hg=>rfl);(case hr=>first|(go_simp;done)|(go_simp;rfl));intro gb117 hg w31 hbox hb;have n0_:=A_ (bp_ (by repeat (first|(with_reducible first|exact HB.out|apply ba_|apply pd_|apply b1_)|exact HB.out)) hb);have n1_:=A_ (hbox);have n2_:=A_ ((by rw [hg];exact (bz_ (by repeat (first|(with_reducible first|exact HB.out|apply ba_|apply pd_|apply b1_)|exact HB.out))):w.heap.size≤gb117));have n3_:=A_ ((by rw [hg];exact (bz_ (by repeat (first|(with_reducible first|exact HB.out|apply ba_|apply pd_|apply b1_)|exact HB.out))):w.heap.size≤gb117));clear HB;have HB:=n0_;have BK117:=n1_;have GW117:=n2_;have GE117:=n3_;clear n0_ n1_ n2_ n3_;clear hb hbox hg;have hcz32_0:w31.cell? ⟨gb117,0,none⟩=some (.int .i64 a0_0):=(bc_ BK117.out 0).trans rfl;have hcz32_1:w31.cell? ⟨gb117,1,none⟩=some (.int .i64 a0_1):=(bc_ BK117.out 1).trans rfl;have hcz32_2:w31.cell? ⟨gb117,2,none⟩=some (.string a0_2):=(bc_ BK117.out 2).trans rfl;have hcz32_3:w31.cell? ⟨gb117,3,none⟩=some (.string a0_3):=(bc_ BK117.out 3).trans rfl;have hcz32_4:w31.cell? ⟨gb117,4,none⟩=some (.slice A0_4 l0_4.length c0_4):=(bc_ BK117.out 4).trans rfl;have hcz32_5:w31.cell? ⟨gb117,5,none⟩=some (.slice A0_5 l0_5.length c0_5):=(bc_ BK117.out 5).trans rfl;have hfz32_0:=bf_ BK117.out 0;have hfz32_1:=bf_ BK117.out 1;have hfz32_2:=bf_ BK117.out 2;have hfz32_3:=bf_ BK117.out 3;have hfz32_4:=bf_ BK117.out 4;have hfz32_5:=bf_ BK117.out 5))
    go_ret
    exact ⟨by first|rfl|(simp [errW_none,errW_some] <;> rfl)|(simp [*,errW_none,errW_some] <;> rfl),by repeat (first|(with_reducible first|exact HB.out|apply ba_|apply pd_|apply b1_|refine bs_ ?_ GE117.out)|exact HB.out)⟩
  ·rw [if_neg c17] at H
   have c17b0:(a0_0 == 2)=false:=beq_eq_false_iff_ne.mpr c17
   have c17b1:(a0_0 != 2)=true:=bne_iff_ne.mpr c17
   by_cases c33:a0_0=3
   ·rw [if_pos c33] at H
    have c33b0:(a0_0 == 3)=true:=beq_iff_eq.mpr c33
    have c33b1:(a0_0 != 3)=false:=bne_eq_false_iff_eq.mpr c33
    clear c33
    by_cases c34:a0_2.toList=([]:List UInt8)
    ·rw [if_pos c34] at H
     have c34b0:(a0_2.toList == ([]:List UInt8))=true:=beq_iff_eq.mpr c34
     have c34b1:(a0_2.toList != ([]:List UInt8))=false:=bne_eq_false_iff_eq.mpr c34
     clear c34
     by_cases c35:a0_1=0
     ·rw [if_pos c35] at H
      have c35b0:(a0_1 == 0)=true:=beq_iff_eq.mpr c35
      have c35b1:(a0_1 != 0)=false:=bne_eq_false_iff_eq.mpr c35
      clear c35
      by_cases c36:(a0_3.size:Int)≤120
      ·rw [if_pos c36] at H
       have c36b0:decide ((a0_3.size:Int)≤120)=true:=dt_ c36
       have c36b1:decide (a0_3.size≤120)=true:=dt_ (by omega)
       clear c36
       by_cases c37:(l0_4.length:Int)=0
       ·rw [if_pos c37] at H
        have c37b0:((l0_4.length:Int) == 0)=true:=beq_iff_eq.mpr c37
        have c37b1:((l0_4.length:Int) != 0)=false:=bne_eq_false_iff_eq.mpr c37
        clear c37
        obtain rfl:=oi_ H
        go_enter Tryz.func11,Tryz.ntmps11
        go_wp2_with (first|((with_reducible refine gate_dst (N:=1) rfl ?_);(try (refine gate_guard (by rfl) ?_;dsimp only));refine box_event ?hg (N:=1) ?hd (cs:=#[.int .i64 a0_0,.int .i64 a0_1,.string a0_2,.string a0_3,.slice A0_4 l0_4.length c0_4,.slice A0_5 l0_5.length c0_5]) (t:=32) ?hr ?_;(case hd=>rfl);(case hg=>rfl);(case hr=>first|(go_simp;done)|(go_simp;rfl));intro gb117 hg w38 hbox hb;have n0_:=A_ (bp_ (by repeat (first|(with_reducible first|exact HB.out|apply ba_|apply pd_|apply b1_)|exact HB.out)) hb);have n1_:=A_ (hbox);have n2_:=A_ ((by rw [hg];exact (bz_ (by repeat (first|(with_reducible first|exact HB.out|apply ba_|apply pd_|apply b1_)|exact HB.out))):w.heap.size≤gb117));have n3_:=A_ ((by rw [hg];exact (bz_ (by repeat (first|(with_reducible first|exact HB.out|apply ba_|apply pd_|apply b1_)|exact HB.out))):w.heap.size≤gb117));clear HB;have HB:=n0_;have BK117:=n1_;have GW117:=n2_;have GE117:=n3_;clear n0_ n1_ n2_ n3_;clear hb hbox hg;have hcz39_0:w38.cell? ⟨gb117,0,none⟩=some (.int .i64 a0_0):=(bc_ BK117.out 0).trans rfl;have hcz39_1:w38.cell? ⟨gb117,1,none⟩=some (.int .i64 a0_1):=(bc_ BK117.out 1).trans rfl;have hcz39_2:w38.cell? ⟨gb117,2,none⟩=some (.string a0_2):=(bc_ BK117.out 2).trans rfl;have hcz39_3:w38.cell? ⟨gb117,3,none⟩=some (.string a0_3):=(bc_ BK117.out 3).trans rfl;have hcz39_4:w38.cell? ⟨gb117,4,none⟩=some (.slice A0_4 l0_4.length c0_4):=(bc_ BK117.out 4).trans rfl;have hcz39_5:w38.cell? ⟨gb117,5,none⟩=some (.slice A0_5 l0_5.length c0_5):=(bc_ BK117.out 5).trans rfl;have hfz39_0:=bf_ BK117.out 0;have hfz39_1:=bf_ BK117.out 1;have hfz39_2:=bf_ BK117.out 2;have hfz39_3:=bf_ BK117.out 3;have hfz39_4:=bf_ BK117.out 4;have hfz39_5:=bf_ BK117.out 5))
        go_ret
        exact ⟨by first|rfl|(simp [errW_none,errW_some] <;> rfl)|(simp [*,errW_none,errW_some] <;> rfl),by repeat (first|(with_reducible first|exact HB.out|apply ba_|apply pd_|apply b1_|refine bs_ ?_ GE117.out)|exact HB.out)⟩
       ·rw [if_neg c37] at H
        have c37b0:((l0_4.length:Int) == 0)=false:=beq_eq_false_iff_ne.mpr c37
        have c37b1:((l0_4.length:Int) != 0)=true:=bne_iff_ne.mpr c37
        have c37b2:¬ (l0_4=[]):=fun h_=>c37 (by rw [h_];rfl)
        obtain rfl:=oi_ H
        go_enter Tryz.func11,Tryz.ntmps11
        go_wp2_with (first|((with_reducible refine gate_dst (N:=1) rfl ?_);(try (refine gate_guard (by rfl) ?_;dsimp only));refine box_event ?hg (N:=1) ?hd (cs:=#[.int .i64 a0_0,.int .i64 a0_1,.string a0_2,.string a0_3,.slice A0_4 l0_4.length c0_4,.slice A0_5 l0_5.length c0_5]) (t:=32) ?hr ?_;(case hd=>rfl);(case hg=>rfl);(case hr=>first|(go_simp;done)|(go_simp;rfl));intro gb117 hg w40 hbox hb;have n0_:=A_ (bp_ (by repeat (first|(with_reducible first|exact HB.out|apply ba_|apply pd_|apply b1_)|exact HB.out)) hb);have n1_:=A_ (hbox);have n2_:=A_ ((by rw [hg];exact (bz_ (by repeat (first|(with_reducible first|exact HB.out|apply ba_|apply pd_|apply b1_)|exact HB.out))):w.heap.size≤gb117));have n3_:=A_ ((by rw [hg];exact (bz_ (by repeat (first|(with_reducible first|exact HB.out|apply ba_|apply pd_|apply b1_)|exact HB.out))):w.heap.size≤gb117));clear HB;have HB:=n0_;have BK117:=n1_;have GW117:=n2_;have GE117:=n3_;clear n0_ n1_ n2_ n3_;clear hb hbox hg;have hcz41_0:w40.cell? ⟨gb117,0,none⟩=some (.int .i64 a0_0):=(bc_ BK117.out 0).trans rfl;have hcz41_1:w40.cell? ⟨gb117,1,none⟩=some (.int .i64 a0_1):=(bc_ BK117.out 1).trans rfl;have hcz41_2:w40.cell? ⟨gb117,2,none⟩=some (.string a0_2):=(bc_ BK117.out 2).trans rfl;have hcz41_3:w40.cell? ⟨gb117,3,none⟩=some (.string a0_3):=(bc_ BK117.out 3).trans rfl;have hcz41_4:w40.cell? ⟨gb117,4,none⟩=some (.slice A0_4 l0_4.length c0_4):=(bc_ BK117.out 4).trans rfl;have hcz41_5:w40.cell? ⟨gb117,5,none⟩=some (.slice A0_5 l0_5.length c0_5):=(bc_ BK117.out 5).trans rfl;have hfz41_0:=bf_ BK117.out 0;have hfz41_1:=bf_ BK117.out 1;have hfz41_2:=bf_ BK117.out 2;have hfz41_3:=bf_ BK117.out 3;have hfz41_4:=bf_ BK117.out 4;have hfz41_5:=bf_ BK117.out 5))
        go_ret
        exact ⟨by first|rfl|(simp [errW_none,errW_some] <;> rfl)|(simp [*,errW_none,errW_some] <;> rfl),by repeat (first|(with_reducible first|exact HB.out|apply ba_|apply pd_|apply b1_|refine bs_ ?_ GE117.out)|exact HB.out)⟩
      ·rw [if_neg c36] at H
       have c36b0:decide ((a0_3.size:Int)≤120)=false:=df_ c36
       have c36b1:decide (a0_3.size≤120)=false:=df_ (by omega)
       clear c36
       obtain rfl:=oi_ H
       go_enter Tryz.func11,Tryz.ntmps11
       go_wp2_with (first|((with_reducible refine gate_dst (N:=1) rfl ?_);(try (refine gate_guard (by rfl) ?_;dsimp only));refine box_event ?hg (N:=1) ?hd (cs:=#[.int .i64 a0_0,.int .i64 a0_1,.string a0_2,.string a0_3,.slice A0_4 l0_4.length c0_4,.slice A0_5 l0_5.length c0_5]) (t:=32) ?hr ?_;(case hd=>rfl);(case hg=>rfl);(case hr=>first|(go_simp;done)|(go_simp;rfl));intro gb117 hg w42 hbox hb;have n0_:=A_ (bp_ (by repeat (first|(with_reducible first|exact HB.out|apply ba_|apply pd_|apply b1_)|exact HB.out)) hb);have n1_:=A_ (hbox);have n2_:=A_ ((by rw [hg];exact (bz_ (by repeat (first|(with_reducible first|exact HB.out|apply ba_|apply pd_|apply b1_)|exact HB.out))):w.heap.size≤gb117));have n3_:=A_ ((by rw [hg];exact (bz_ (by repeat (first|(with_reducible first|exact HB.out|apply ba_|apply pd_|apply b1_)|exact HB.out))):w.heap.size≤gb117));clear HB;have HB:=n0_;have BK117:=n1_;have GW117:=n2_;have GE117:=n3_;clear n0_ n1_ n2_ n3_;clear hb hbox hg;have hcz43_0:w42.cell? ⟨gb117,0,none⟩=some (.int .i64 a0_0):=(bc_ BK117.out 0).trans rfl;have hcz43_1:w42.cell? ⟨gb117,1,none⟩=some (.int .i64 a0_1):=(bc_ BK117.out 1).trans rfl;have hcz43_2:w42.cell? ⟨gb117,2,none⟩=some (.string a0_2):=(bc_ BK117.out 2).trans rfl;have hcz43_3:w42.cell? ⟨gb117,3,none⟩=some (.string a0_3):=(bc_ BK117.out 3).trans rfl;have hcz43_4:w42.cell? ⟨gb117,4,none⟩=some (.slice A0_4 l0_4.length c0_4):=(bc_ BK117.out 4).trans rfl;have hcz43_5:w42.cell? ⟨gb117,5,none⟩=some (.slice A0_5 l0_5.length c0_5):=(bc_ BK117.out 5).trans rfl;have hfz43_0:=bf_ BK117.out 0;have hfz43_1:=bf_ BK117.out 1;have hfz43_2:=bf_ BK117.out 2;have hfz43_3:=bf_ BK117.out 3;have hfz43_4:=bf_ BK117.out 4;have hfz43_5:=bf_ BK117.out 5))
       go_ret
       exact ⟨by first|rfl|(simp [errW_none,errW_some] <;> rfl)|(simp [*,errW_none,errW_some] <;> rfl),by repeat (first|(with_reducible first|exact HB.out|apply ba_|apply pd_|apply b1_|refine bs_ ?_ GE117.out)|exact HB.out)⟩
     ·rw [if_neg c35] at H
      have c35b0:(a0_1 == 0)=false:=beq_eq_false_iff_ne.mpr c35
      have c35b1:(a0_1 != 0)=true:=bne_iff_ne.mpr c35
      obtain rfl:=oi_ H
      go_enter Tryz.func11,Tryz.ntmps11
      go_wp2_with (first|((with_reducible refine gate_dst (N:=1) rfl ?_);(try (refine gate_guard (by rfl) ?_;dsimp only));refine box_event ?hg (N:=1) ?hd (cs:=#[.int .i64 a0_0,.int .i64 a0_1,.string a0_2,.string a0_3,.slice A0_4 l0_4.length c0_4,.slice A0_5 l0_5.length c0_5]) (t:=32) ?hr ?_;(case hd=>rfl);(case hg=>rfl);(case hr=>first|(go_simp;done)|(go_simp;rfl));intro gb117 hg w44 hbox hb;have n0_:=A_ (bp_ (by repeat (first|(with_reducible first|exact HB.out|apply ba_|apply pd_|apply b1_)|exact HB.out)) hb);have n1_:=A_ (hbox);have n2_:=A_ ((by rw [hg];exact (bz_ (by repeat (first|(with_reducible first|exact HB.out|apply ba_|apply pd_|apply b1_)|exact HB.out))):w.heap.size≤gb117));have n3_:=A_ ((by rw [hg];exact (bz_ (by repeat (first|(with_reducible first|exact HB.out|apply ba_|apply pd_|apply b1_)|exact HB.out))):w.heap.size≤gb117));clear HB;have HB:=n0_;have BK117:=n1_;have GW117:=n2_;have GE117:=n3_;clear n0_ n1_ n2_ n3_;clear hb hbox hg;have hcz45_0:w44.cell? ⟨gb117,0,none⟩=some (.int .i64 a0_0):=(bc_ BK117.out 0).trans rfl;have hcz45_1:w44.cell? ⟨gb117,1,none⟩=some (.int .i64 a0_1):=(bc_ BK117.out 1).trans rfl;have hcz45_2:w44.cell? ⟨gb117,2,none⟩=some (.string a0_2):=(bc_ BK117.out 2).trans rfl;have hcz45_3:w44.cell? ⟨gb117,3,none⟩=some (.string a0_3):=(bc_ BK117.out 3).trans rfl;have hcz45_4:w44.cell? ⟨gb117,4,none⟩=some (.slice A0_4 l0_4.length c0_4):=(bc_ BK117.out 4).trans rfl;have hcz45_5:w44.cell? ⟨gb117,5,none⟩=some (.slice A0_5 l0_5.length c0_5):=(bc_ BK117.out 5).trans rfl;have hfz45_0:=bf_ BK117.out 0;have hfz45_1:=bf_ BK117.out 1;have hfz45_2:=bf_ BK117.out 2;have hfz45_3:=bf_ BK117.out 3;have hfz45_4:=bf_ BK117.out 4;have hfz45_5:=bf_ BK117.out 5))
      go_ret
      exact ⟨by first|rfl|(simp [errW_none,errW_some] <;> rfl)|(simp [*,errW_none,errW_some] <;> rfl),by repeat (first|(with_reducible first|exact HB.out|apply ba_|apply pd_|apply b1_|refine bs_ ?_ GE117.out)|exact HB.out)⟩
    ·rw [if_neg c34] at H
     have c34b0:(a0_2.toList == ([]:List UInt8))=false:=beq_eq_false_iff_ne.mpr c34
     have c34b1:(a0_2.toList != ([]:List UInt8))=true:=bne_iff_ne.mpr c34
     obtain rfl:=oi_ H
     go_enter Tryz.func11,Tryz.ntmps11
     go_wp2_with (first|((with_reducible refine gate_dst (N:=1) rfl ?_);(try (refine gate_guard (by rfl) ?_;dsimp only));refine box_event ?hg (N:=1) ?hd (cs:=#[.int .i64 a0_0,.int .i64 a0_1,.string a0_2,.string a0_3,.slice A0_4 l0_4.length c0_4,.slice A0_5 l0_5.length c0_5]) (t:=32) ?hr ?_;(case hd=>rfl);(case hg=>rfl);(case hr=>first|(go_simp;done)|(go_simp;rfl));intro gb117 hg w46 hbox hb;have n0_:=A_ (bp_ (by repeat (first|(with_reducible first|exact HB.out|apply ba_|apply pd_|apply b1_)|exact HB.out)) hb);have n1_:=A_ (hbox);have n2_:=A_ ((by rw [hg];exact (bz_ (by repeat (first|(with_reducible first|exact HB.out|apply ba_|apply pd_|apply b1_)|exact HB.out))):w.heap.size≤gb117));have n3_:=A_ ((by rw [hg];exact (bz_ (by repeat (first|(with_reducible first|exact HB.out|apply ba_|apply pd_|apply b1_)|exact HB.out))):w.heap.size≤gb117));clear HB;have HB:=n0_;have BK117:=n1_;have GW117:=n2_;have GE117:=n3_;clear n0_ n1_ n2_ n3_;clear hb hbox hg;have hcz47_0:w46.cell? ⟨gb117,0,none⟩=some (.int .i64 a0_0):=(bc_ BK117.out 0).trans rfl;have hcz47_1:w46.cell? ⟨gb117,1,none⟩=some (.int .i64 a0_1):=(bc_ BK117.out 1).trans rfl;have hcz47_2:w46.cell? ⟨gb117,2,none⟩=some (.string a0_2):=(bc_ BK117.out 2).trans rfl;have hcz47_3:w46.cell? ⟨gb117,3,none⟩=some (.string a0_3):=(bc_ BK117.out 3).trans rfl;have hcz47_4:w46.cell? ⟨gb117,4,none⟩=some (.slice A0_4 l0_4.length c0_4):=(bc_ BK117.out 4).trans rfl;have hcz47_5:w46.cell? ⟨gb117,5,none⟩=some (.slice A0_5 l0_5.length c0_5):=(bc_ BK117.out 5).trans rfl;have hfz47_0:=bf_ BK117.out 0;have hfz47_1:=bf_ BK117.out 1;have hfz47_2:=bf_ BK117.out 2;have hfz47_3:=bf_ BK117.out 3;have hfz47_4:=bf_ BK117.out 4;have hfz47_5:=bf_ BK117.out 5))
     go_ret
     exact ⟨by first|rfl|(simp [errW_none,errW_some] <;> rfl)|(simp [*,errW_none,errW_some] <;> rfl),by repeat (first|(with_reducible first|exact HB.out|apply ba_|apply pd_|apply b1_|refine bs_ ?_ GE117.out)|exact HB.out)⟩
   ·rw [if_neg c33] at H
    have c33b0:(a0_0 == 3)=false:=beq_eq_false_iff_ne.mpr c33
    have c33b1:(a0_0 != 3)=true:=bne_iff_ne.mpr c33
    obtain rfl:=oi_ H
    go_enter Tryz.func11,Tryz.ntmps11
    go_wp2_with (first|((with_reducible refine gate_dst (N:=1) rfl ?_);(try (refine gate_guard (by rfl) ?_;dsimp only));refine box_event ?hg (N:=1) ?hd (cs:=#[.int .i64 a0_0,.int .i64 a0_1,.string a0_2,.string a0_3,.slice A0_4 l0_4.length c0_4,.slice A0_5 l0_5.length c0_5]) (t:=32) ?hr ?_;(case hd=>rfl);(case hg=>rfl);(case hr=>first|(go_simp;done)|(go_simp;rfl));intro gb117 hg w48 hbox hb;have n0_:=A_ (bp_ (by repeat (first|(with_reducible first|exact HB.out|apply ba_|apply pd_|apply b1_)|exact HB.out)) hb);have n1_:=A_ (hbox);have n2_:=A_ ((by rw [hg];exact (bz_ (by repeat (first|(with_reducible first|exact HB.out|apply ba_|apply pd_|apply b1_)|exact HB.out))):w.heap.size≤gb117));have n3_:=A_ ((by rw [hg];exact (bz_ (by repeat (first|(with_reducible first|exact HB.out|apply ba_|apply pd_|apply b1_)|exact HB.out))):w.heap.size≤gb117));clear HB;have HB:=n0_;have BK117:=n1_;have GW117:=n2_;have GE117:=n3_;clear n0_ n1_ n2_ n3_;clear hb hbox hg;have hcz49_0:w48.cell? ⟨gb117,0,none⟩=some (.int .i64 a0_0):=(bc_ BK117.out 0).trans rfl;have hcz49_1:w48.cell? ⟨gb117,1,none⟩=some (.int .i64 a0_1):=(bc_ BK117.out 1).trans rfl;have hcz49_2:w48.cell? ⟨gb117,2,none⟩=some (.string a0_2):=(bc_ BK117.out 2).trans rfl;have hcz49_3:w48.cell? ⟨gb117,3,none⟩=some (.string a0_3):=(bc_ BK117.out 3).trans rfl;have hcz49_4:w48.cell? ⟨gb117,4,none⟩=some (.slice A0_4 l0_4.length c0_4):=(bc_ BK117.out 4).trans rfl;have hcz49_5:w48.cell? ⟨gb117,5,none⟩=some (.slice A0_5 l0_5.length c0_5):=(bc_ BK117.out 5).trans rfl;have hfz49_0:=bf_ BK117.out 0;have hfz49_1:=bf_ BK117.out 1;have hfz49_2:=bf_ BK117.out 2;have hfz49_3:=bf_ BK117.out 3;have hfz49_4:=bf_ BK117.out 4;have hfz49_5:=bf_ BK117.out 5))
    go_ret
    exact ⟨by first|rfl|(simp [errW_none,errW_some] <;> rfl)|(simp [*,errW_none,errW_some] <;> rfl),by repeat (first|(with_reducible first|exact HB.out|apply ba_|apply pd_|apply b1_|refine bs_ ?_ GE117.out)|exact HB.out)⟩
end Go.Proofs.YtpoaaomcpleebaaGreatDoor.PFnExactStartTag
