/- By a program of this session, out of the kit's print and contracts made by hand: the machine side of a law; Lean checks it. No conditions. -/
import Derived.Test.YtlpncjeahdfolaaGreatDoorPFnExactSerializex0
import Derived.Test.YtlpncjeahdfolaaGreatDoorPFnExactSerializex2
import Derived.Test.YtlpncjeahdfolaaGreatDoorPFnExactSerializex3
import Derived.Test.YtlpncjeahdfolaaGreatDoorPFnExactSerializex4
namespace Go.Proofs.YtlpncjeahdfolaaGreatDoor.PFnExactSerialize
open Go.RowKit Go.Proofs.YtlpncjeahdfolaaGreatDoorW.PrintWords Go.Proofs.YtlpncjeahdfolaaGreatDoorW.PrintLast Go.Proofs.YtlpncjeahdfolaaGreatDoorW.PrintMore
attribute [local go_sem] max2_int min2_int max_two min_two max_three min_three max_four min_four
set_option linter.unusedVariables false
set_option linter.unusedSimpArgs false
/-! ### spec_l03Plain: function 44 -/
def spec_l03Plain.f (k:Nat) (a0_0:Int) (a0_1:Int) (a0_2:ByteArray) (a0_3:ByteArray) (l0_4:List (S63)) (l0_5:List (S38)):Option (Bool):=if a0_0=1 then ((spec_l01Tag.f k a0_2).bind fun t118=>(if t118=true then ((spec_l01In.f a0_1 0 2).bind fun t119=>(if t119=true then (if a0_3.toList=([]:List UInt8) then ((spec_l03Attrs.f k l0_4).bind fun t120=>(some t120)) else (some false)) else (some false))) else (some false))) else (if a0_0=2 then (if a0_2.toList=([]:List UInt8) then (if a0_1=0 then ((spec_l01In.f (a0_3.size:Int) 1 120).bind fun t121=>(if t121=true then (if (l0_4.length:Int)=0 then (some ((l0_5.length:Int) == 0)) else (some false)) else (some false))) else (some false)) else (some false)) else (if a0_0=3 then (if a0_2.toList=([]:List UInt8) then (if a0_1=0 then (if (a0_3.size:Int)≤120 then (if (l0_4.length:Int)=0 then (some ((l0_5.length:Int) == 0)) else (some false)) else (some false)) else (some false)) else (some false)) else (some false)))
theorem spec_l03Plain.mono:∀ a0 a1 a2 a3 a4 a5 k,LeO (spec_l03Plain.f k a0 a1 a2 a3 a4 a5) (spec_l03Plain.f (k+1) a0 a1 a2 a3 a4 a5):=by
 intro a0 a1 a2 a3 a4 a5 k
 unfold spec_l03Plain.f
 repeat' first
  | (with_reducible exact spec_l01Tag.mono _ _)
  | (with_reducible exact spec_l03Attrs.mono _ _)
  | (with_reducible exact LeO.refl _)
  | (with_reducible exact LeO.none _)
  | (with_reducible refine LeO.ite ?_ ?_)
  | (with_reducible refine LeO.bind ?_ (fun _=>?_))
  | exact spec_l01Tag.mono _ _
  | exact spec_l03Attrs.mono _ _
  | exact LeO.none _
  | refine LeO.ite ?_ ?_
  | refine LeO.bind ?_ (fun _=>?_)
set_option maxHeartbeats 8000000 in
set_option maxRecDepth 100000 in
theorem spec_l03Plain.calls (k:Nat) (a0_0:Int) (a0_1:Int) (a0_2:ByteArray) (a0_3:ByteArray) (A0_4:Option Addr) (c0_4:Nat) (l0_4:List (S63)) (A0_5:Option Addr) (c0_5:Nat) (l0_5:List (S38)) (r:Bool) (w:World) (hr0_4:Kd.C k63 w A0_4 l0_4.length l0_4) (hc0_4:l0_4.length≤c0_4) (hr0_5:Kd.C k38 w A0_5 l0_5.length l0_5) (hc0_5:l0_5.length≤c0_5) (h:spec_l03Plain.f k a0_0 a0_1 a0_2 a0_3 l0_4 l0_5=some r) :
 Calls Tryz.prog 44 #[.agg #[.int .i64 a0_0,.int .i64 a0_1,.string a0_2,.string a0_3,.slice A0_4 l0_4.length c0_4,.slice A0_5 l0_5.length c0_5]] w fun e w'=>e=.returned (.bool r)∧Below w.heap.size w w':=by
 have hu38:=Tryz.underlying38
 have HR0_4:=A_ hr0_4
 have HC0_4:=A_ hc0_4
 clear hr0_4 hc0_4
 have HR0_5:=A_ hr0_5
 have HC0_5:=A_ hc0_5
 clear hr0_5 hc0_5
 have HB:=A_ (Below.refl w.heap.size w)
 have H:(if a0_0=1 then ((spec_l01Tag.f k a0_2).bind fun t118=>(if t118=true then ((spec_l01In.f a0_1 0 2).bind fun t119=>(if t119=true then (if a0_3.toList=([]:List UInt8) then ((spec_l03Attrs.f k l0_4).bind fun t120=>(some t120)) else (some false)) else (some false))) else (some false))) else (if a0_0=2 then (if a0_2.toList=([]:List UInt8) then (if a0_1=0 then ((spec_l01In.f (a0_3.size:Int) 1 120).bind fun t121=>(if t121=true then (if (l0_4.length:Int)=0 then (some ((l0_5.length:Int) == 0)) else (some false)) else (some false))) else (some false)) else (some false)) else (if a0_0=3 then (if a0_2.toList=([]:List UInt8) then (if a0_1=0 then (if (a0_3.size:Int)≤120 then (if (l0_4.length:Int)=0 then (some ((l0_5.length:Int) == 0)) else (some false)) else (some false)) else (some false)) else (some false)) else (some false))))=some r:=h
 clear h
 by_cases c2:a0_0=1
 ·rw [if_pos c2] at H
  have c2b0:(a0_0 == 1)=true:=beq_iff_eq.mpr c2
  have c2b1:(a0_0 != 1)=false:=bne_eq_false_iff_eq.mpr c2
  clear c2
  replace H:=ob_ H
  obtain ⟨t118,A30,H⟩:=H
  replace H:(if t118=true then ((spec_l01In.f a0_1 0 2).bind fun t119=>(if t119=true then (if a0_3.toList=([]:List UInt8) then ((spec_l03Attrs.f k l0_4).bind fun t120=>(some t120)) else (some false)) else (some false))) else (some false))=some r:=H
  have A3:=A_ A30
  clear A30
  by_cases c4:t118=true
  ·subst c4
   have H1:((spec_l01In.f a0_1 0 2).bind fun t119=>(if t119=true then (if a0_3.toList=([]:List UInt8) then ((spec_l03Attrs.f k l0_4).bind fun t120=>(some t120)) else (some false)) else (some false)))=some r:=by rw [if_pos rfl] at H;exact H
   clear H
   have H:=H1
   clear H1
   replace H:=ob_ H
   obtain ⟨t119,A50,H⟩:=H
   replace H:(if t119=true then (if a0_3.toList=([]:List UInt8) then ((spec_l03Attrs.f k l0_4).bind fun t120=>(some t120)) else (some false)) else (some false))=some r:=H
   have A5:=A_ A50
   clear A50
   by_cases c6:t119=true
   ·subst c6
    have H1:(if a0_3.toList=([]:List UInt8) then ((spec_l03Attrs.f k l0_4).bind fun t120=>(some t120)) else (some false))=some r:=by rw [if_pos rfl] at H;exact H
    clear H
    have H:=H1
    clear H1
    by_cases c7:a0_3.toList=([]:List UInt8)
    ·rw [if_pos c7] at H
     have c7b0:(a0_3.toList == ([]:List UInt8))=true:=beq_iff_eq.mpr c7
     have c7b1:(a0_3.toList != ([]:List UInt8))=false:=bne_eq_false_iff_eq.mpr c7
     clear c7
     replace H:=ob_ H
     obtain ⟨t120,A80,H⟩:=H
     replace H:(some t120)=some r:=H
     have A8:=A_ A80
     clear A80
     obtain rfl:=oi_ H
     go_enter Tryz.func44,Tryz.ntmps44
     go_wp2_with (first|((with_reducible refine gate_dst (N:=1) rfl ?_);(try (refine gate_guard (by rfl) ?_;dsimp only));refine box_event ?hg (N:=1) ?hd (cs:=#[.int .i64 a0_0,.int .i64 a0_1,.string a0_2,.string a0_3,.slice A0_4 l0_4.length c0_4,.slice A0_5 l0_5.length c0_5]) (t:=38) ?hr ?_;(case hd=>rfl);(case hg=>rfl);(case hr=>first|(go_simp;done)|(go_simp;rfl));intro gb117 hg w9 hbox hb;have n0_:=A_ (bp_ (by repeat (first|(with_reducible first|exact HB.out|apply ba_|apply pd_|apply b1_)|exact HB.out)) hb);have n1_:=A_ (hbox);have n2_:=A_ ((by rw [hg];exact (bz_ (by repeat (first|(with_reducible first|exact HB.out|apply ba_|apply pd_|apply b1_)|exact HB.out))):w.heap.size≤gb117));have n3_:=A_ ((by rw [hg];exact (bz_ (by repeat (first|(with_reducible first|exact HB.out|apply ba_|apply pd_|apply b1_)|exact HB.out))):w.heap.size≤gb117));clear HB;have HB:=n0_;have BK117:=n1_;have GW117:=n2_;have GE117:=n3_;clear n0_ n1_ n2_ n3_;clear hb hbox hg;have hcz10_0:w9.cell? ⟨gb117,0,none⟩=some (.int .i64 a0_0):=(bc_ BK117.out 0).trans rfl;have hcz10_1:w9.cell? ⟨gb117,1,none⟩=some (.int .i64 a0_1):=(bc_ BK117.out 1).trans rfl;have hcz10_2:w9.cell? ⟨gb117,2,none⟩=some (.string a0_2):=(bc_ BK117.out 2).trans rfl;have hcz10_3:w9.cell? ⟨gb117,3,none⟩=some (.string a0_3):=(bc_ BK117.out 3).trans rfl;have hcz10_4:w9.cell? ⟨gb117,4,none⟩=some (.slice A0_4 l0_4.length c0_4):=(bc_ BK117.out 4).trans rfl;have hcz10_5:w9.cell? ⟨gb117,5,none⟩=some (.slice A0_5 l0_5.length c0_5):=(bc_ BK117.out 5).trans rfl;have hfz10_0:=bf_ BK117.out 0;have hfz10_1:=bf_ BK117.out 1;have hfz10_2:=bf_ BK117.out 2;have hfz10_3:=bf_ BK117.out 3;have hfz10_4:=bf_ BK117.out 4;have hfz10_5:=bf_ BK117.out 5)|((with_reducible refine gate_callee (f:=53) rfl ?_);refine goesL_ (some 9) rfl rfl Tryz.func53 (by kernel_rfl) rfl #[.string a0_2] rfl (by (try simp only [List.map_toArray,List.map_cons,List.map_nil]);first|done|rfl|(simp only [ld_,lt_];rfl)) ?_;(with_reducible refine (spec_l01Tag.calls k a0_2 true _ A3.out).mono ?_);rintro e w' ⟨rfl,⟨nd,rfl⟩⟩;refine ⟨_,rfl,?_⟩)|(go_at_call 54;(with_reducible refine (spec_l01In.calls a0_1 0 2 true _ A5.out).mono ?_);rintro e w' ⟨rfl,⟨nd,rfl⟩⟩)|(go_at_call 55;(with_reducible refine (spec_l03Attrs.calls k _ _ l0_4 t120 _ ?side1 ?side2 A8.out).mono ?_);(case side1=>repeat (first|exact (cb_ HR0_4.out (by repeat (first|(with_reducible first|exact HB.out|apply ba_|apply pd_|apply b1_|refine bs_ ?_ GE117.out)|exact HB.out)))|(with_reducible refine ca_ ?_ _)|(with_reducible refine cn_ ?_ _)|(with_reducible refine cd_ ?_)));(case side2=>exact HC0_4.out);rintro e w' ⟨rfl,⟨nd,rfl⟩⟩))
     go_ret
     exact ⟨by first|rfl|(simp [errW_none,errW_some] <;> rfl)|(simp [*,errW_none,errW_some] <;> rfl),by repeat (first|(with_reducible first|exact HB.out|apply ba_|apply pd_|apply b1_|refine bs_ ?_ GE117.out)|exact HB.out)⟩
    ·rw [if_neg c7] at H
     have c7b0:(a0_3.toList == ([]:List UInt8))=false:=beq_eq_false_iff_ne.mpr c7
     have c7b1:(a0_3.toList != ([]:List UInt8))=true:=bne_iff_ne.mpr c7
     obtain rfl:=oi_ H
     go_enter Tryz.func44,Tryz.ntmps44
     go_wp2_with (first|((with_reducible refine gate_dst (N:=1) rfl ?_);(try (refine gate_guard (by rfl) ?_;dsimp only));refine box_event ?hg (N:=1) ?hd (cs:=#[.int .i64 a0_0,.int .i64 a0_1,.string a0_2,.string a0_3,.slice A0_4 l0_4.length c0_4,.slice A0_5 l0_5.length c0_5]) (t:=38) ?hr ?_;(case hd=>rfl);(case hg=>rfl);(case hr=>first|(go_simp;done)|(go_simp;rfl));intro gb117 hg w11 hbox hb;have n0_:=A_ (bp_ (by repeat (first|(with_reducible first|exact HB.out|apply ba_|apply pd_|apply b1_)|exact HB.out)) hb);have n1_:=A_ (hbox);have n2_:=A_ ((by rw [hg];exact (bz_ (by repeat (first|(with_reducible first|exact HB.out|apply ba_|apply pd_|apply b1_)|exact HB.out))):w.heap.size≤gb117));have n3_:=A_ ((by rw [hg];exact (bz_ (by repeat (first|(with_reducible first|exact HB.out|apply ba_|apply pd_|apply b1_)|exact HB.out))):w.heap.size≤gb117));clear HB;have HB:=n0_;have BK117:=n1_;have GW117:=n2_;have GE117:=n3_;clear n0_ n1_ n2_ n3_;clear hb hbox hg;have hcz12_0:w11.cell? ⟨gb117,0,none⟩=some (.int .i64 a0_0):=(bc_ BK117.out 0).trans rfl;have hcz12_1:w11.cell? ⟨gb117,1,none⟩=some (.int .i64 a0_1):=(bc_ BK117.out 1).trans rfl;have hcz12_2:w11.cell? ⟨gb117,2,none⟩=some (.string a0_2):=(bc_ BK117.out 2).trans rfl;have hcz12_3:w11.cell? ⟨gb117,3,none⟩=some (.string a0_3):=(bc_ BK117.out 3).trans rfl;have hcz12_4:w11.cell? ⟨gb117,4,none⟩=some (.slice A0_4 l0_4.length c0_4):=(bc_ BK117.out 4).trans rfl;have hcz12_5:w11.cell? ⟨gb117,5,none⟩=some (.slice A0_5 l0_5.length c0_5):=(bc_ BK117.out 5).trans rfl;have hfz12_0:=bf_ BK117.out 0;have hfz12_1:=bf_ BK117.out 1;have hfz12_2:=bf_ BK117.out 2;have hfz12_3:=bf_ BK117.out 3;have hfz12_4:=bf_ BK117.out 4;have hfz12_5:=bf_ BK117.out 5)|((with_reducible refine gate_callee (f:=53) rfl ?_);refine goesL_ (some 9) rfl rfl Tryz.func53 (by kernel_rfl) rfl #[.string a0_2] rfl (by (try simp only [List.map_toArray,List.map_cons,List.map_nil]);first|done|rfl|(simp only [ld_,lt_];rfl)) ?_;(with_reducible refine (spec_l01Tag.calls k a0_2 true _ A3.out).mono ?_);rintro e w' ⟨rfl,⟨nd,rfl⟩⟩;refine ⟨_,rfl,?_⟩)|(go_at_call 54;(with_reducible refine (spec_l01In.calls a0_1 0 2 true _ A5.out).mono ?_);rintro e w' ⟨rfl,⟨nd,rfl⟩⟩))
     go_ret
     exact ⟨by first|rfl|(simp [errW_none,errW_some] <;> rfl)|(simp [*,errW_none,errW_some] <;> rfl),by repeat (first|(with_reducible first|exact HB.out|apply ba_|apply pd_|apply b1_|refine bs_ ?_ GE117.out)|exact HB.out)⟩
   ·replace c6:=bm_ c6
    subst c6
    have H1:(some false)=some r:=by rw [if_neg (show ¬ (false=true) by decide)] at H;exact H
    clear H
    have H:=H1
    clear H1
    obtain rfl:=oi_ H
    go_enter Tryz.func44,Tryz.ntmps44
    go_wp2_with (first|((with_reducible refine gate_dst (N:=1) rfl ?_);(try (refine gate_guard (by rfl) ?_;dsimp only));refine box_event ?hg (N:=1) ?hd (cs:=#[.int .i64 a0_0,.int .i64 a0_1,.string a0_2,.string a0_3,.slice A0_4 l0_4.length c0_4,.slice A0_5 l0_5.length c0_5]) (t:=38) ?hr ?_;(case hd=>rfl);(case hg=>rfl);(case hr=>first|(go_simp;done)|(go_simp;rfl));intro gb117 hg w13 hbox hb;have n0_:=A_ (bp_ (by repeat (first|(with_reducible first|exact HB.out|apply ba_|apply pd_|apply b1_)|exact HB.out)) hb);have n1_:=A_ (hbox);have n2_:=A_ ((by rw [hg];exact (bz_ (by repeat (first|(with_reducible first|exact HB.out|apply ba_|apply pd_|apply b1_)|exact HB.out))):w.heap.size≤gb117));have n3_:=A_ ((by rw [hg];exact (bz_ (by repeat (first|(with_reducible first|exact HB.out|apply ba_|apply pd_|apply b1_)|exact HB.out))):w.heap.size≤gb117));clear HB;have HB:=n0_;have BK117:=n1_;have GW117:=n2_;have GE117:=n3_;clear n0_ n1_ n2_ n3_;clear hb hbox hg;have hcz14_0:w13.cell? ⟨gb117,0,none⟩=some (.int .i64 a0_0):=(bc_ BK117.out 0).trans rfl;have hcz14_1:w13.cell? ⟨gb117,1,none⟩=some (.int .i64 a0_1):=(bc_ BK117.out 1).trans rfl;have hcz14_2:w13.cell? ⟨gb117,2,none⟩=some (.string a0_2):=(bc_ BK117.out 2).trans rfl;have hcz14_3:w13.cell? ⟨gb117,3,none⟩=some (.string a0_3):=(bc_ BK117.out 3).trans rfl;have hcz14_4:w13.cell? ⟨gb117,4,none⟩=some (.slice A0_4 l0_4.length c0_4):=(bc_ BK117.out 4).trans rfl;have hcz14_5:w13.cell? ⟨gb117,5,none⟩=some (.slice A0_5 l0_5.length c0_5):=(bc_ BK117.out 5).trans rfl;have hfz14_0:=bf_ BK117.out 0;have hfz14_1:=bf_ BK117.out 1;have hfz14_2:=bf_ BK117.out 2;have hfz14_3:=bf_ BK117.out 3;have hfz14_4:=bf_ BK117.out 4;have hfz14_5:=bf_ BK117.out 5)|((with_reducible refine gate_callee (f:=53) rfl ?_);refine goesL_ (some 9) rfl rfl Tryz.func53 (by kernel_rfl) rfl #[.string a0_2] rfl (by (try simp only [List.map_toArray,List.map_cons,List.map_nil]);first|done|rfl|(simp only [ld_,lt_];rfl)) ?_;(with_reducible refine (spec_l01Tag.calls k a0_2 true _ A3.out).mono ?_);rintro e w' ⟨rfl,⟨nd,rfl⟩⟩;refine ⟨_,rfl,?_⟩)|(go_at_call 54;(with_reducible refine (spec_l01In.calls a0_1 0 2 false _ A5.out).mono ?_);rintro e w' ⟨rfl,⟨nd,rfl⟩⟩))
    go_ret
    exact ⟨by first|rfl|(simp [errW_none,errW_some] <;> rfl)|(simp [*,errW_none,errW_some] <;> rfl),by repeat (first|(with_reducible first|exact HB.out|apply ba_|apply pd_|apply b1_|refine bs_ ?_ GE117.out)|exact HB.out)⟩
  ·replace c4:=bm_ c4
   subst c4
   have H1:(some false)=some r:=by rw [if_neg (show ¬ (false=true) by decide)] at H;exact H
   clear H
   have H:=H1
   clear H1
   obtain rfl:=oi_ H
   go_enter Tryz.func44,Tryz.ntmps44
   go_wp2_with (first|((with_reducible refine gate_dst (N:=1) rfl ?_);(try (refine gate_guard (by rfl) ?_;dsimp only));refine box_event ?hg (N:=1) ?hd (cs:=#[.int .i64 a0_0,.int .i64 a0_1,.string a0_2,.string a0_3,.slice A0_4 l0_4.length c0_4,.slice A0_5 l0_5.length c0_5]) (t:=38) ?hr ?_;(case hd=>rfl);(case hg=>rfl);(case hr=>first|(go_simp;done)|(go_simp;rfl));intro gb117 hg w15 hbox hb;have n0_:=A_ (bp_ (by repeat (first|(with_reducible first|exact HB.out|apply ba_|apply pd_|apply b1_)|exact HB.out)) hb);have n1_:=A_ (hbox);have n2_:=A_ ((by rw [hg];exact (bz_ (by repeat (first|(with_reducible first|exact HB.out|apply ba_|apply pd_|apply b1_)|exact HB.out))):w.heap.size≤gb117));have n3_:=A_ ((by rw [hg];exact (bz_ (by repeat (first|(with_reducible first|exact HB.out|apply ba_|apply pd_|apply b1_)|exact HB.out))):w.heap.size≤gb117));clear HB;have HB:=n0_;have BK117:=n1_;have GW117:=n2_;have GE117:=n3_;clear n0_ n1_ n2_ n3_;clear hb hbox hg;have hcz16_0:w15.cell? ⟨gb117,0,none⟩=some (.int .i64 a0_0):=(bc_ BK117.out 0).trans rfl;have hcz16_1:w15.cell? ⟨gb117,1,none⟩=some (.int .i64 a0_1):=(bc_ BK117.out 1).trans rfl;have hcz16_2:w15.cell? ⟨gb117,2,none⟩=some (.string a0_2):=(bc_ BK117.out 2).trans rfl;have hcz16_3:w15.cell? ⟨gb117,3,none⟩=some (.string a0_3):=(bc_ BK117.out 3).trans rfl;have hcz16_4:w15.cell? ⟨gb117,4,none⟩=some (.slice A0_4 l0_4.length c0_4):=(bc_ BK117.out 4).trans rfl;have hcz16_5:w15.cell? ⟨gb117,5,none⟩=some (.slice A0_5 l0_5.length c0_5):=(bc_ BK117.out 5).trans rfl;have hfz16_0:=bf_ BK117.out 0;have hfz16_1:=bf_ BK117.out 1;have hfz16_2:=bf_ BK117.out 2;have hfz16_3:=bf_ BK117.out 3;have hfz16_4:=bf_ BK117.out 4;have hfz16_5:=bf_ BK117.out 5)|((with_reducible refine gate_callee (f:=53) rfl ?_);refine goesL_ (some 9) rfl rfl Tryz.func53 (by kernel_rfl) rfl #[.string a0_2] rfl (by (try simp only [List.map_toArray,List.map_cons,List.map_nil]);first|done|rfl|(simp only [ld_,lt_];rfl)) ?_;(with_reducible refine (spec_l01Tag.calls k a0_2 false _ A3.out).mono ?_);rintro e w' ⟨rfl,⟨nd,rfl⟩⟩;refine ⟨_,rfl,?_⟩))
   go_ret
   exact ⟨by first|rfl|(simp [errW_none,errW_some] <;> rfl)|(simp [*,errW_none,errW_some] <;> rfl),by repeat (first|(with_reducible first|exact HB.out|apply ba_|apply pd_|apply b1_|refine bs_ ?_ GE117.out)|exact HB.out)⟩
 ·rw [if_neg c2] at H
  have c2b0:(a0_0 == 1)=false:=beq_eq_false_iff_ne.mpr c2
  have c2b1:(a0_0 != 1)=true:=bne_iff_ne.mpr c2
  by_cases c17:a0_0=2
  ·rw [if_pos c17] at H
   have c17b0:(a0_0 == 2)=true:=beq_iff_eq.mpr c17
   have c17b1:(a0_0 != 2)=false:=bne_eq_false_iff_eq.mpr c17
   clear c17
   by_cases c18:a0_2.toList=([]:List UInt8)
   ·rw [if_pos c18] at H
    have c18b0:(a0_2.toList == ([]:List UInt8))=true:=beq_iff_eq.mpr c18
    have c18b1:(a0_2.toList != ([]:List UInt8))=false:=bne_eq_false_iff_eq.mpr c18
    clear c18
    by_cases c19:a0_1=0
    ·rw [if_pos c19] at H
     have c19b0:(a0_1 == 0)=true:=beq_iff_eq.mpr c19
     have c19b1:(a0_1 != 0)=false:=bne_eq_false_iff_eq.mpr c19
     clear c19
     replace H:=ob_ H
     obtain ⟨t121,A200,H⟩:=H
     replace H:(if t121=true then (if (l0_4.length:Int)=0 then (some ((l0_5.length:Int) == 0)) else (some false)) else (some false))=some r:=H
     have A20:=A_ A200
     clear A200
     by_cases c21:t121=true
     ·subst c21
      have H1:(if (l0_4.length:Int)=0 then (some ((l0_5.length:Int) == 0)) else (some false))=some r:=by rw [if_pos rfl] at H;exact H
      clear H
      have H:=H1
      clear H1
      by_cases c22:(l0_4.length:Int)=0
      ·rw [if_pos c22] at H
       have c22b0:((l0_4.length:Int) == 0)=true:=beq_iff_eq.mpr c22
       have c22b1:((l0_4.length:Int) != 0)=false:=bne_eq_false_iff_eq.mpr c22
       clear c22
       obtain rfl:=oi_ H
       go_enter Tryz.func44,Tryz.ntmps44
       go_wp2_with (first|((with_reducible refine gate_dst (N:=1) rfl ?_);(try (refine gate_guard (by rfl) ?_;dsimp only));refine box_event ?hg (N:=1) ?hd (cs:=#[.int .i64 a0_0,.int .i64 a0_1,.string a0_2,.string a0_3,.slice A0_4 l0_4.length c0_4,.slice A0_5 l0_5.length c0_5]) (t:=38) ?hr ?_;(case hd=>rfl);(case hg=>rfl);(case hr=>first|(go_simp;done)|(go_simp;rfl));intro gb117 hg w23 hbox hb;have n0_:=A_ (bp_ (by repeat (first|(with_reducible first|exact HB.out|apply ba_|apply pd_|apply b1_)|exact HB.out)) hb);have n1_:=A_ (hbox);have n2_:=A_ ((by rw [hg];exact (bz_ (by repeat (first|(with_reducible first|exact HB.out|apply ba_|apply pd_|apply b1_)|exact HB.out))):w.heap.size≤gb117));have n3_:=A_ ((by rw [hg];exact (bz_ (by repeat (first|(with_reducible first|exact HB.out|apply ba_|apply pd_|apply b1_)|exact HB.out))):w.heap.size≤gb117));clear HB;have HB:=n0_;have BK117:=n1_;have GW117:=n2_;have GE117:=n3_;clear n0_ n1_ n2_ n3_;clear hb hbox hg;have hcz24_0:w23.cell? ⟨gb117,0,none⟩=some (.int .i64 a0_0):=(bc_ BK117.out 0).trans rfl;have hcz24_1:w23.cell? ⟨gb117,1,none⟩=some (.int .i64 a0_1):=(bc_ BK117.out 1).trans rfl;have hcz24_2:w23.cell? ⟨gb117,2,none⟩=some (.string a0_2):=(bc_ BK117.out 2).trans rfl;have hcz24_3:w23.cell? ⟨gb117,3,none⟩=some (.string a0_3):=(bc_ BK117.out 3).trans rfl;have hcz24_4:w23.cell? ⟨gb117,4,none⟩=some (.slice A0_4 l0_4.length c0_4):=(bc_ BK117.out 4).trans rfl;have hcz24_5:w23.cell? ⟨gb117,5,none⟩=some (.slice A0_5 l0_5.length c0_5):=(bc_ BK117.out 5).trans rfl;have hfz24_0:=bf_ BK117.out 0;have hfz24_1:=bf_ BK117.out 1;have hfz24_2:=bf_ BK117.out 2;have hfz24_3:=bf_ BK117.out 3;have hfz24_4:=bf_ BK117.out 4;have hfz24_5:=bf_ BK117.out 5)|(go_at_call 54;(with_reducible refine (spec_l01In.calls (a0_3.size:Int) 1 120 true _ A20.out).mono ?_);rintro e w' ⟨rfl,⟨nd,rfl⟩⟩))
       go_ret
       exact ⟨by first|rfl|(simp [errW_none,errW_some] <;> rfl)|(simp [*,errW_none,errW_some] <;> rfl),by repeat (first|(with_reducible first|exact HB.out|apply ba_|apply pd_|apply b1_|refine bs_ ?_ GE117.out)|exact HB.out)⟩
      ·rw [if_neg c22] at H
       have c22b0:((l0_4.length:Int) == 0)=false:=beq_eq_false_iff_ne.mpr c22
       have c22b1:((l0_4.length:Int) != 0)=true:=bne_iff_ne.mpr c22
       have c22b2:¬ (l0_4=[]):=fun h_=>c22 (by rw [h_];rfl)
       obtain rfl:=oi_ H
       go_enter Tryz.func44,Tryz.ntmps44
       go_wp2_with (first|((with_reducible refine gate_dst (N:=1) rfl ?_);(try (refine gate_guard (by rfl) ?_;dsimp only));refine box_event ?hg (N:=1) ?hd (cs:=#[.int .i64 a0_0,.int .i64 a0_1,.string a0_2,.string a0_3,.slice A0_4 l0_4.length c0_4,.slice A0_5 l0_5.length c0_5]) (t:=38) ?hr ?_;(case hd=>rfl);(case hg=>rfl);(case hr=>first|(go_simp;done)|(go_simp;rfl));intro gb117 hg w25 hbox hb;have n0_:=A_ (bp_ (by repeat (first|(with_reducible first|exact HB.out|apply ba_|apply pd_|apply b1_)|exact HB.out)) hb);have n1_:=A_ (hbox);have n2_:=A_ ((by rw [hg];exact (bz_ (by repeat (first|(with_reducible first|exact HB.out|apply ba_|apply pd_|apply b1_)|exact HB.out))):w.heap.size≤gb117));have n3_:=A_ ((by rw [hg];exact (bz_ (by repeat (first|(with_reducible first|exact HB.out|apply ba_|apply pd_|apply b1_)|exact HB.out))):w.heap.size≤gb117));clear HB;have HB:=n0_;have BK117:=n1_;have GW117:=n2_;have GE117:=n3_;clear n0_ n1_ n2_ n3_;clear hb hbox hg;have hcz26_0:w25.cell? ⟨gb117,0,none⟩=some (.int .i64 a0_0):=(bc_ BK117.out 0).trans rfl;have hcz26_1:w25.cell? ⟨gb117,1,none⟩=some (.int .i64 a0_1):=(bc_ BK117.out 1).trans rfl;have hcz26_2:w25.cell? ⟨gb117,2,none⟩=some (.string a0_2):=(bc_ BK117.out 2).trans rfl;have hcz26_3:w25.cell? ⟨gb117,3,none⟩=some (.string a0_3):=(bc_ BK117.out 3).trans rfl;have hcz26_4:w25.cell? ⟨gb117,4,none⟩=some (.slice A0_4 l0_4.length c0_4):=(bc_ BK117.out 4).trans rfl;have hcz26_5:w25.cell? ⟨gb117,5,none⟩=some (.slice A0_5 l0_5.length c0_5):=(bc_ BK117.out 5).trans rfl;have hfz26_0:=bf_ BK117.out 0;have hfz26_1:=bf_ BK117.out 1;have hfz26_2:=bf_ BK117.out 2;have hfz26_3:=bf_ BK117.out 3;have hfz26_4:=bf_ BK117.out 4;have hfz26_5:=bf_ BK117.out 5)|(go_at_call 54;(with_reducible refine (spec_l01In.calls (a0_3.size:Int) 1 120 true _ A20.out).mono ?_);rintro e w' ⟨rfl,⟨nd,rfl⟩⟩))
       go_ret
       exact ⟨by first|rfl|(simp [errW_none,errW_some] <;> rfl)|(simp [*,errW_none,errW_some] <;> rfl),by repeat (first|(with_reducible first|exact HB.out|apply ba_|apply pd_|apply b1_|refine bs_ ?_ GE117.out)|exact HB.out)⟩
     ·replace c21:=bm_ c21
      subst c21
      have H1:(some false)=some r:=by rw [if_neg (show ¬ (false=true) by decide)] at H;exact H
      clear H
      have H:=H1
      clear H1
      obtain rfl:=oi_ H
      go_enter Tryz.func44,Tryz.ntmps44
      go_wp2_with (first|((with_reducible refine gate_dst (N:=1) rfl ?_);(try (refine gate_guard (by rfl) ?_;dsimp only));refine box_event ?hg (N:=1) ?hd (cs:=#[.int .i64 a0_0,.int .i64 a0_1,.string a0_2,.string a0_3,.slice A0_4 l0_4.length c0_4,.slice A0_5 l0_5.length c0_5]) (t:=38) ?hr ?_;(case hd=>rfl);(case hg=>rfl);(case hr=>first|(go_simp;done)|(go_simp;rfl));intro gb117 hg w27 hbox hb;have n0_:=A_ (bp_ (by repeat (first|(with_reducible first|exact HB.out|apply ba_|apply pd_|apply b1_)|exact HB.out)) hb);have n1_:=A_ (hbox);have n2_:=A_ ((by rw [hg];exact (bz_ (by repeat (first|(with_reducible first|exact HB.out|apply ba_|apply pd_|apply b1_)|exact HB.out))):w.heap.size≤gb117));have n3_:=A_ ((by rw [hg];exact (bz_ (by repeat (first|(with_reducible first|exact HB.out|apply ba_|apply pd_|apply b1_)|exact HB.out))):w.heap.size≤gb117));clear HB;have HB:=n0_;have BK117:=n1_;have GW117:=n2_;have GE117:=n3_;clear n0_ n1_ n2_ n3_;clear hb hbox hg;have hcz28_0:w27.cell? ⟨gb117,0,none⟩=some (.int .i64 a0_0):=(bc_ BK117.out 0).trans rfl;have hcz28_1:w27.cell? ⟨gb117,1,none⟩=some (.int .i64 a0_1):=(bc_ BK117.out 1).trans rfl;have hcz28_2:w27.cell? ⟨gb117,2,none⟩=some (.string a0_2):=(bc_ BK117.out 2).trans rfl;have hcz28_3:w27.cell? ⟨gb117,3,none⟩=some (.string a0_3):=(bc_ BK117.out 3).trans rfl;have hcz28_4:w27.cell? ⟨gb117,4,none⟩=some (.slice A0_4 l0_4.length c0_4):=(bc_ BK117.out 4).trans rfl;have hcz28_5:w27.cell? ⟨gb117,5,none⟩=some (.slice A0_5 l0_5.length c0_5):=(bc_ BK117.out 5).trans rfl;have hfz28_0:=bf_ BK117.out 0;have hfz28_1:=bf_ BK117.out 1;have hfz28_2:=bf_ BK117.out 2;have hfz28_3:=bf_ BK117.out 3;have hfz28_4:=bf_ BK117.out 4;have hfz28_5:=bf_ BK117.out 5)|(go_at_call 54;(with_reducible refine (spec_l01In.calls (a0_3.size:Int) 1 120 false _ A20.out).mono ?_);rintro e w' ⟨rfl,⟨nd,rfl⟩⟩))
      go_ret
      exact ⟨by first|rfl|(simp [errW_none,errW_some] <;> rfl)|(simp [*,errW_none,errW_some] <;> rfl),by repeat (first|(with_reducible first|exact HB.out|apply ba_|apply pd_|apply b1_|refine bs_ ?_ GE117.out)|exact HB.out)⟩
    ·rw [if_neg c19] at H
     have c19b0:(a0_1 == 0)=false:=beq_eq_false_iff_ne.mpr c19
     have c19b1:(a0_1 != 0)=true:=bne_iff_ne.mpr c19
     obtain rfl:=oi_ H
     go_enter Tryz.func44,Tryz.ntmps44
     go_wp2_with (first|((with_reducible refine gate_dst (N:=1) rfl ?_);(try (refine gate_guard (by rfl) ?_;dsimp only));refine box_event ?hg (N:=1) ?hd (cs:=#[.int .i64 a0_0,.int .i64 a0_1,.string a0_2,.string a0_3,.slice A0_4 l0_4.length c0_4,.slice A0_5 l0_5.length c0_5]) (t:=38) ?hr ?_;(case hd=>rfl);(case hg=>rfl);(case hr=>first|(go_simp;done)|(go_simp;rfl));intro gb117 hg w29 hbox hb;have n0_:=A_ (bp_ (by repeat (first|(with_reducible first|exact HB.out|apply ba_|apply pd_|apply b1_)|exact HB.out)) hb);have n1_:=A_ (hbox);have n2_:=A_ ((by rw [hg];exact (bz_ (by repeat (first|(with_reducible first|exact HB.out|apply ba_|apply pd_|apply b1_)|exact HB.out))):w.heap.size≤gb117));have n3_:=A_ ((by rw [hg];exact (bz_ (by repeat (first|(with_reducible first|exact HB.out|apply ba_|apply pd_|apply b1_)|exact HB.out))):w.heap.size≤gb117));clear HB;have HB:=n0_;have BK117:=n1_;have GW117:=n2_;have GE117:=n3_;clear n0_ n1_ n2_ n3_;clear hb hbox hg;have hcz30_0:w29.cell? ⟨gb117,0,none⟩=some (.int .i64 a0_0):=(bc_ BK117.out 0).trans rfl;have hcz30_1:w29.cell? ⟨gb117,1,none⟩=some (.int .i64 a0_1):=(bc_ BK117.out 1).trans rfl;have hcz30_2:w29.cell? ⟨gb117,2,none⟩=some (.string a0_2):=(bc_ BK117.out 2).trans rfl;have hcz30_3:w29.cell? ⟨gb117,3,none⟩=some (.string a0_3):=(bc_ BK117.out 3).trans rfl;have hcz30_4:w29.cell? ⟨gb117,4,none⟩=some (.slice A0_4 l0_4.length c0_4):=(bc_ BK117.out 4).trans rfl;have hcz30_5:w29.cell? ⟨gb117,5,none⟩=some (.slice A0_5 l0_5.length c0_5):=(bc_ BK117.out 5).trans rfl;have hfz30_0:=bf_ BK117.out 0;have hfz30_1:=bf_ BK117.out 1;have hfz30_2:=bf_ BK117.out 2;have hfz30_3:=bf_ BK117.out 3;have hfz30_4:=bf_ BK117.out 4;have hfz30_5:=bf_ BK117.out 5))
     go_ret
     exact ⟨by first|rfl|(simp [errW_none,errW_some] <;> rfl)|(simp [*,errW_none,errW_some] <;> rfl),by repeat (first|(with_reducible first|exact HB.out|apply ba_|apply pd_|apply b1_|refine bs_ ?_ GE117.out)|exact HB.out)⟩
   ·rw [if_neg c18] at H
    have c18b0:(a0_2.toList == ([]:List UInt8))=false:=beq_eq_false_iff_ne.mpr c18
    have c18b1:(a0_2.toList != ([]:List UInt8))=true:=bne_iff_ne.mpr c18
    obtain rfl:=oi_ H
    go_enter Tryz.func44,Tryz.ntmps44
    go_wp2_with (first|((with_reducible refine gate_dst (N:=1) rfl ?_);(try (refine gate_guard (by rfl) ?_;dsimp only));refine box_event ?hg (N:=1) ?hd (cs:=#[.int .i64 a0_0,.int .i64 a0_1,.string a0_2,.string a0_3,.slice A0_4 l0_4.length c0_4,.slice A0_5 l0_5.length c0_5]) (t:=38) ?hr ?_;(case hd=>rfl);(case hg=>rfl);(case hr=>first|(go_simp;done)|(go_simp;rfl));intro gb117 hg w31 hbox hb;have n0_:=A_ (bp_ (by repeat (first|(with_reducible first|exact HB.out|apply ba_|apply pd_|apply b1_)|exact HB.out)) hb);have n1_:=A_ (hbox);have n2_:=A_ ((by rw [hg];exact (bz_ (by repeat (first|(with_reducible first|exact HB.out|apply ba_|apply pd_|apply b1_)|exact HB.out))):w.heap.size≤gb117));have n3_:=A_ ((by rw [hg];exact (bz_ (by repeat (first|(with_reducible first|exact HB.out|apply ba_|apply pd_|apply b1_)|exact HB.out))):w.heap.size≤gb117));clear HB;have HB:=n0_;have BK117:=n1_;have GW117:=n2_;have GE117:=n3_;clear n0_ n1_ n2_ n3_;clear hb hbox hg;have hcz32_0:w31.cell? ⟨gb117,0,none⟩=some (.int .i64 a0_0):=(bc_ BK117.out 0).trans rfl;have hcz32_1:w31.cell? ⟨gb117,1,none⟩=some (.int .i64 a0_1):=(bc_ BK117.out 1).trans rfl;have hcz32_2:w31.cell? ⟨gb117,2,none⟩=some (.string a0_2):=(bc_ BK117.out 2).trans rfl;have hcz32_3:w31.cell? ⟨gb117,3,none⟩=some (.string a0_3):=(bc_ BK117.out 3).trans rfl;have hcz32_4:w31.cell? ⟨gb117,4,none⟩=some (.slice A0_4 l0_4.length c0_4):=(bc_ BK117.out 4).trans rfl;have hcz32_5:w31.cell? ⟨gb117,5,none⟩=some (.slice A0_5 l0_5.length c0_5):=(bc_ BK117.out 5).trans rfl;have hfz32_0:=bf_ BK117.out 0;have hfz32_1:=bf_ BK117.out 1;have hfz32_2:=bf_ BK117.out 2;have hfz32_3:=bf_ BK117.out 3;have hfz32_4:=bf_ BK117.out 4;have hfz32_5:=bf_ BK117.out 5))
    go_ret
    exact ⟨by first|rfl|(simp [errW_none,errW_some] <;> rfl)|(simp [*,errW_none,errW_some] <;> rfl),by repeat (first|(with_reducible first|exact HB.out|apply ba_|apply pd_|apply b1_|refine bs_ ?_ GE117.out)|exact HB.out)⟩
  ·rw [if_neg c17] at H
   have c17b0:(a0_0 == 2)=false:=beq_eq_false_iff_ne.mpr c17
   have c17b1:(a0_0 != 2)=true:=bne_iff_ne.mpr c17
   by_cases c33:a0_0=3
   ·rw [if_pos c33] at H
    have c33b0:(a0_0 == 3)=true:=beq_iff_eq.mpr c33
    have c33b1:(a0_0 != 3)=false:=bne_eq_false_iff_eq.mpr c33
    clear c33
    by_cases c34:a0_2.toList=([]:List UInt8)
    ·rw [if_pos c34] at H
     have c34b0:(a0_2.toList == ([]:List UInt8))=true:=beq_iff_eq.mpr c34
     have c34b1:(a0_2.toList != ([]:List UInt8))=false:=bne_eq_false_iff_eq.mpr c34
     clear c34
     by_cases c35:a0_1=0
     ·rw [if_pos c35] at H
      have c35b0:(a0_1 == 0)=true:=beq_iff_eq.mpr c35
      have c35b1:(a0_1 != 0)=false:=bne_eq_false_iff_eq.mpr c35
      clear c35
      by_cases c36:(a0_3.size:Int)≤120
      ·rw [if_pos c36] at H
       have c36b0:decide ((a0_3.size:Int)≤120)=true:=dt_ c36
       have c36b1:decide (a0_3.size≤120)=true:=dt_ (by omega)
       clear c36
       by_cases c37:(l0_4.length:Int)=0
       ·rw [if_pos c37] at H
        have c37b0:((l0_4.length:Int) == 0)=true:=beq_iff_eq.mpr c37
        have c37b1:((l0_4.length:Int) != 0)=false:=bne_eq_false_iff_eq.mpr c37
        clear c37
        obtain rfl:=oi_ H
        go_enter Tryz.func44,Tryz.ntmps44
        go_wp2_with (first|((with_reducible refine gate_dst (N:=1) rfl ?_);(try (refine gate_guard (by rfl) ?_;dsimp only));refine box_event ?hg (N:=1) ?hd (cs:=#[.int .i64 a0_0,.int .i64 a0_1,.string a0_2,.string a0_3,.slice A0_4 l0_4.length c0_4,.slice A0_5 l0_5.length c0_5]) (t:=38) ?hr ?_;(case hd=>rfl);(case hg=>rfl);(case hr=>first|(go_simp;done)|(go_simp;rfl));intro gb117 hg w38 hbox hb;have n0_:=A_ (bp_ (by repeat (first|(with_reducible first|exact HB.out|apply ba_|apply pd_|apply b1_)|exact HB.out)) hb);have n1_:=A_ (hbox);have n2_:=A_ ((by rw [hg];exact (bz_ (by repeat (first|(with_reducible first|exact HB.out|apply ba_|apply pd_|apply b1_)|exact HB.out))):w.heap.size≤gb117));have n3_:=A_ ((by rw [hg];exact (bz_ (by repeat (first|(with_reducible first|exact HB.out|apply ba_|apply pd_|apply b1_)|exact HB.out))):w.heap.size≤gb117));clear HB;have HB:=n0_;have BK117:=n1_;have GW117:=n2_;have GE117:=n3_;clear n0_ n1_ n2_ n3_;clear hb hbox hg;have hcz39_0:w38.cell? ⟨gb117,0,none⟩=some (.int .i64 a0_0):=(bc_ BK117.out 0).trans rfl;have hcz39_1:w38.cell? ⟨gb117,1,none⟩=some (.int .i64 a0_1):=(bc_ BK117.out 1).trans rfl;have hcz39_2:w38.cell? ⟨gb117,2,none⟩=some (.string a0_2):=(bc_ BK117.out 2).trans rfl;have hcz39_3:w38.cell? ⟨gb117,3,none⟩=some (.string a0_3):=(bc_ BK117.out 3).trans rfl;have hcz39_4:w38.cell? ⟨gb117,4,none⟩=some (.slice A0_4 l0_4.length c0_4):=(bc_ BK117.out 4).trans rfl;have hcz39_5:w38.cell? ⟨gb117,5,none⟩=some (.slice A0_5 l0_5.length c0_5):=(bc_ BK117.out 5).trans rfl;have hfz39_0:=bf_ BK117.out 0;have hfz39_1:=bf_ BK117.out 1;have hfz39_2:=bf_ BK117.out 2;have hfz39_3:=bf_ BK117.out 3;have hfz39_4:=bf_ BK117.out 4;have hfz39_5:=bf_ BK117.out 5))
        go_ret
        exact ⟨by first|rfl|(simp [errW_none,errW_some] <;> rfl)|(simp [*,errW_none,errW_some] <;> rfl),by repeat (first|(with_reducible first|exact HB.out|apply ba_|apply pd_|apply b1_|refine bs_ ?_ GE117.out)|exact HB.out)⟩
       ·rw [if_neg c37] at H
        have c37b0:((l0_4.length:Int) == 0)=false:=beq_eq_false_iff_ne.mpr c37
        have c37b1:((l0_4.length:Int) != 0)=true:=bne_iff_ne.mpr c37
        have c37b2:¬ (l0_4=[]):=fun h_=>c37 (by rw [h_];rfl)
        obtain rfl:=oi_ H
        go_enter Tryz.func44,Tryz.ntmps44
        go_wp2_with (first|((with_reducible refine gate_dst (N:=1) rfl ?_);(try (refine gate_guard (by rfl) ?_;dsimp only));refine box_event ?hg (N:=1) ?hd (cs:=#[.int .i64 a0_0,.int .i64 a0_1,.string a0_2,.string a0_3,.slice A0_4 l0_4.length c0_4,.slice A0_5 l0_5.length c0_5]) (t:=38) ?hr ?_;(case hd=>rfl);(case hg=>rfl);(case hr=>first|(go_simp;done)|(go_simp;rfl));intro gb117 hg w40 hbox hb;have n0_:=A_ (bp_ (by repeat (first|(with_reducible first|exact HB.out|apply ba_|apply pd_|apply b1_)|exact HB.out)) hb);have n1_:=A_ (hbox);have n2_:=A_ ((by rw [hg];exact (bz_ (by repeat (first|(with_reducible first|exact HB.out|apply ba_|apply pd_|apply b1_)|exact HB.out))):w.heap.size≤gb117));have n3_:=A_ ((by rw [hg];exact (bz_ (by repeat (first|(with_reducible first|exact HB.out|apply ba_|apply pd_|apply b1_)|exact HB.out))):w.heap.size≤gb117));clear HB;have HB:=n0_;have BK117:=n1_;have GW117:=n2_;have GE117:=n3_;clear n0_ n1_ n2_ n3_;clear hb hbox hg;have hcz41_0:w40.cell? ⟨gb117,0,none⟩=some (.int .i64 a0_0):=(bc_ BK117.out 0).trans rfl;have hcz41_1:w40.cell? ⟨gb117,1,none⟩=some (.int .i64 a0_1):=(bc_ BK117.out 1).trans rfl;have hcz41_2:w40.cell? ⟨gb117,2,none⟩=some (.string a0_2):=(bc_ BK117.out 2).trans rfl;have hcz41_3:w40.cell? ⟨gb117,3,none⟩=some (.string a0_3):=(bc_ BK117.out 3).trans rfl;have hcz41_4:w40.cell? ⟨gb117,4,none⟩=some (.slice A0_4 l0_4.length c0_4):=(bc_ BK117.out 4).trans rfl;have hcz41_5:w40.cell? ⟨gb117,5,none⟩=some (.slice A0_5 l0_5.length c0_5):=(bc_ BK117.out 5).trans rfl;have hfz41_0:=bf_ BK117.out 0;have hfz41_1:=bf_ BK117.out 1;have hfz41_2:=bf_ BK117.out 2;have hfz41_3:=bf_ BK117.out 3;have hfz41_4:=bf_ BK117.out 4;have hfz41_5:=bf_ BK117.out 5))
        go_ret
        exact ⟨by first|rfl|(simp [errW_none,errW_some] <;> rfl)|(simp [*,errW_none,errW_some] <;> rfl),by repeat (first|(with_reducible first|exact HB.out|apply ba_|apply pd_|apply b1_|refine bs_ ?_ GE117.out)|exact HB.out)⟩
      ·rw [if_neg c36] at H
       have c36b0:decide ((a0_3.size:Int)≤120)=false:=df_ c36
       have c36b1:decide (a0_3.size≤120)=false:=df_ (by omega)
       clear c36
       obtain rfl:=oi_ H
       go_enter Tryz.func44,Tryz.ntmps44
       go_wp2_with (first|((with_reducible refine gate_dst (N:=1) rfl ?_);(try (refine gate_guard (by rfl) ?_;dsimp only));refine box_event ?hg (N:=1) ?hd (cs:=#[.int .i64 a0_0,.int .i64 a0_1,.string a0_2,.string a0_3,.slice A0_4 l0_4.length c0_4,.slice A0_5 l0_5.length c0_5]) (t:=38) ?hr ?_;(case hd=>rfl);(case hg=>rfl);(case hr=>first|(go_simp;done)|(go_simp;rfl));intro gb117 hg w42 hbox hb;have n0_:=A_ (bp_ (by repeat (first|(with_reducible first|exact HB.out|apply ba_|apply pd_|apply b1_)|exact HB.out)) hb);have n1_:=A_ (hbox);have n2_:=A_ ((by rw [hg];exact (bz_ (by repeat (first|(with_reducible first|exact HB.out|apply ba_|apply pd_|apply b1_)|exact HB.out))):w.heap.size≤gb117));have n3_:=A_ ((by rw [hg];exact (bz_ (by repeat (first|(with_reducible first|exact HB.out|apply ba_|apply pd_|apply b1_)|exact HB.out))):w.heap.size≤gb117));clear HB;have HB:=n0_;have BK117:=n1_;have GW117:=n2_;have GE117:=n3_;clear n0_ n1_ n2_ n3_;clear hb hbox hg;have hcz43_0:w42.cell? ⟨gb117,0,none⟩=some (.int .i64 a0_0):=(bc_ BK117.out 0).trans rfl;have hcz43_1:w42.cell? ⟨gb117,1,none⟩=some (.int .i64 a0_1):=(bc_ BK117.out 1).trans rfl;have hcz43_2:w42.cell? ⟨gb117,2,none⟩=some (.string a0_2):=(bc_ BK117.out 2).trans rfl;have hcz43_3:w42.cell? ⟨gb117,3,none⟩=some (.string a0_3):=(bc_ BK117.out 3).trans rfl;have hcz43_4:w42.cell? ⟨gb117,4,none⟩=some (.slice A0_4 l0_4.length c0_4):=(bc_ BK117.out 4).trans rfl;have hcz43_5:w42.cell? ⟨gb117,5,none⟩=some (.slice A0_5 l0_5.length c0_5):=(bc_ BK117.out 5).trans rfl;have hfz43_0:=bf_ BK117.out 0;have hfz43_1:=bf_ BK117.out 1;have hfz43_2:=bf_ BK117.out 2;have hfz43_3:=bf_ BK117.out 3;have hfz43_4:=bf_ BK117.out 4;have hfz43_5:=bf_ BK117.out 5))
       go_ret
       exact ⟨by first|rfl|(simp [errW_none,errW_some] <;> rfl)|(simp [*,errW_none,errW_some] <;> rfl),by repeat (first|(with_reducible first|exact HB.out|apply ba_|apply pd_|apply b1_|refine bs_ ?_ GE117.out)|exact HB.out)⟩
     ·rw [if_neg c35] at H
      have c35b0:(a0_1 == 0)=false:=beq_eq_false_iff_ne.mpr c35
      have c35b1:(a0_1 != 0)=true:=bne_iff_ne.mpr c35
      obtain rfl:=oi_ H
      go_enter Tryz.func44,Tryz.ntmps44
      go_wp2_with (first|((with_reducible refine gate_dst (N:=1) rfl ?_);(try (refine gate_guard (by rfl) ?_;dsimp only));refine box_event ?hg (N:=1) ?hd (cs:=#[.int .i64 a0_0,.int .i64 a0_1,.string a0_2,.string a0_3,.slice A0_4 l0_4.length c0_4,.slice A0_5 l0_5.length c0_5]) (t:=38) ?hr ?_;(case hd=>rfl);(case hg=>rfl);(case hr=>first|(go_simp;done)|(go_simp;rfl));intro gb117 hg w44 hbox hb;have n0_:=A_ (bp_ (by repeat (first|(with_reducible first|exact HB.out|apply ba_|apply pd_|apply b1_)|exact HB.out)) hb);have n1_:=A_ (hbox);have n2_:=A_ ((by rw [hg];exact (bz_ (by repeat (first|(with_reducible first|exact HB.out|apply ba_|apply pd_|apply b1_)|exact HB.out))):w.heap.size≤gb117));have n3_:=A_ ((by rw [hg];exact (bz_ (by repeat (first|(with_reducible first|exact HB.out|apply ba_|apply pd_|apply b1_)|exact HB.out))):w.heap.size≤gb117));clear HB;have HB:=n0_;have BK117:=n1_;have GW117:=n2_;have GE117:=n3_;clear n0_ n1_ n2_ n3_;clear hb hbox hg;have hcz45_0:w44.cell? ⟨gb117,0,none⟩=some (.int .i64 a0_0):=(bc_ BK117.out 0).trans rfl;have hcz45_1:w44.cell? ⟨gb117,1,none⟩=some (.int .i64 a0_1):=(bc_ BK117.out 1).trans rfl;have hcz45_2:w44.cell? ⟨gb117,2,none⟩=some (.string a0_2):=(bc_ BK117.out 2).trans rfl;have hcz45_3:w44.cell? ⟨gb117,3,none⟩=some (.string a0_3):=(bc_ BK117.out 3).trans rfl;have hcz45_4:w44.cell? ⟨gb117,4,none⟩=some (.slice A0_4 l0_4.length c0_4):=(bc_ BK117.out 4).trans rfl;have hcz45_5:w44.cell? ⟨gb117,5,none⟩=some (.slice A0_5 l0_5.length c0_5):=(bc_ BK117.out 5).trans rfl;have hfz45_0:=bf_ BK117.out 0;have hfz45_1:=bf_ BK117.out 1;have hfz45_2:=bf_ BK117.out 2;have hfz45_3:=bf_ BK117.out 3;have hfz45_4:=bf_ BK117.out 4;have hfz45_5:=bf_ BK117.out 5))
      go_ret
      exact ⟨by first|rfl|(simp [errW_none,errW_some] <;> rfl)|(simp [*,errW_none,errW_some] <;> rfl),by repeat (first|(with_reducible first|exact HB.out|apply ba_|apply pd_|apply b1_|refine bs_ ?_ GE117.out)|exact HB.out)⟩
    ·rw [if_neg c34] at H
     have c34b0:(a0_2.toList == ([]:List UInt8))=false:=beq_eq_false_iff_ne.mpr c34
     have c34b1:(a0_2.toList != ([]:List UInt8))=true:=bne_iff_ne.mpr c34
     obtain rfl:=oi_ H
     go_enter Tryz.func44,Tryz.ntmps44
     go_wp2_with (first|((with_reducible refine gate_dst (N:=1) rfl ?_);(try (refine gate_guard (by rfl) ?_;dsimp only));refine box_event ?hg (N:=1) ?hd (cs:=#[.int .i64 a0_0,.int .i64 a0_1,.string a0_2,.string a0_3,.slice A0_4 l0_4.length c0_4,.slice A0_5 l0_5.length c0_5]) (t:=38) ?hr ?_;(case hd=>rfl);(case hg=>rfl);(case hr=>first|(go_simp;done)|(go_simp;rfl));intro gb117 hg w46 hbox hb;have n0_:=A_ (bp_ (by repeat (first|(with_reducible first|exact HB.out|apply ba_|apply pd_|apply b1_)|exact HB.out)) hb);have n1_:=A_ (hbox);have n2_:=A_ ((by rw [hg];exact (bz_ (by repeat (first|(with_reducible first|exact HB.out|apply ba_|apply pd_|apply b1_)|exact HB.out))):w.heap.size≤gb117));have n3_:=A_ ((by rw [hg];exact (bz_ (by repeat (first|(with_reducible first|exact HB.out|apply ba_|apply pd_|apply b1_)|exact HB.out))):w.heap.size≤gb117));clear HB;have HB:=n0_;have BK117:=n1_;have GW117:=n2_;have GE117:=n3_;clear n0_ n1_ n2_ n3_;clear hb hbox hg;have hcz47_0:w46.cell? ⟨gb117,0,none⟩=some (.int .i64 a0_0):=(bc_ BK117.out 0).trans rfl;have hcz47_1:w46.cell? ⟨gb117,1,none⟩=some (.int .i64 a0_1):=(bc_ BK117.out 1).trans rfl;have hcz47_2:w46.cell? ⟨gb117,2,none⟩=some (.string a0_2):=(bc_ BK117.out 2).trans rfl;have hcz47_3:w46.cell? ⟨gb117,3,none⟩=some (.string a0_3):=(bc_ BK117.out 3).trans rfl;have hcz47_4:w46.cell? ⟨gb117,4,none⟩=some (.slice A0_4 l0_4.length c0_4):=(bc_ BK117.out 4).trans rfl;have hcz47_5:w46.cell? ⟨gb117,5,none⟩=some (.slice A0_5 l0_5.length c0_5):=(bc_ BK117.out 5).trans rfl;have hfz47_0:=bf_ BK117.out 0;have hfz47_1:=bf_ BK117.out 1;have hfz47_2:=bf_ BK117.out 2;have hfz47_3:=bf_ BK117.out 3;have hfz47_4:=bf_ BK117.out 4;have hfz47_5:=bf_ BK117.out 5))
     go_ret
     exact ⟨by first|rfl|(simp [errW_none,errW_some] <;> rfl)|(simp [*,errW_none,errW_some] <;> rfl),by repeat (first|(with_reducible first|exact HB.out|apply ba_|apply pd_|apply b1_|refine bs_ ?_ GE117.out)|exact HB.out)⟩
   ·rw [if_neg c33] at H
    have c33b0:(a0_0 == 3)=false:=beq_eq_false_iff_ne.mpr c33
    have c33b1:(a0_0 != 3)=true:=bne_iff_ne.mpr c33
    obtain rfl:=oi_ H
    go_enter Tryz.func44,Tryz.ntmps44
    go_wp2_with (first|((with_reducible refine gate_dst (N:=1) rfl ?_);(try (refine gate_guard (by rfl) ?_;dsimp only));refine box_event ?hg (N:=1) ?hd (cs:=#[.int .i64 a0_0,.int .i64 a0_1,.string a0_2,.string a0_3,.slice A0_4 l0_4.length c0_4,.slice A0_5 l0_5.length c0_5]) (t:=38) ?hr ?_;(case hd=>rfl);(case hg=>rfl);(case hr=>first|(go_simp;done)|(go_simp;rfl));intro gb117 hg w48 hbox hb;have n0_:=A_ (bp_ (by repeat (first|(with_reducible first|exact HB.out|apply ba_|apply pd_|apply b1_)|exact HB.out)) hb);have n1_:=A_ (hbox);have n2_:=A_ ((by rw [hg];exact (bz_ (by repeat (first|(with_reducible first|exact HB.out|apply ba_|apply pd_|apply b1_)|exact HB.out))):w.heap.size≤gb117));have n3_:=A_ ((by rw [hg];exact (bz_ (by repeat (first|(with_reducible first|exact HB.out|apply ba_|apply pd_|apply b1_)|exact HB.out))):w.heap.size≤gb117));clear HB;have HB:=n0_;have BK117:=n1_;have GW117:=n2_;have GE117:=n3_;clear n0_ n1_ n2_ n3_;clear hb hbox hg;have hcz49_0:w48.cell? ⟨gb117,0,none⟩=some (.int .i64 a0_0):=(bc_ BK117.out 0).trans rfl;have hcz49_1:w48.cell? ⟨gb117,1,none⟩=some (.int .i64 a0_1):=(bc_ BK117.out 1).trans rfl;have hcz49_2:w48.cell? ⟨gb117,2,none⟩=some (.string a0_2):=(bc_ BK117.out 2).trans rfl;have hcz49_3:w48.cell? ⟨gb117,3,none⟩=some (.string a0_3):=(bc_ BK117.out 3).trans rfl;have hcz49_4:w48.cell? ⟨gb117,4,none⟩=some (.slice A0_4 l0_4.length c0_4):=(bc_ BK117.out 4).trans rfl;have hcz49_5:w48.cell? ⟨gb117,5,none⟩=some (.slice A0_5 l0_5.length c0_5):=(bc_ BK117.out 5).trans rfl;have hfz49_0:=bf_ BK117.out 0;have hfz49_1:=bf_ BK117.out 1;have hfz49_2:=bf_ BK117.out 2;have hfz49_3:=bf_ BK117.out 3;have hfz49_4:=bf_ BK117.out 4;have hfz49_5:=bf_ BK117.out 5))
    go_ret
    exact ⟨by first|rfl|(simp [errW_none,errW_some] <;> rfl)|(simp [*,errW_none,errW_some] <;> rfl),by repeat (first|(with_reducible first|exact HB.out|apply ba_|apply pd_|apply b1_|refine bs_ ?_ GE117.out)|exact HB.out)⟩
/-! ### spec_l01Has: function 34 -/
def spec_l01Has.l0:Nat→List ByteArray→ByteArray→Int→Option (Bool)
 | 0,_,_,_=>none
 | k+1,x0,x1,x5=>if x5<(x0.length:Int) then (if 0≤x5 then (if (rdOf ByteArray.empty x0 x5).toList=x1.toList then (some true) else (spec_l01Has.l0 k x0 x1 (wrap64 (x5+1)))) else (none)) else (some false)
def spec_l01Has.f (k:Nat) (l0:List ByteArray) (a1:ByteArray):Option (Bool):=spec_l01Has.l0 k l0 a1 0
theorem spec_l01Has.mono_l:∀ k,(∀ y0 y1 y2,LeO (spec_l01Has.l0 k y0 y1 y2) (spec_l01Has.l0 (k+1) y0 y1 y2))
 | 0=>fun _ _ _ r h=>by simp [spec_l01Has.l0] at h
 | k+1=>by
  have ih0:=spec_l01Has.mono_l k
  ·intro y0 y1 y2
   unfold spec_l01Has.l0
   repeat' first
   | (with_reducible exact ih0 _ _ _)
   | (with_reducible exact LeO.refl _)
   | (with_reducible exact LeO.none _)
   | (with_reducible refine LeO.ite ?_ ?_)
   | (with_reducible refine LeO.bind ?_ (fun _=>?_))
   | exact ih0 _ _ _
   | exact LeO.none _
   | refine LeO.ite ?_ ?_
   | refine LeO.bind ?_ (fun _=>?_)
theorem spec_l01Has.mono:∀ a0 a1 k,LeO (spec_l01Has.f k a0 a1) (spec_l01Has.f (k+1) a0 a1):=by
 intro a0 a1 k
 have ih0:=spec_l01Has.mono_l k
 unfold spec_l01Has.f
 repeat' first
  | (with_reducible exact ih0 _ _ _)
  | (with_reducible exact LeO.refl _)
  | (with_reducible exact LeO.none _)
  | (with_reducible refine LeO.ite ?_ ?_)
  | (with_reducible refine LeO.bind ?_ (fun _=>?_))
  | exact ih0 _ _ _
  | exact LeO.none _
  | refine LeO.ite ?_ ?_
  | refine LeO.bind ?_ (fun _=>?_)
set_option maxHeartbeats 8000000 in
set_option maxRecDepth 100000 in
theorem spec_l01Has.calls (k:Nat) (A0:Option Addr) (c0:Nat) (l0:List ByteArray) (a1:ByteArray) (r:Bool) (w:World) (hr0:Kd.C Kd.string w A0 l0.length l0) (hc0:l0.length≤c0) (h:spec_l01Has.f k l0 a1=some r) :
 Calls Tryz.prog 34 #[.slice A0 l0.length c0,.string a1] w fun e w'=>e=.returned (.bool r)∧Drawn0 w w':=by
 have HR0:=A_ hr0
 have HC0:=A_ hc0
 clear hr0 hc0
 have H:(spec_l01Has.l0 k l0 a1 0)=some r:=h
 clear h
 have H':=A_ H
 clear H
 go_enter Tryz.func34,Tryz.ntmps34
 go_wp2
 go_loopg [5] k (fun kq v5 w'=>∃ (x5_1:Int),v5=.int .i64 x5_1∧Aside0 (spec_l01Has.l0 kq l0 a1 x5_1=some r)∧Aside0 (kq≤k)∧Drawn0 w w')
 case atStart=>exact ⟨(0),(by first|rfl|(simp;done)|(simp [*];done)),H',⟨Nat.le_refl _⟩,by repeat (first|exact dr_ _|apply dp_)⟩
 case round =>
  clear H'
  try clear p2
  obtain ⟨x5_1,rfl,HA,HK1,⟨m1,rfl⟩⟩:=hrel
  cases gk with
  | zero=>exact absurd HA.out (by simp [spec_l01Has.l0])
  | succ k1 =>
   have H:=HA.out
   clear HA
   simp only [spec_l01Has.l0] at H
   by_cases c3:x5_1<(l0.length:Int)
   ·rw [if_pos c3] at H
    have c3b0:decide (x5_1<(l0.length:Int))=true:=dt_ c3
    clear c3
    by_cases c4:0≤x5_1
    ·rw [if_pos c4] at H
     have c4b0:decide (0≤x5_1)=true:=dt_ c4
     clear c4
     by_cases c5:(rdOf ByteArray.empty l0 x5_1).toList=a1.toList
     ·rw [if_pos c5] at H
      have c5b0:((rdOf ByteArray.empty l0 x5_1).toList == a1.toList)=true:=beq_iff_eq.mpr c5
      have c5b1:((rdOf ByteArray.empty l0 x5_1).toList != a1.toList)=false:=bne_eq_false_iff_eq.mpr c5
      clear c5
      obtain rfl:=oi_ H
      have p122:0≤(x5_1:Int):=od_ (by first|(with_reducible assumption)|assumption)
      have q122:x5_1<(l0.length:Int):=od_ (by first|(with_reducible assumption)|assumption)
      obtain ⟨ad122,e122,hx122_0⟩:=Kd.at_string HR0.out x5_1 p122 q122
      cases e122
      replace p122:=eq_true p122
      replace q122:=eq_true q122
      go_wp2
      go_ret
      exact ⟨by first|rfl|(simp;done)|(simp [*];done),by repeat (first|exact dr_ _|apply dp_)⟩
     ·rw [if_neg c5] at H
      have c5b0:((rdOf ByteArray.empty l0 x5_1).toList == a1.toList)=false:=beq_eq_false_iff_ne.mpr c5
      have c5b1:((rdOf ByteArray.empty l0 x5_1).toList != a1.toList)=true:=bne_iff_ne.mpr c5
      have H':=A_ H
      clear H
      have p122:0≤(x5_1:Int):=od_ (by first|(with_reducible assumption)|assumption)
      have q122:x5_1<(l0.length:Int):=od_ (by first|(with_reducible assumption)|assumption)
      obtain ⟨ad122,e122,hx122_0⟩:=Kd.at_string HR0.out x5_1 p122 q122
      cases e122
      replace p122:=eq_true p122
      replace q122:=eq_true q122
      go_wp2
      go_roundg k1
      case measure=>have:=HK1.out;omega
      case rel=>exact ⟨(wrap64 (x5_1+1)),(by first|rfl|(simp;done)|(simp [*];done)),H',⟨by have:=HK1.out;omega⟩,by repeat (first|exact dr_ _|apply dp_)⟩
    ·rw [if_neg c4] at H
     exact absurd H (by simp)
   ·rw [if_neg c3] at H
    have c3b0:decide (x5_1<(l0.length:Int))=false:=df_ c3
    clear c3
    obtain rfl:=oi_ H
    go_wp2
    go_ret
    exact ⟨by first|rfl|(simp;done)|(simp [*];done),by repeat (first|exact dr_ _|apply dp_)⟩
theorem ev_l01Has (xs:List ByteArray) (t:ByteArray) (hn:xs.length≤9223372036854775807):Ev (fun k=>spec_l01Has.f k xs t) (Kit.hasT xs t):=by
 have key:∀ i,i≤xs.length→Ev (fun k=>spec_l01Has.l0 k xs t i) (Kit.hasT (xs.drop i) t):=by
  refine Kit.down ?_ ?_
  ·refine Ev.step (fun k=>rfl) ?_
   refine Kit.ev_neg (by omega) ?_
   rw [List.drop_length]
   exact Ev.now _
  ·intro i hi ih
   refine Ev.step (fun k=>rfl) ?_
   refine Kit.ev_pos (by omega) (Kit.ev_pos (by omega) ?_)
   rw [Kit.drop_getD ByteArray.empty xs i hi,Kit.hasT_cons,Kit.rdOf_nat,Kit.wrap_nat hi hn]
   refine Kit.ev_if (fun h=>?_) (fun h=>?_)
   ·rw [dt_ h.symm,Bool.true_or];exact Ev.now _
   ·rw [df_ (fun e=>h e.symm),Bool.false_or];exact ih
 exact key 0 (by omega)
theorem spec_l01Has.pure (A:Option Addr) (c:Nat) (xs:List ByteArray) (t:ByteArray) (W:World) (h:Kd.C Kd.string W A xs.length xs) (hc:xs.length≤c):Calls Tryz.prog 34 #[.slice A xs.length c,.string t] W fun e w'=>e=.returned (.bool (Kit.hasT xs t))∧Drawn0 W w':=by
 obtain ⟨K,hK⟩:=ev_l01Has xs t h.2.1
 exact spec_l01Has.calls K A c xs t _ W h hc (hK K (Nat.le_refl _))
/-! ### spec_l01Void: function 20 -/
def spec_l01Void.f (k:Nat) (a0:ByteArray):Option (Bool):=(spec_l01Has.f k (([(⟨#[98,114]⟩:ByteArray),(⟨#[104,114]⟩:ByteArray),(⟨#[105,109,103]⟩:ByteArray),(⟨#[105,110,112,117,116]⟩:ByteArray),(⟨#[109,101,116,97]⟩:ByteArray),(⟨#[108,105,110,107]⟩:ByteArray),(⟨#[98,97,115,101]⟩:ByteArray),(⟨#[101,109,98,101,100]⟩:ByteArray)]:List ByteArray)) a0).bind fun t126=>(some t126)
theorem spec_l01Void.mono:∀ a0 k,LeO (spec_l01Void.f k a0) (spec_l01Void.f (k+1) a0):=by
 intro a0 k
 unfold spec_l01Void.f
 repeat' first
  | (with_reducible exact spec_l01Has.mono _ _ _)
  | (with_reducible exact LeO.refl _)
  | (with_reducible exact LeO.none _)
  | (with_reducible refine LeO.ite ?_ ?_)
  | (with_reducible refine LeO.bind ?_ (fun _=>?_))
  | exact spec_l01Has.mono _ _ _
  | exact LeO.none _
  | refine LeO.ite ?_ ?_
  | refine LeO.bind ?_ (fun _=>?_)
set_option maxHeartbeats 8000000 in
set_option maxRecDepth 100000 in
theorem spec_l01Void.calls (k:Nat) (a0:ByteArray) (r:Bool) (w:World) (h:spec_l01Void.f k a0=some r) :
 Calls Tryz.prog 20 #[.string a0] w fun e w'=>e=.returned (.bool r)∧Below w.heap.size w w':=by
 have HB:=A_ (Below.refl w.heap.size w)
 have H:((spec_l01Has.f k (([(⟨#[98,114]⟩:ByteArray),(⟨#[104,114]⟩:ByteArray),(⟨#[105,109,103]⟩:ByteArray),(⟨#[105,110,112,117,116]⟩:ByteArray),(⟨#[109,101,116,97]⟩:ByteArray),(⟨#[108,105,110,107]⟩:ByteArray),(⟨#[98,97,115,101]⟩:ByteArray),(⟨#[101,109,98,101,100]⟩:ByteArray)]:List ByteArray)) a0).bind fun t126=>(some t126))=some r:=h
 clear h
 obtain ⟨y123,hy123⟩:∃ y_:List ByteArray,y_=(([(⟨#[98,114]⟩:ByteArray),(⟨#[104,114]⟩:ByteArray),(⟨#[105,109,103]⟩:ByteArray),(⟨#[105,110,112,117,116]⟩:ByteArray),(⟨#[109,101,116,97]⟩:ByteArray),(⟨#[108,105,110,107]⟩:ByteArray),(⟨#[98,97,115,101]⟩:ByteArray),(⟨#[101,109,98,101,100]⟩:ByteArray)]:List ByteArray)):=⟨_,rfl⟩
 replace H:((spec_l01Has.f k y123 a0).bind fun t126=>(some t126))=some r:=by first|(rw [hy123];with_reducible exact H)|(have H2_:=(Option.bind_some _ _).symm.trans H;rw [hy123];with_reducible exact H2_)|(have H2_:=(Option.bind_some _ _).symm.trans H;with_reducible exact H2_)|with_reducible exact H|(rw [hy123];exact H)|exact H
 have Ny123:=A_ hy123
 clear hy123
 replace H:=ob_ H
 obtain ⟨t126,A20,H⟩:=H
 replace H:(some t126)=some r:=H
 have A2:=A_ A20
 clear A20
 obtain rfl:=oi_ H
 go_enter Tryz.func20,Tryz.ntmps20
 go_wp2_with (first|((with_reducible refine gate_dst (N:=3) rfl ?_);refine Kd.R_lit Kd.string _ 9 ?hg (N:=3) ?hd (xs:=([(⟨#[98,114]⟩:ByteArray),(⟨#[104,114]⟩:ByteArray),(⟨#[105,109,103]⟩:ByteArray),(⟨#[105,110,112,117,116]⟩:ByteArray),(⟨#[109,101,116,97]⟩:ByteArray),(⟨#[108,105,110,107]⟩:ByteArray),(⟨#[98,97,115,101]⟩:ByteArray),(⟨#[101,109,98,101,100]⟩:ByteArray)]:List ByteArray)) (inner:=[.string (⟨#[98,114]⟩:ByteArray),.string (⟨#[104,114]⟩:ByteArray),.string (⟨#[105,109,103]⟩:ByteArray),.string (⟨#[105,110,112,117,116]⟩:ByteArray),.string (⟨#[109,101,116,97]⟩:ByteArray),.string (⟨#[108,105,110,107]⟩:ByteArray),.string (⟨#[98,97,115,101]⟩:ByteArray),.string (⟨#[101,109,98,101,100]⟩:ByteArray)]) (ok:=fun _=>True) (okp:=fun _=>True) ?hr ?hp (fun _ hk=>hk) trivial (Below.refl _ _) (Nat.le_refl _) (by simp) ?_;(case hd=>rfl);(case hg=>rfl);(case hr=>first|(go_simp;done)|(go_simp;rfl)|(first|(go_simp;done)|(go_simp;rfl)));(case hp=>exact (Reps.one (show Kd.M Kd.string _ _ _ (⟨#[98,114]⟩:ByteArray) [.string (⟨#[98,114]⟩:ByteArray)] from rfl) (Reps.one (show Kd.M Kd.string _ _ _ (⟨#[104,114]⟩:ByteArray) [.string (⟨#[104,114]⟩:ByteArray)] from rfl) (Reps.one (show Kd.M Kd.string _ _ _ (⟨#[105,109,103]⟩:ByteArray) [.string (⟨#[105,109,103]⟩:ByteArray)] from rfl) (Reps.one (show Kd.M Kd.string _ _ _ (⟨#[105,110,112,117,116]⟩:ByteArray) [.string (⟨#[105,110,112,117,116]⟩:ByteArray)] from rfl) (Reps.one (show Kd.M Kd.string _ _ _ (⟨#[109,101,116,97]⟩:ByteArray) [.string (⟨#[109,101,116,97]⟩:ByteArray)] from rfl) (Reps.one (show Kd.M Kd.string _ _ _ (⟨#[108,105,110,107]⟩:ByteArray) [.string (⟨#[108,105,110,107]⟩:ByteArray)] from rfl) (Reps.one (show Kd.M Kd.string _ _ _ (⟨#[98,97,115,101]⟩:ByteArray) [.string (⟨#[98,97,115,101]⟩:ByteArray)] from rfl) (Reps.one (show Kd.M Kd.string _ _ _ (⟨#[101,109,98,101,100]⟩:ByteArray) [.string (⟨#[101,109,98,101,100]⟩:ByteArray)] from rfl) (Reps.none _ _))))))))));intro v124 w3 ho4 hb hg_ hnew_;clear hg_ hnew_;(first|rw [←Ny123.out] at ho4|(simp only [Int.reduceToNat] at ho4;rw [←Ny123.out] at ho4));have n0_:=A_ (Kd.R_lower ho4 (bz_ (by repeat (first|(with_reducible first|exact HB.out|apply ba_|apply pd_|apply b1_)|exact HB.out))));have n1_:=A_ (bp_ (by repeat (first|(with_reducible first|exact HB.out|apply ba_|apply pd_|apply b1_)|exact HB.out)) hb);clear HB;have HO125:=n0_;have HB:=n1_;clear n0_ n1_;clear hb ho4;obtain ⟨Ao5,co5,eo5⟩:=Kd.R_slice HO125.out;subst eo5)|((with_reducible refine gate_callee (f:=34) rfl ?_);refine goesL_ (some 5) rfl rfl Tryz.func34 (by kernel_rfl) rfl #[.slice Ao5 y123.length co5,.string a0] rfl (by (try simp only [List.map_toArray,List.map_cons,List.map_nil]);first|done|rfl|(simp only [ld_,lt_];rfl)) ?_;(with_reducible refine (spec_l01Has.calls k _ _ y123 a0 t126 _ ?side1 ?side2 A2.out).mono ?_);(case side1=>repeat (first|exact (Kd.R_reads' HO125.out).2.2|(with_reducible refine ca_ ?_ _)|(with_reducible refine cn_ ?_ _)|(with_reducible refine cd_ ?_)));(case side2=>exact (Kd.R_reads' HO125.out).2.1);rintro e w' ⟨rfl,⟨nd,rfl⟩⟩;refine ⟨_,rfl,?_⟩))
 go_ret
 exact ⟨by first|rfl|(simp [errW_none,errW_some] <;> rfl)|(simp [*,errW_none,errW_some] <;> rfl),by repeat (first|(with_reducible first|exact HB.out|apply ba_|apply pd_|apply b1_)|exact HB.out)⟩
end Go.Proofs.YtlpncjeahdfolaaGreatDoor.PFnExactSerialize
