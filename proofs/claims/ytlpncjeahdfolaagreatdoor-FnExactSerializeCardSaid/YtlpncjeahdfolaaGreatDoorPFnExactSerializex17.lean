/- By a program of this session, out of the kit's print and contracts made by hand: the machine side of a law; Lean checks it. No conditions. -/
import Derived.Test.YtlpncjeahdfolaaGreatDoorPFnExactSerializex0
import Derived.Test.YtlpncjeahdfolaaGreatDoorPFnExactSerializex14
import Derived.Test.YtlpncjeahdfolaaGreatDoorPFnExactSerializex15
import Derived.Test.YtlpncjeahdfolaaGreatDoorPFnExactSerializex16
namespace Go.Proofs.YtlpncjeahdfolaaGreatDoor.PFnExactSerialize
open Go.RowKit Go.Proofs.YtlpncjeahdfolaaGreatDoorW.PrintWords Go.Proofs.YtlpncjeahdfolaaGreatDoorW.PrintLast Go.Proofs.YtlpncjeahdfolaaGreatDoorW.PrintMore
attribute [local go_sem] max2_int min2_int max_two min_two max_three min_three max_four min_four
set_option linter.unusedVariables false
set_option linter.unusedSimpArgs false
/-! ### impl_Node_isOwn: function 46 -/
def impl_Node_isOwn.f (k:Nat) (a0_0:Int) (a0_1:Int) (a0_2:ByteArray) (a0_3:ByteArray) (l0_4:List (S63)) (l0_5:List (S38)):Option (Bool):=if a0_0=1 then ((impl_TagOK.f k a0_2).bind fun t223=>(if t223=true then ((impl_within.f a0_1 0 2).bind fun t224=>(if t224=true then ((impl_areAttrs.f l0_4).bind fun t225=>(if t225=true then (some (a0_3.toList == ([]:List UInt8))) else (some false))) else (some false))) else (some false))) else (if a0_0=2 then ((impl_within.f (a0_3.size:Int) (wrap64 (3 - a0_0)) 120).bind fun t226=>(if t226=true then (if a0_1=0 then (if a0_2.toList=([]:List UInt8) then (if (l0_4.length:Int)=0 then (some ((l0_5.length:Int) == 0)) else (some false)) else (some false)) else (some false)) else (some false))) else (if a0_0=3 then ((impl_within.f (a0_3.size:Int) (wrap64 (3 - a0_0)) 120).bind fun t227=>(if t227=true then (if a0_1=0 then (if a0_2.toList=([]:List UInt8) then (if (l0_4.length:Int)=0 then (some ((l0_5.length:Int) == 0)) else (some false)) else (some false)) else (some false)) else (some false))) else (some false)))
theorem impl_Node_isOwn.mono:∀ a0 a1 a2 a3 a4 a5 k,LeO (impl_Node_isOwn.f k a0 a1 a2 a3 a4 a5) (impl_Node_isOwn.f (k+1) a0 a1 a2 a3 a4 a5):=by
 intro a0 a1 a2 a3 a4 a5 k
 unfold impl_Node_isOwn.f
 repeat' first
  | (with_reducible exact impl_TagOK.mono _ _)
  | (with_reducible exact LeO.refl _)
  | (with_reducible exact LeO.none _)
  | (with_reducible refine LeO.ite ?_ ?_)
  | (with_reducible refine LeO.bind ?_ (fun _=>?_))
  | exact impl_TagOK.mono _ _
  | exact LeO.none _
  | refine LeO.ite ?_ ?_
  | refine LeO.bind ?_ (fun _=>?_)
set_option maxHeartbeats 8000000 in
set_option maxRecDepth 100000 in
theorem impl_Node_isOwn.calls (k:Nat) (a0_0:Int) (a0_1:Int) (a0_2:ByteArray) (a0_3:ByteArray) (A0_4:Option Addr) (c0_4:Nat) (l0_4:List (S63)) (A0_5:Option Addr) (c0_5:Nat) (l0_5:List (S38)) (r:Bool) (w:World) (hr0_4:Kd.C k63 w A0_4 l0_4.length l0_4) (hc0_4:l0_4.length≤c0_4) (hr0_5:Kd.C k38 w A0_5 l0_5.length l0_5) (hc0_5:l0_5.length≤c0_5) (h:impl_Node_isOwn.f k a0_0 a0_1 a0_2 a0_3 l0_4 l0_5=some r) :
 Calls Tryz.prog 46 #[.agg #[.int .i64 a0_0,.int .i64 a0_1,.string a0_2,.string a0_3,.slice A0_4 l0_4.length c0_4,.slice A0_5 l0_5.length c0_5]] w fun e w'=>e=.returned (.bool r)∧Below w.heap.size w w':=by
 have hu38:=Tryz.underlying38
 have HR0_4:=A_ hr0_4
 have HC0_4:=A_ hc0_4
 clear hr0_4 hc0_4
 have HR0_5:=A_ hr0_5
 have HC0_5:=A_ hc0_5
 clear hr0_5 hc0_5
 have HB:=A_ (Below.refl w.heap.size w)
 have H:(if a0_0=1 then ((impl_TagOK.f k a0_2).bind fun t223=>(if t223=true then ((impl_within.f a0_1 0 2).bind fun t224=>(if t224=true then ((impl_areAttrs.f l0_4).bind fun t225=>(if t225=true then (some (a0_3.toList == ([]:List UInt8))) else (some false))) else (some false))) else (some false))) else (if a0_0=2 then ((impl_within.f (a0_3.size:Int) (wrap64 (3 - a0_0)) 120).bind fun t226=>(if t226=true then (if a0_1=0 then (if a0_2.toList=([]:List UInt8) then (if (l0_4.length:Int)=0 then (some ((l0_5.length:Int) == 0)) else (some false)) else (some false)) else (some false)) else (some false))) else (if a0_0=3 then ((impl_within.f (a0_3.size:Int) (wrap64 (3 - a0_0)) 120).bind fun t227=>(if t227=true then (if a0_1=0 then (if a0_2.toList=([]:List UInt8) then (if (l0_4.length:Int)=0 then (some ((l0_5.length:Int) == 0)) else (some false)) else (some false)) else (some false)) else (some false))) else (some false))))=some r:=h
 clear h
 by_cases c2:a0_0=1
 ·rw [if_pos c2] at H
  have c2b0:(a0_0 == 1)=true:=beq_iff_eq.mpr c2
  have c2b1:(a0_0 != 1)=false:=bne_eq_false_iff_eq.mpr c2
  clear c2
  replace H:=ob_ H
  obtain ⟨t223,A30,H⟩:=H
  replace H:(if t223=true then ((impl_within.f a0_1 0 2).bind fun t224=>(if t224=true then ((impl_areAttrs.f l0_4).bind fun t225=>(if t225=true then (some (a0_3.toList == ([]:List UInt8))) else (some false))) else (some false))) else (some false))=some r:=H
  have A3:=A_ A30
  clear A30
  by_cases c4:t223=true
  ·subst c4
   have H1:((impl_within.f a0_1 0 2).bind fun t224=>(if t224=true then ((impl_areAttrs.f l0_4).bind fun t225=>(if t225=true then (some (a0_3.toList == ([]:List UInt8))) else (some false))) else (some false)))=some r:=by rw [if_pos rfl] at H;exact H
   clear H
   have H:=H1
   clear H1
   replace H:=ob_ H
   obtain ⟨t224,A50,H⟩:=H
   replace H:(if t224=true then ((impl_areAttrs.f l0_4).bind fun t225=>(if t225=true then (some (a0_3.toList == ([]:List UInt8))) else (some false))) else (some false))=some r:=H
   have A5:=A_ A50
   clear A50
   by_cases c6:t224=true
   ·subst c6
    have H1:((impl_areAttrs.f l0_4).bind fun t225=>(if t225=true then (some (a0_3.toList == ([]:List UInt8))) else (some false)))=some r:=by rw [if_pos rfl] at H;exact H
    clear H
    have H:=H1
    clear H1
    replace H:=ob_ H
    obtain ⟨t225,A70,H⟩:=H
    replace H:(if t225=true then (some (a0_3.toList == ([]:List UInt8))) else (some false))=some r:=H
    have A7:=A_ A70
    clear A70
    by_cases c8:t225=true
    ·subst c8
     have H1:(some (a0_3.toList == ([]:List UInt8)))=some r:=by rw [if_pos rfl] at H;exact H
     clear H
     have H:=H1
     clear H1
     obtain rfl:=oi_ H
     go_enter Tryz.func46,Tryz.ntmps46
     go_wp2_with (first|((with_reducible refine gate_dst (N:=1) rfl ?_);(try (refine gate_guard (by rfl) ?_;dsimp only));refine box_event ?hg (N:=1) ?hd (cs:=#[.int .i64 a0_0,.int .i64 a0_1,.string a0_2,.string a0_3,.slice A0_4 l0_4.length c0_4,.slice A0_5 l0_5.length c0_5]) (t:=38) ?hr ?_;(case hd=>rfl);(case hg=>rfl);(case hr=>first|(go_simp;done)|(go_simp;rfl));intro gb222 hg w9 hbox hb;have n0_:=A_ (bp_ (by repeat (first|(with_reducible first|exact HB.out|apply ba_|apply pd_|apply b1_)|exact HB.out)) hb);have n1_:=A_ (hbox);have n2_:=A_ ((by rw [hg];exact (bz_ (by repeat (first|(with_reducible first|exact HB.out|apply ba_|apply pd_|apply b1_)|exact HB.out))):w.heap.size≤gb222));have n3_:=A_ ((by rw [hg];exact (bz_ (by repeat (first|(with_reducible first|exact HB.out|apply ba_|apply pd_|apply b1_)|exact HB.out))):w.heap.size≤gb222));clear HB;have HB:=n0_;have BK222:=n1_;have GW222:=n2_;have GE222:=n3_;clear n0_ n1_ n2_ n3_;clear hb hbox hg;have hcz10_0:w9.cell? ⟨gb222,0,none⟩=some (.int .i64 a0_0):=(bc_ BK222.out 0).trans rfl;have hcz10_1:w9.cell? ⟨gb222,1,none⟩=some (.int .i64 a0_1):=(bc_ BK222.out 1).trans rfl;have hcz10_2:w9.cell? ⟨gb222,2,none⟩=some (.string a0_2):=(bc_ BK222.out 2).trans rfl;have hcz10_3:w9.cell? ⟨gb222,3,none⟩=some (.string a0_3):=(bc_ BK222.out 3).trans rfl;have hcz10_4:w9.cell? ⟨gb222,4,none⟩=some (.slice A0_4 l0_4.length c0_4):=(bc_ BK222.out 4).trans rfl;have hcz10_5:w9.cell? ⟨gb222,5,none⟩=some (.slice A0_5 l0_5.length c0_5):=(bc_ BK222.out 5).trans rfl;have hfz10_0:=bf_ BK222.out 0;have hfz10_1:=bf_ BK222.out 1;have hfz10_2:=bf_ BK222.out 2;have hfz10_3:=bf_ BK222.out 3;have hfz10_4:=bf_ BK222.out 4;have hfz10_5:=bf_ BK222.out 5)|((with_reducible refine gate_callee (f:=56) rfl ?_);refine goesL_ (some 10) rfl rfl Tryz.func56 (by kernel_rfl) rfl #[.string a0_2] rfl (by (try simp only [List.map_toArray,List.map_cons,List.map_nil]);first|done|rfl|(simp only [ld_,lt_];rfl)) ?_;(with_reducible refine (impl_TagOK.calls k a0_2 true _ A3.out).mono ?_);rintro e w' ⟨rfl,⟨nd,rfl⟩⟩;refine ⟨_,rfl,?_⟩)|(go_at_call 57;(with_reducible refine (impl_within.calls a0_1 0 2 true _ A5.out).mono ?_);rintro e w' ⟨rfl,⟨nd,rfl⟩⟩)|(go_at_call 58;(with_reducible refine (impl_areAttrs.calls _ _ l0_4 true _ ?side1 ?side2 A7.out).mono ?_);(case side1=>repeat (first|exact (cb_ HR0_4.out (by repeat (first|(with_reducible first|exact HB.out|apply ba_|apply pd_|apply b1_|refine bs_ ?_ GE222.out)|exact HB.out)))|(with_reducible refine ca_ ?_ _)|(with_reducible refine cn_ ?_ _)|(with_reducible refine cd_ ?_)));(case side2=>exact HC0_4.out);rintro e w11 ⟨rfl,hb⟩;have n0_:=A_ (kb_ (g:=gb222) (o:=.cells #[.int .i64 a0_0,.int .i64 a0_1,.string a0_2,.string a0_3,.slice A0_4 l0_4.length c0_4,.slice A0_5 l0_5.length c0_5] 38 (0,0)) (by (with_reducible repeat (first|refine kn_ ?_ _|refine kd_ ?_|refine ka_ ?_ _));exact BK222.out) hb);have n1_:=A_ (bp_ (by repeat (first|(with_reducible first|exact HB.out|apply ba_|apply pd_|apply b1_|refine bs_ ?_ GE222.out)|exact HB.out)) hb);clear BK222;clear HB;have BK222:=n0_;have HB:=n1_;clear n0_ n1_;(try clear hb);(try clear hb2);(try clear hk);(try clear hi);have hcz12_0:w11.cell? ⟨gb222,0,none⟩=some (.int .i64 a0_0):=(bc_ BK222.out 0).trans rfl;have hcz12_1:w11.cell? ⟨gb222,1,none⟩=some (.int .i64 a0_1):=(bc_ BK222.out 1).trans rfl;have hcz12_2:w11.cell? ⟨gb222,2,none⟩=some (.string a0_2):=(bc_ BK222.out 2).trans rfl;have hcz12_3:w11.cell? ⟨gb222,3,none⟩=some (.string a0_3):=(bc_ BK222.out 3).trans rfl;have hcz12_4:w11.cell? ⟨gb222,4,none⟩=some (.slice A0_4 l0_4.length c0_4):=(bc_ BK222.out 4).trans rfl;have hcz12_5:w11.cell? ⟨gb222,5,none⟩=some (.slice A0_5 l0_5.length c0_5):=(bc_ BK222.out 5).trans rfl;have hfz12_0:=bf_ BK222.out 0;have hfz12_1:=bf_ BK222.out 1;have hfz12_2:=bf_ BK222.out 2;have hfz12_3:=bf_ BK222.out 3;have hfz12_4:=bf_ BK222.out 4;have hfz12_5:=bf_ BK222.out 5))
     go_ret
     exact ⟨by first|rfl|(simp [errW_none,errW_some] <;> rfl)|(simp [*,errW_none,errW_some] <;> rfl),by repeat (first|(with_reducible first|exact HB.out|apply ba_|apply pd_|apply b1_|refine bs_ ?_ GE222.out)|exact HB.out)⟩
    ·replace c8:=bm_ c8
     subst c8
     have H1:(some false)=some r:=by rw [if_neg (show ¬ (false=true) by decide)] at H;exact H
     clear H
     have H:=H1
     clear H1
     obtain rfl:=oi_ H
     go_enter Tryz.func46,Tryz.ntmps46
     go_wp2_with (first|((with_reducible refine gate_dst (N:=1) rfl ?_);(try (refine gate_guard (by rfl) ?_;dsimp only));refine box_event ?hg (N:=1) ?hd (cs:=#[.int .i64 a0_0,.int .i64 a0_1,.string a0_2,.string a0_3,.slice A0_4 l0_4.length c0_4,.slice A0_5 l0_5.length c0_5]) (t:=38) ?hr ?_;(case hd=>rfl);(case hg=>rfl);(case hr=>first|(go_simp;done)|(go_simp;rfl));intro gb222 hg w13 hbox hb;have n0_:=A_ (bp_ (by repeat (first|(with_reducible first|exact HB.out|apply ba_|apply pd_|apply b1_)|exact HB.out)) hb);have n1_:=A_ (hbox);have n2_:=A_ ((by rw [hg];exact (bz_ (by repeat (first|(with_reducible first|exact HB.out|apply ba_|apply pd_|apply b1_)|exact HB.out))):w.heap.size≤gb222));have n3_:=A_ ((by rw [hg];exact (bz_ (by repeat (first|(with_reducible first|exact HB.out|apply ba_|apply pd_|apply b1_)|exact HB.out))):w.heap.size≤gb222));clear HB;have HB:=n0_;have BK222:=n1_;have GW222:=n2_;have GE222:=n3_;clear n0_ n1_ n2_ n3_;clear hb hbox hg;have hcz14_0:w13.cell? ⟨gb222,0,none⟩=some (.int .i64 a0_0):=(bc_ BK222.out 0).trans rfl;have hcz14_1:w13.cell? ⟨gb222,1,none⟩=some (.int .i64 a0_1):=(bc_ BK222.out 1).trans rfl;have hcz14_2:w13.cell? ⟨gb222,2,none⟩=some (.string a0_2):=(bc_ BK222.out 2).trans rfl;have hcz14_3:w13.cell? ⟨gb222,3,none⟩=some (.string a0_3):=(bc_ BK222.out 3).trans rfl;have hcz14_4:w13.cell? ⟨gb222,4,none⟩=some (.slice A0_4 l0_4.length c0_4):=(bc_ BK222.out 4).trans rfl;have hcz14_5:w13.cell? ⟨gb222,5,none⟩=some (.slice A0_5 l0_5.length c0_5):=(bc_ BK222.out 5).trans rfl;have hfz14_0:=bf_ BK222.out 0;have hfz14_1:=bf_ BK222.out 1;have hfz14_2:=bf_ BK222.out 2;have hfz14_3:=bf_ BK222.out 3;have hfz14_4:=bf_ BK222.out 4;have hfz14_5:=bf_ BK222.out 5)|((with_reducible refine gate_callee (f:=56) rfl ?_);refine goesL_ (some 10) rfl rfl Tryz.func56 (by kernel_rfl) rfl #[.string a0_2] rfl (by (try simp only [List.map_toArray,List.map_cons,List.map_nil]);first|done|rfl|(simp only [ld_,lt_];rfl)) ?_;(with_reducible refine (impl_TagOK.calls k a0_2 true _ A3.out).mono ?_);rintro e w' ⟨rfl,⟨nd,rfl⟩⟩;refine ⟨_,rfl,?_⟩)|(go_at_call 57;(with_reducible refine (impl_within.calls a0_1 0 2 true _ A5.out).mono ?_);rintro e w' ⟨rfl,⟨nd,rfl⟩⟩)|(go_at_call 58;(with_reducible refine (impl_areAttrs.calls _ _ l0_4 false _ ?side1 ?side2 A7.out).mono ?_);(case side1=>repeat (first|exact (cb_ HR0_4.out (by repeat (first|(with_reducible first|exact HB.out|apply ba_|apply pd_|apply b1_|refine bs_ ?_ GE222.out)|exact HB.out)))|(with_reducible refine ca_ ?_ _)|(with_reducible refine cn_ ?_ _)|(with_reducible refine cd_ ?_)));(case side2=>exact HC0_4.out);rintro e w15 ⟨rfl,hb⟩;have n0_:=A_ (kb_ (g:=gb222) (o:=.cells #[.int .i64 a0_0,.int .i64 a0_1,.string a0_2,.string a0_3,.slice A0_4 l0_4.length c0_4,.slice A0_5 l0_5.length c0_5] 38 (0,0)) (by (with_reducible repeat (first|refine kn_ ?_ _|refine kd_ ?_|refine ka_ ?_ _));exact BK222.out) hb);have n1_:=A_ (bp_ (by repeat (first|(with_reducible first|exact HB.out|apply ba_|apply pd_|apply b1_|refine bs_ ?_ GE222.out)|exact HB.out)) hb);clear BK222;clear HB;have BK222:=n0_;have HB:=n1_;clear n0_ n1_;(try clear hb);(try clear hb2);(try clear hk);(try clear hi)))
     go_ret
     exact ⟨by first|rfl|(simp [errW_none,errW_some] <;> rfl)|(simp [*,errW_none,errW_some] <;> rfl),by repeat (first|(with_reducible first|exact HB.out|apply ba_|apply pd_|apply b1_|refine bs_ ?_ GE222.out)|exact HB.out)⟩
   ·replace c6:=bm_ c6
    subst c6
    have H1:(some false)=some r:=by rw [if_neg (show ¬ (false=true) by decide)] at H;exact H
    clear H
    have H:=H1
    clear H1
    obtain rfl:=oi_ H
    go_enter Tryz.func46,Tryz.ntmps46
    go_wp2_with (first|((with_reducible refine gate_dst (N:=1) rfl ?_);(try (refine gate_guard (by rfl) ?_;dsimp only));refine box_event ?hg (N:=1) ?hd (cs:=#[.int .i64 a0_0,.int .i64 a0_1,.string a0_2,.string a0_3,.slice A0_4 l0_4.length c0_4,.slice A0_5 l0_5.length c0_5]) (t:=38) ?hr ?_;(case hd=>rfl);(case hg=>rfl);(case hr=>first|(go_simp;done)|(go_simp;rfl));intro gb222 hg w16 hbox hb;have n0_:=A_ (bp_ (by repeat (first|(with_reducible first|exact HB.out|apply ba_|apply pd_|apply b1_)|exact HB.out)) hb);have n1_:=A_ (hbox);have n2_:=A_ ((by rw [hg];exact (bz_ (by repeat (first|(with_reducible first|exact HB.out|apply ba_|apply pd_|apply b1_)|exact HB.out))):w.heap.size≤gb222));have n3_:=A_ ((by rw [hg];exact (bz_ (by repeat (first|(with_reducible first|exact HB.out|apply ba_|apply pd_|apply b1_)|exact HB.out))):w.heap.size≤gb222));clear HB;have HB:=n0_;have BK222:=n1_;have GW222:=n2_;have GE222:=n3_;clear n0_ n1_ n2_ n3_;clear hb hbox hg;have hcz17_0:w16.cell? ⟨gb222,0,none⟩=some (.int .i64 a0_0):=(bc_ BK222.out 0).trans rfl;have hcz17_1:w16.cell? ⟨gb222,1,none⟩=some (.int .i64 a0_1):=(bc_ BK222.out 1).trans rfl;have hcz17_2:w16.cell? ⟨gb222,2,none⟩=some (.string a0_2):=(bc_ BK222.out 2).trans rfl;have hcz17_3:w16.cell? ⟨gb222,3,none⟩=some (.string a0_3):=(bc_ BK222.out 3).trans rfl;have hcz17_4:w16.cell? ⟨gb222,4,none⟩=some (.slice A0_4 l0_4.length c0_4):=(bc_ BK222.out 4).trans rfl;have hcz17_5:w16.cell? ⟨gb222,5,none⟩=some (.slice A0_5 l0_5.length c0_5):=(bc_ BK222.out 5).trans rfl;have hfz17_0:=bf_ BK222.out 0;have hfz17_1:=bf_ BK222.out 1;have hfz17_2:=bf_ BK222.out 2;have hfz17_3:=bf_ BK222.out 3;have hfz17_4:=bf_ BK222.out 4;have hfz17_5:=bf_ BK222.out 5)|((with_reducible refine gate_callee (f:=56) rfl ?_);refine goesL_ (some 10) rfl rfl Tryz.func56 (by kernel_rfl) rfl #[.string a0_2] rfl (by (try simp only [List.map_toArray,List.map_cons,List.map_nil]);first|done|rfl|(simp only [ld_,lt_];rfl)) ?_;(with_reducible refine (impl_TagOK.calls k a0_2 true _ A3.out).mono ?_);rintro e w' ⟨rfl,⟨nd,rfl⟩⟩;refine ⟨_,rfl,?_⟩)|(go_at_call 57;(with_reducible refine (impl_within.calls a0_1 0 2 false _ A5.out).mono ?_);rintro e w' ⟨rfl,⟨nd,rfl⟩⟩))
    go_ret
    exact ⟨by first|rfl|(simp [errW_none,errW_some] <;> rfl)|(simp [*,errW_none,errW_some] <;> rfl),by repeat (first|(with_reducible first|exact HB.out|apply ba_|apply pd_|apply b1_|refine bs_ ?_ GE222.out)|exact HB.out)⟩
  ·replace c4:=bm_ c4
   subst c4
   have H1:(some false)=some r:=by rw [if_neg (show ¬ (false=true) by decide)] at H;exact H
   clear H
   have H:=H1
   clear H1
   obtain rfl:=oi_ H
   go_enter Tryz.func46,Tryz.ntmps46
   go_wp2_with (first|((with_reducible refine gate_dst (N:=1) rfl ?_);(try (refine gate_guard (by rfl) ?_;dsimp only));refine box_event ?hg (N:=1) ?hd (cs:=#[.int .i64 a0_0,.int .i64 a0_1,.string a0_2,.string a0_3,.slice A0_4 l0_4.length c0_4,.slice A0_5 l0_5.length c0_5]) (t:=38) ?hr ?_;(case hd=>rfl);(case hg=>rfl);(case hr=>first|(go_simp;done)|(go_simp;rfl));intro gb222 hg w18 hbox hb;have n0_:=A_ (bp_ (by repeat (first|(with_reducible first|exact HB.out|apply ba_|apply pd_|apply b1_)|exact HB.out)) hb);have n1_:=A_ (hbox);have n2_:=A_ ((by rw [hg];exact (bz_ (by repeat (first|(with_reducible first|exact HB.out|apply ba_|apply pd_|apply b1_)|exact HB.out))):w.heap.size≤gb222));have n3_:=A_ ((by rw [hg];exact (bz_ (by repeat (first|(with_reducible first|exact HB.out|apply ba_|apply pd_|apply b1_)|exact HB.out))):w.heap.size≤gb222));clear HB;have HB:=n0_;have BK222:=n1_;have GW222:=n2_;have GE222:=n3_;clear n0_ n1_ n2_ n3_;clear hb hbox hg;have hcz19_0:w18.cell? ⟨gb222,0,none⟩=some (.int .i64 a0_0):=(bc_ BK222.out 0).trans rfl;have hcz19_1:w18.cell? ⟨gb222,1,none⟩=some (.int .i64 a0_1):=(bc_ BK222.out 1).trans rfl;have hcz19_2:w18.cell? ⟨gb222,2,none⟩=some (.string a0_2):=(bc_ BK222.out 2).trans rfl;have hcz19_3:w18.cell? ⟨gb222,3,none⟩=some (.string a0_3):=(bc_ BK222.out 3).trans rfl;have hcz19_4:w18.cell? ⟨gb222,4,none⟩=some (.slice A0_4 l0_4.length c0_4):=(bc_ BK222.out 4).trans rfl;have hcz19_5:w18.cell? ⟨gb222,5,none⟩=some (.slice A0_5 l0_5.length c0_5):=(bc_ BK222.out 5).trans rfl;have hfz19_0:=bf_ BK222.out 0;have hfz19_1:=bf_ BK222.out 1;have hfz19_2:=bf_ BK222.out 2;have hfz19_3:=bf_ BK222.out 3;have hfz19_4:=bf_ BK222.out 4;have hfz19_5:=bf_ BK222.out 5)|((with_reducible refine gate_callee (f:=56) rfl ?_);refine goesL_ (some 10) rfl rfl Tryz.func56 (by kernel_rfl) rfl #[.string a0_2] rfl (by (try simp only [List.map_toArray,List.map_cons,List.map_nil]);first|done|rfl|(simp only [ld_,lt_];rfl)) ?_;(with_reducible refine (impl_TagOK.calls k a0_2 false _ A3.out).mono ?_);rintro e w' ⟨rfl,⟨nd,rfl⟩⟩;refine ⟨_,rfl,?_⟩))
   go_ret
   exact ⟨by first|rfl|(simp [errW_none,errW_some] <;> rfl)|(simp [*,errW_none,errW_some] <;> rfl),by repeat (first|(with_reducible first|exact HB.out|apply ba_|apply pd_|apply b1_|refine bs_ ?_ GE222.out)|exact HB.out)⟩
 ·rw [if_neg c2] at H
  have c2b0:(a0_0 == 1)=false:=beq_eq_false_iff_ne.mpr c2
  have c2b1:(a0_0 != 1)=true:=bne_iff_ne.mpr c2
  by_cases c20:a0_0=2
  ·rw [if_pos c20] at H
   have c20b0:(a0_0 == 2)=true:=beq_iff_eq.mpr c20
   have c20b1:(a0_0 != 2)=false:=bne_eq_false_iff_eq.mpr c20
   clear c20
   replace H:=ob_ H
   obtain ⟨t226,A210,H⟩:=H
   replace H:(if t226=true then (if a0_1=0 then (if a0_2.toList=([]:List UInt8) then (if (l0_4.length:Int)=0 then (some ((l0_5.length:Int) == 0)) else (some false)) else (some false)) else (some false)) else (some false))=some r:=H
   have A21:=A_ A210
   clear A210
   by_cases c22:t226=true
   ·subst c22
    have H1:(if a0_1=0 then (if a0_2.toList=([]:List UInt8) then (if (l0_4.length:Int)=0 then (some ((l0_5.length:Int) == 0)) else (some false)) else (some false)) else (some false))=some r:=by rw [if_pos rfl] at H;exact H
    clear H
    have H:=H1
    clear H1
    by_cases c23:a0_1=0
    ·rw [if_pos c23] at H
     have c23b0:(a0_1 == 0)=true:=beq_iff_eq.mpr c23
     have c23b1:(a0_1 != 0)=false:=bne_eq_false_iff_eq.mpr c23
     clear c23
     by_cases c24:a0_2.toList=([]:List UInt8)
     ·rw [if_pos c24] at H
      have c24b0:(a0_2.toList == ([]:List UInt8))=true:=beq_iff_eq.mpr c24
      have c24b1:(a0_2.toList != ([]:List UInt8))=false:=bne_eq_false_iff_eq.mpr c24
      clear c24
      by_cases c25:(l0_4.length:Int)=0
      ·rw [if_pos c25] at H
       have c25b0:((l0_4.length:Int) == 0)=true:=beq_iff_eq.mpr c25
       have c25b1:((l0_4.length:Int) != 0)=false:=bne_eq_false_iff_eq.mpr c25
       clear c25
       obtain rfl:=oi_ H
       go_enter Tryz.func46,Tryz.ntmps46
       go_wp2_with (first|((with_reducible refine gate_dst (N:=1) rfl ?_);(try (refine gate_guard (by rfl) ?_;dsimp only));refine box_event ?hg (N:=1) ?hd (cs:=#[.int .i64 a0_0,.int .i64 a0_1,.string a0_2,.string a0_3,.slice A0_4 l0_4.length c0_4,.slice A0_5 l0_5.length c0_5]) (t:=38) ?hr ?_;(case hd=>rfl);(case hg=>rfl);(case hr=>first|(go_simp;done)|(go_simp;rfl));intro gb222 hg w26 hbox hb;have n0_:=A_ (bp_ (by repeat (first|(with_reducible first|exact HB.out|apply ba_|apply pd_|apply b1_)|exact HB.out)) hb);have n1_:=A_ (hbox);have n2_:=A_ ((by rw [hg];exact (bz_ (by repeat (first|(with_reducible first|exact HB.out|apply ba_|apply pd_|apply b1_)|exact HB.out))):w.heap.size≤gb222));have n3_:=A_ ((by rw [hg];exact (bz_ (by repeat (first|(with_reducible first|exact HB.out|apply ba_|apply pd_|apply b1_)|exact HB.out))):w.heap.size≤gb222));clear HB;have HB:=n0_;have BK222:=n1_;have GW222:=n2_;have GE222:=n3_;clear n0_ n1_ n2_ n3_;clear hb hbox hg;have hcz27_0:w26.cell? ⟨gb222,0,none⟩=some (.int .i64 a0_0):=(bc_ BK222.out 0).trans rfl;have hcz27_1:w26.cell? ⟨gb222,1,none⟩=some (.int .i64 a0_1):=(bc_ BK222.out 1).trans rfl;have hcz27_2:w26.cell? ⟨gb222,2,none⟩=some (.string a0_2):=(bc_ BK222.out 2).trans rfl;have hcz27_3:w26.cell? ⟨gb222,3,none⟩=some (.string a0_3):=(bc_ BK222.out 3).trans rfl;have hcz27_4:w26.cell? ⟨gb222,4,none⟩=some (.slice A0_4 l0_4.length c0_4):=(bc_ BK222.out 4).trans rfl;have hcz27_5:w26.cell? ⟨gb222,5,none⟩=some (.slice A0_5 l0_5.length c0_5):=(bc_ BK222.out 5).trans rfl;have hfz27_0:=bf_ BK222.out 0;have hfz27_1:=bf_ BK222.out 1;have hfz27_2:=bf_ BK222.out 2;have hfz27_3:=bf_ BK222.out 3;have hfz27_4:=bf_ BK222.out 4;have hfz27_5:=bf_ BK222.out 5)|((with_reducible refine gate_callee (f:=57) rfl ?_);refine goesL_ (some 36) rfl rfl Tryz.func57 (by kernel_rfl) rfl #[.int .i64 (a0_3.size:Int),.int .i64 (wrap64 (3 - a0_0)),.int .i64 120] rfl (by (try simp only [List.map_toArray,List.map_cons,List.map_nil]);first|done|rfl|(simp only [ld_,lt_];rfl)) ?_;(with_reducible refine (impl_within.calls (a0_3.size:Int) (wrap64 (3 - a0_0)) 120 true _ A21.out).mono ?_);rintro e w' ⟨rfl,⟨nd,rfl⟩⟩;refine ⟨_,rfl,?_⟩))
       go_ret
       exact ⟨by first|rfl|(simp [errW_none,errW_some] <;> rfl)|(simp [*,errW_none,errW_some] <;> rfl),by repeat (first|(with_reducible first|exact HB.out|apply ba_|apply pd_|apply b1_|refine bs_ ?_ GE222.out)|exact HB.out)⟩
      ·rw [if_neg c25] at H
       have c25b0:((l0_4.length:Int) == 0)=false:=beq_eq_false_iff_ne.mpr c25
       have c25b1:((l0_4.length:Int) != 0)=true:=bne_iff_ne.mpr c25
       have c25b2:¬ (l0_4=[]):=fun h_=>c25 (by rw [h_];rfl)
       obtain rfl:=oi_ H
       go_enter Tryz.func46,Tryz.ntmps46
       go_wp2_with (first|((with_reducible refine gate_dst (N:=1) rfl ?_);(try (refine gate_guard (by rfl) ?_;dsimp only));refine box_event ?hg (N:=1) ?hd (cs:=#[.int .i64 a0_0,.int .i64 a0_1,.string a0_2,.string a0_3,.slice A0_4 l0_4.length c0_4,.slice A0_5 l0_5.length c0_5]) (t:=38) ?hr ?_;(case hd=>rfl);(case hg=>rfl);(case hr=>first|(go_simp;done)|(go_simp;rfl));intro gb222 hg w28 hbox hb;have n0_:=A_ (bp_ (by repeat (first|(with_reducible first|exact HB.out|apply ba_|apply pd_|apply b1_)|exact HB.out)) hb);have n1_:=A_ (hbox);have n2_:=A_ ((by rw [hg];exact (bz_ (by repeat (first|(with_reducible first|exact HB.out|apply ba_|apply pd_|apply b1_)|exact HB.out))):w.heap.size≤gb222));have n3_:=A_ ((by rw [hg];exact (bz_ (by repeat (first|(with_reducible first|exact HB.out|apply ba_|apply pd_|apply b1_)|exact HB.out))):w.heap.size≤gb222));clear HB;have HB:=n0_;have BK222:=n1_;have GW222:=n2_;have GE222:=n3_;clear n0_ n1_ n2_ n3_;clear hb hbox hg;have hcz29_0:w28.cell? ⟨gb222,0,none⟩=some (.int .i64 a0_0):=(bc_ BK222.out 0).trans rfl;have hcz29_1:w28.cell? ⟨gb222,1,none⟩=some (.int .i64 a0_1):=(bc_ BK222.out 1).trans rfl;have hcz29_2:w28.cell? ⟨gb222,2,none⟩=some (.string a0_2):=(bc_ BK222.out 2).trans rfl;have hcz29_3:w28.cell? ⟨gb222,3,none⟩=some (.string a0_3):=(bc_ BK222.out 3).trans rfl;have hcz29_4:w28.cell? ⟨gb222,4,none⟩=some (.slice A0_4 l0_4.length c0_4):=(bc_ BK222.out 4).trans rfl;have hcz29_5:w28.cell? ⟨gb222,5,none⟩=some (.slice A0_5 l0_5.length c0_5):=(bc_ BK222.out 5).trans rfl;have hfz29_0:=bf_ BK222.out 0;have hfz29_1:=bf_ BK222.out 1;have hfz29_2:=bf_ BK222.out 2;have hfz29_3:=bf_ BK222.out 3;have hfz29_4:=bf_ BK222.out 4;have hfz29_5:=bf_ BK222.out 5)|((with_reducible refine gate_callee (f:=57) rfl ?_);refine goesL_ (some 36) rfl rfl Tryz.func57 (by kernel_rfl) rfl #[.int .i64 (a0_3.size:Int),.int .i64 (wrap64 (3 - a0_0)),.int .i64 120] rfl (by (try simp only [List.map_toArray,List.map_cons,List.map_nil]);first|done|rfl|(simp only [ld_,lt_];rfl)) ?_;(with_reducible refine (impl_within.calls (a0_3.size:Int) (wrap64 (3 - a0_0)) 120 true _ A21.out).mono ?_);rintro e w' ⟨rfl,⟨nd,rfl⟩⟩;refine ⟨_,rfl,?_⟩))
       go_ret
       exact ⟨by first|rfl|(simp [errW_none,errW_some] <;> rfl)|(simp [*,errW_none,errW_some] <;> rfl),by repeat (first|(with_reducible first|exact HB.out|apply ba_|apply pd_|apply b1_|refine bs_ ?_ GE222.out)|exact HB.out)⟩
     ·rw [if_neg c24] at H
      have c24b0:(a0_2.toList == ([]:List UInt8))=false:=beq_eq_false_iff_ne.mpr c24
      have c24b1:(a0_2.toList != ([]:List UInt8))=true:=bne_iff_ne.mpr c24
      obtain rfl:=oi_ H
      go_enter Tryz.func46,Tryz.ntmps46
      go_wp2_with (first|((with_reducible refine gate_dst (N:=1) rfl ?_);(try (refine gate_guard (by rfl) ?_;dsimp only));refine box_event ?hg (N:=1) ?hd (cs:=#[.int .i64 a0_0,.int .i64 a0_1,.string a0_2,.string a0_3,.slice A0_4 l0_4.length c0_4,.slice A0_5 l0_5.length c0_5]) (t:=38) ?hr ?_;(case hd=>rfl);(case hg=>rfl);(case hr=>first|(go_simp;done)|(go_simp;rfl));intro gb222 hg w30 hbox hb;have n0_:=A_ (bp_ (by repeat (first|(with_reducible first|exact HB.out|apply ba_|apply pd_|apply b1_)|exact HB.out)) hb);have n1_:=A_ (hbox);have n2_:=A_ ((by rw [hg];exact (bz_ (by repeat (first|(with_reducible first|exact HB.out|apply ba_|apply pd_|apply b1_)|exact HB.out))):w.heap.size≤gb222));have n3_:=A_ ((by rw [hg];exact (bz_ (by repeat (first|(with_reducible first|exact HB.out|apply ba_|apply pd_|apply b1_)|exact HB.out))):w.heap.size≤gb222));clear HB;have HB:=n0_;have BK222:=n1_;have GW222:=n2_;have GE222:=n3_;clear n0_ n1_ n2_ n3_;clear hb hbox hg;have hcz31_0:w30.cell? ⟨gb222,0,none⟩=some (.int .i64 a0_0):=(bc_ BK222.out 0).trans rfl;have hcz31_1:w30.cell? ⟨gb222,1,none⟩=some (.int .i64 a0_1):=(bc_ BK222.out 1).trans rfl;have hcz31_2:w30.cell? ⟨gb222,2,none⟩=some (.string a0_2):=(bc_ BK222.out 2).trans rfl;have hcz31_3:w30.cell? ⟨gb222,3,none⟩=some (.string a0_3):=(bc_ BK222.out 3).trans rfl;have hcz31_4:w30.cell? ⟨gb222,4,none⟩=some (.slice A0_4 l0_4.length c0_4):=(bc_ BK222.out 4).trans rfl;have hcz31_5:w30.cell? ⟨gb222,5,none⟩=some (.slice A0_5 l0_5.length c0_5):=(bc_ BK222.out 5).trans rfl;have hfz31_0:=bf_ BK222.out 0;have hfz31_1:=bf_ BK222.out 1;have hfz31_2:=bf_ BK222.out 2;have hfz31_3:=bf_ BK222.out 3;have hfz31_4:=bf_ BK222.out 4;have hfz31_5:=bf_ BK222.out 5)|((with_reducible refine gate_callee (f:=57) rfl ?_);refine goesL_ (some 36) rfl rfl Tryz.func57 (by kernel_rfl) rfl #[.int .i64 (a0_3.size:Int),.int .i64 (wrap64 (3 - a0_0)),.int .i64 120] rfl (by (try simp only [List.map_toArray,List.map_cons,List.map_nil]);first|done|rfl|(simp only [ld_,lt_];rfl)) ?_;(with_reducible refine (impl_within.calls (a0_3.size:Int) (wrap64 (3 - a0_0)) 120 true _ A21.out).mono ?_);rintro e w' ⟨rfl,⟨nd,rfl⟩⟩;refine ⟨_,rfl,?_⟩))
      go_ret
      exact ⟨by first|rfl|(simp [errW_none,errW_some] <;> rfl)|(simp [*,errW_none,errW_some] <;> rfl),by repeat (first|(with_reducible first|exact HB.out|apply ba_|apply pd_|apply b1_|refine bs_ ?_ GE222.out)|exact HB.out)⟩
    ·rw [if_neg c23] at H
     have c23b0:(a0_1 == 0)=false:=beq_eq_false_iff_ne.mpr c23
     have c23b1:(a0_1 != 0)=true:=bne_iff_ne.mpr c23
     obtain rfl:=oi_ H
     go_enter Tryz.func46,Tryz.ntmps46
     go_wp2_with (first|((with_reducible refine gate_dst (N:=1) rfl ?_);(try (refine gate_guard (by rfl) ?_;dsimp only));refine box_event ?hg (N:=1) ?hd (cs:=#[.int .i64 a0_0,.int .i64 a0_1,.string a0_2,.string a0_3,.slice A0_4 l0_4.length c0_4,.slice A0_5 l0_5.length c0_5]) (t:=38) ?hr ?_;(case hd=>rfl);(case hg=>rfl);(case hr=>first|(go_simp;done)|(go_simp;rfl));intro gb222 hg w32 hbox hb;have n0_:=A_ (bp_ (by repeat (first|(with_reducible first|exact HB.out|apply ba_|apply pd_|apply b1_)|exact HB.out)) hb);have n1_:=A_ (hbox);have n2_:=A_ ((by rw [hg];exact (bz_ (by repeat (first|(with_reducible first|exact HB.out|apply ba_|apply pd_|apply b1_)|exact HB.out))):w.heap.size≤gb222));have n3_:=A_ ((by rw [hg];exact (bz_ (by repeat (first|(with_reducible first|exact HB.out|apply ba_|apply pd_|apply b1_)|exact HB.out))):w.heap.size≤gb222));clear HB;have HB:=n0_;have BK222:=n1_;have GW222:=n2_;have GE222:=n3_;clear n0_ n1_ n2_ n3_;clear hb hbox hg;have hcz33_0:w32.cell? ⟨gb222,0,none⟩=some (.int .i64 a0_0):=(bc_ BK222.out 0).trans rfl;have hcz33_1:w32.cell? ⟨gb222,1,none⟩=some (.int .i64 a0_1):=(bc_ BK222.out 1).trans rfl;have hcz33_2:w32.cell? ⟨gb222,2,none⟩=some (.string a0_2):=(bc_ BK222.out 2).trans rfl;have hcz33_3:w32.cell? ⟨gb222,3,none⟩=some (.string a0_3):=(bc_ BK222.out 3).trans rfl;have hcz33_4:w32.cell? ⟨gb222,4,none⟩=some (.slice A0_4 l0_4.length c0_4):=(bc_ BK222.out 4).trans rfl;have hcz33_5:w32.cell? ⟨gb222,5,none⟩=some (.slice A0_5 l0_5.length c0_5):=(bc_ BK222.out 5).trans rfl;have hfz33_0:=bf_ BK222.out 0;have hfz33_1:=bf_ BK222.out 1;have hfz33_2:=bf_ BK222.out 2;have hfz33_3:=bf_ BK222.out 3;have hfz33_4:=bf_ BK222.out 4;have hfz33_5:=bf_ BK222.out 5)|((with_reducible refine gate_callee (f:=57) rfl ?_);refine goesL_ (some 36) rfl rfl Tryz.func57 (by kernel_rfl) rfl #[.int .i64 (a0_3.size:Int),.int .i64 (wrap64 (3 - a0_0)),.int .i64 120] rfl (by (try simp only [List.map_toArray,List.map_cons,List.map_nil]);first|done|rfl|(simp only [ld_,lt_];rfl)) ?_;(with_reducible refine (impl_within.calls (a0_3.size:Int) (wrap64 (3 - a0_0)) 120 true _ A21.out).mono ?_);rintro e w' ⟨rfl,⟨nd,rfl⟩⟩;refine ⟨_,rfl,?_⟩))
     go_ret
     exact ⟨by first|rfl|(simp [errW_none,errW_some] <;> rfl)|(simp [*,errW_none,errW_some] <;> rfl),by repeat (first|(with_reducible first|exact HB.out|apply ba_|apply pd_|apply b1_|refine bs_ ?_ GE222.out)|exact HB.out)⟩
   ·replace c22:=bm_ c22
    subst c22
    have H1:(some false)=some r:=by rw [if_neg (show ¬ (false=true) by decide)] at H;exact H
    clear H
    have H:=H1
    clear H1
    obtain rfl:=oi_ H
    go_enter Tryz.func46,Tryz.ntmps46
    go_wp2_with (first|((with_reducible refine gate_dst (N:=1) rfl ?_);(try (refine gate_guard (by rfl) ?_;dsimp only));refine box_event ?hg (N:=1) ?hd (cs:=#[.int .i64 a0_0,.int .i64 a0_1,.string a0_2,.string a0_3,.slice A0_4 l0_4.length c0_4,.slice A0_5 l0_5.length c0_5]) (t:=38) ?hr ?_;(case hd=>rfl);(case hg=>rfl);(case hr=>first|(go_simp;done)|(go_simp;rfl));intro gb222 hg w34 hbox hb;have n0_:=A_ (bp_ (by repeat (first|(with_reducible first|exact HB.out|apply ba_|apply pd_|apply b1_)|exact HB.out)) hb);have n1_:=A_ (hbox);have n2_:=A_ ((by rw [hg];exact (bz_ (by repeat (first|(with_reducible first|exact HB.out|apply ba_|apply pd_|apply b1_)|exact HB.out))):w.heap.size≤gb222));have n3_:=A_ ((by rw [hg];exact (bz_ (by repeat (first|(with_reducible first|exact HB.out|apply ba_|apply pd_|apply b1_)|exact HB.out))):w.heap.size≤gb222));clear HB;have HB:=n0_;have BK222:=n1_;have GW222:=n2_;have GE222:=n3_;clear n0_ n1_ n2_ n3_;clear hb hbox hg;have hcz35_0:w34.cell? ⟨gb222,0,none⟩=some (.int .i64 a0_0):=(bc_ BK222.out 0).trans rfl;have hcz35_1:w34.cell? ⟨gb222,1,none⟩=some (.int .i64 a0_1):=(bc_ BK222.out 1).trans rfl;have hcz35_2:w34.cell? ⟨gb222,2,none⟩=some (.string a0_2):=(bc_ BK222.out 2).trans rfl;have hcz35_3:w34.cell? ⟨gb222,3,none⟩=some (.string a0_3):=(bc_ BK222.out 3).trans rfl;have hcz35_4:w34.cell? ⟨gb222,4,none⟩=some (.slice A0_4 l0_4.length c0_4):=(bc_ BK222.out 4).trans rfl;have hcz35_5:w34.cell? ⟨gb222,5,none⟩=some (.slice A0_5 l0_5.length c0_5):=(bc_ BK222.out 5).trans rfl;have hfz35_0:=bf_ BK222.out 0;have hfz35_1:=bf_ BK222.out 1;have hfz35_2:=bf_ BK222.out 2;have hfz35_3:=bf_ BK222.out 3;have hfz35_4:=bf_ BK222.out 4;have hfz35_5:=bf_ BK222.out 5)|((with_reducible refine gate_callee (f:=57) rfl ?_);refine goesL_ (some 36) rfl rfl Tryz.func57 (by kernel_rfl) rfl #[.int .i64 (a0_3.size:Int),.int .i64 (wrap64 (3 - a0_0)),.int .i64 120] rfl (by (try simp only [List.map_toArray,List.map_cons,List.map_nil]);first|done|rfl|(simp only [ld_,lt_];rfl)) ?_;(with_reducible refine (impl_within.calls (a0_3.size:Int) (wrap64 (3 - a0_0)) 120 false _ A21.out).mono ?_);rintro e w' ⟨rfl,⟨nd,rfl⟩⟩;refine ⟨_,rfl,?_⟩))
    go_ret
    exact ⟨by first|rfl|(simp [errW_none,errW_some] <;> rfl)|(simp [*,errW_none,errW_some] <;> rfl),by repeat (first|(with_reducible first|exact HB.out|apply ba_|apply pd_|apply b1_|refine bs_ ?_ GE222.out)|exact HB.out)⟩
  ·rw [if_neg c20] at H
   have c20b0:(a0_0 == 2)=false:=beq_eq_false_iff_ne.mpr c20
   have c20b1:(a0_0 != 2)=true:=bne_iff_ne.mpr c20
   by_cases c36:a0_0=3
   ·rw [if_pos c36] at H
    have c36b0:(a0_0 == 3)=true:=beq_iff_eq.mpr c36
    have c36b1:(a0_0 != 3)=false:=bne_eq_false_iff_eq.mpr c36
    clear c36
    replace H:=ob_ H
    obtain ⟨t227,A370,H⟩:=H
    replace H:(if t227=true then (if a0_1=0 then (if a0_2.toList=([]:List UInt8) then (if (l0_4.length:Int)=0 then (some ((l0_5.length:Int) == 0)) else (some false)) else (some false)) else (some false)) else (some false))=some r:=H
    have A37:=A_ A370
    clear A370
    by_cases c38:t227=true
    ·subst c38
     have H1:(if a0_1=0 then (if a0_2.toList=([]:List UInt8) then (if (l0_4.length:Int)=0 then (some ((l0_5.length:Int) == 0)) else (some false)) else (some false)) else (some false))=some r:=by rw [if_pos rfl] at H;exact H
     clear H
     have H:=H1
     clear H1
     by_cases c39:a0_1=0
     ·rw [if_pos c39] at H
      have c39b0:(a0_1 == 0)=true:=beq_iff_eq.mpr c39
      have c39b1:(a0_1 != 0)=false:=bne_eq_false_iff_eq.mpr c39
      clear c39
      by_cases c40:a0_2.toList=([]:List UInt8)
      ·rw [if_pos c40] at H
       have c40b0:(a0_2.toList == ([]:List UInt8))=true:=beq_iff_eq.mpr c40
       have c40b1:(a0_2.toList != ([]:List UInt8))=false:=bne_eq_false_iff_eq.mpr c40
       clear c40
       by_cases c41:(l0_4.length:Int)=0
       ·rw [if_pos c41] at H
        have c41b0:((l0_4.length:Int) == 0)=true:=beq_iff_eq.mpr c41
        have c41b1:((l0_4.length:Int) != 0)=false:=bne_eq_false_iff_eq.mpr c41
        clear c41
        obtain rfl:=oi_ H
        go_enter Tryz.func46,Tryz.ntmps46
        go_wp2_with (first|((with_reducible refine gate_dst (N:=1) rfl ?_);(try (refine gate_guard (by rfl) ?_;dsimp only));refine box_event ?hg (N:=1) ?hd (cs:=#[.int .i64 a0_0,.int .i64 a0_1,.string a0_2,.string a0_3,.slice A0_4 l0_4.length c0_4,.slice A0_5 l0_5.length c0_5]) (t:=38) ?hr ?_;(case hd=>rfl);(case hg=>rfl);(case hr=>first|(go_simp;done)|(go_simp;rfl));intro gb222 hg w42 hbox hb;have n0_:=A_ (bp_ (by repeat (first|(with_reducible first|exact HB.out|apply ba_|apply pd_|apply b1_)|exact HB.out)) hb);have n1_:=A_ (hbox);have n2_:=A_ ((by rw [hg];exact (bz_ (by repeat (first|(with_reducible first|exact HB.out|apply ba_|apply pd_|apply b1_)|exact HB.out))):w.heap.size≤gb222));have n3_:=A_ ((by rw [hg];exact (bz_ (by repeat (first|(with_reducible first|exact HB.out|apply ba_|apply pd_|apply b1_)|exact HB.out))):w.heap.size≤gb222));clear HB;have HB:=n0_;have BK222:=n1_;have GW222:=n2_;have GE222:=n3_;clear n0_ n1_ n2_ n3_;clear hb hbox hg;have hcz43_0:w42.cell? ⟨gb222,0,none⟩=some (.int .i64 a0_0):=(bc_ BK222.out 0).trans rfl;have hcz43_1:w42.cell? ⟨gb222,1,none⟩=some (.int .i64 a0_1):=(bc_ BK222.out 1).trans rfl;have hcz43_2:w42.cell? ⟨gb222,2,none⟩=some (.string a0_2):=(bc_ BK222.out 2).trans rfl;have hcz43_3:w42.cell? ⟨gb222,3,none⟩=some (.string a0_3):=(bc_ BK222.out 3).trans rfl;have hcz43_4:w42.cell? ⟨gb222,4,none⟩=some (.slice A0_4 l0_4.length c0_4):=(bc_ BK222.out 4).trans rfl;have hcz43_5:w42.cell? ⟨gb222,5,none⟩=some (.slice A0_5 l0_5.length c0_5):=(bc_ BK222.out 5).trans rfl;have hfz43_0:=bf_ BK222.out 0;have hfz43_1:=bf_ BK222.out 1;have hfz43_2:=bf_ BK222.out 2;have hfz43_3:=bf_ BK222.out 3;have hfz43_4:=bf_ BK222.out 4;have hfz43_5:=bf_ BK222.out 5)|((with_reducible refine gate_callee (f:=57) rfl ?_);refine goesL_ (some 36) rfl rfl Tryz.func57 (by kernel_rfl) rfl #[.int .i64 (a0_3.size:Int),.int .i64 (wrap64 (3 - a0_0)),.int .i64 120] rfl (by (try simp only [List.map_toArray,List.map_cons,List.map_nil]);first|done|rfl|(simp only [ld_,lt_];rfl)) ?_;(with_reducible refine (impl_within.calls (a0_3.size:Int) (wrap64 (3 - a0_0)) 120 true _ A37.out).mono ?_);rintro e w' ⟨rfl,⟨nd,rfl⟩⟩;refine ⟨_,rfl,?_⟩))
        go_ret
        exact ⟨by first|rfl|(simp [errW_none,errW_some] <;> rfl)|(simp [*,errW_none,errW_some] <;> rfl),by repeat (first|(with_reducible first|exact HB.out|apply ba_|apply pd_|apply b1_|refine bs_ ?_ GE222.out)|exact HB.out)⟩
       ·rw [if_neg c41] at H
        have c41b0:((l0_4.length:Int) == 0)=false:=beq_eq_false_iff_ne.mpr c41
        have c41b1:((l0_4.length:Int) != 0)=true:=bne_iff_ne.mpr c41
        have c41b2:¬ (l0_4=[]):=fun h_=>c41 (by rw [h_];rfl)
        obtain rfl:=oi_ H
        go_enter Tryz.func46,Tryz.ntmps46
        go_wp2_with (first|((with_reducible refine gate_dst (N:=1) rfl ?_);(try (refine gate_guard (by rfl) ?_;dsimp only));refine box_event ?hg (N:=1) ?hd (cs:=#[.int .i64 a0_0,.int .i64 a0_1,.string a0_2,.string a0_3,.slice A0_4 l0_4.length c0_4,.slice A0_5 l0_5.length c0_5]) (t:=38) ?hr ?_;(case hd=>rfl);(case hg=>rfl);(case hr=>first|(go_simp;done)|(go_simp;rfl));intro gb222 hg w44 hbox hb;have n0_:=A_ (bp_ (by repeat (first|(with_reducible first|exact HB.out|apply ba_|apply pd_|apply b1_)|exact HB.out)) hb);have n1_:=A_ (hbox);have n2_:=A_ ((by rw [hg];exact (bz_ (by repeat (first|(with_reducible first|exact HB.out|apply ba_|apply pd_|apply b1_)|exact HB.out))):w.heap.size≤gb222));have n3_:=A_ ((by rw [hg];exact (bz_ (by repeat (first|(with_reducible first|exact HB.out|apply ba_|apply pd_|apply b1_)|exact HB.out))):w.heap.size≤gb222));clear HB;have HB:=n0_;have BK222:=n1_;have GW222:=n2_;have GE222:=n3_;clear n0_ n1_ n2_ n3_;clear hb hbox hg;have hcz45_0:w44.cell? ⟨gb222,0,none⟩=some (.int .i64 a0_0):=(bc_ BK222.out 0).trans rfl;have hcz45_1:w44.cell? ⟨gb222,1,none⟩=some (.int .i64 a0_1):=(bc_ BK222.out 1).trans rfl;have hcz45_2:w44.cell? ⟨gb222,2,none⟩=some (.string a0_2):=(bc_ BK222.out 2).trans rfl;have hcz45_3:w44.cell? ⟨gb222,3,none⟩=some (.string a0_3):=(bc_ BK222.out 3).trans rfl;have hcz45_4:w44.cell? ⟨gb222,4,none⟩=some (.slice A0_4 l0_4.length c0_4):=(bc_ BK222.out 4).trans rfl;have hcz45_5:w44.cell? ⟨gb222,5,none⟩=some (.slice A0_5 l0_5.length c0_5):=(bc_ BK222.out 5).trans rfl;have hfz45_0:=bf_ BK222.out 0;have hfz45_1:=bf_ BK222.out 1;have hfz45_2:=bf_ BK222.out 2;have hfz45_3:=bf_ BK222.out 3;have hfz45_4:=bf_ BK222.out 4;have hfz45_5:=bf_ BK222.out 5)|((with_reducible refine gate_callee (f:=57) rfl ?_);refine goesL_ (some 36) rfl rfl Tryz.func57 (by kernel_rfl) rfl #[.int .i64 (a0_3.size:Int),.int .i64 (wrap64 (3 - a0_0)),.int .i64 120] rfl (by (try simp only [List.map_toArray,List.map_cons,List.map_nil]);first|done|rfl|(simp only [ld_,lt_];rfl)) ?_;(with_reducible refine (impl_within.calls (a0_3.size:Int) (wrap64 (3 - a0_0)) 120 true _ A37.out).mono ?_);rintro e w' ⟨rfl,⟨nd,rfl⟩⟩;refine ⟨_,rfl,?_⟩))
        go_ret
        exact ⟨by first|rfl|(simp [errW_none,errW_some] <;> rfl)|(simp [*,errW_none,errW_some] <;> rfl),by repeat (first|(with_reducible first|exact HB.out|apply ba_|apply pd_|apply b1_|refine bs_ ?_ GE222.out)|exact HB.out)⟩
      ·rw [if_neg c40] at H
       have c40b0:(a0_2.toList == ([]:List UInt8))=false:=beq_eq_false_iff_ne.mpr c40
       have c40b1:(a0_2.toList != ([]:List UInt8))=true:=bne_iff_ne.mpr c40
       obtain rfl:=oi_ H
       go_enter Tryz.func46,Tryz.ntmps46
       go_wp2_with (first|((with_reducible refine gate_dst (N:=1) rfl ?_);(try (refine gate_guard (by rfl) ?_;dsimp only));refine box_event ?hg (N:=1) ?hd (cs:=#[.int .i64 a0_0,.int .i64 a0_1,.string a0_2,.string a0_3,.slice A0_4 l0_4.length c0_4,.slice A0_5 l0_5.length c0_5]) (t:=38) ?hr ?_;(case hd=>rfl);(case hg=>rfl);(case hr=>first|(go_simp;done)|(go_simp;rfl));intro gb222 hg w46 hbox hb;have n0_:=A_ (bp_ (by repeat (first|(with_reducible first|exact HB.out|apply ba_|apply pd_|apply b1_)|exact HB.out)) hb);have n1_:=A_ (hbox);have n2_:=A_ ((by rw [hg];exact (bz_ (by repeat (first|(with_reducible first|exact HB.out|apply ba_|apply pd_|apply b1_)|exact HB.out))):w.heap.size≤gb222));have n3_:=A_ ((by rw [hg];exact (bz_ (by repeat (first|(with_reducible first|exact HB.out|apply ba_|apply pd_|apply b1_)|exact HB.out))):w.heap.size≤gb222));clear HB;have HB:=n0_;have BK222:=n1_;have GW222:=n2_;have GE222:=n3_;clear n0_ n1_ n2_ n3_;clear hb hbox hg;have hcz47_0:w46.cell? ⟨gb222,0,none⟩=some (.int .i64 a0_0):=(bc_ BK222.out 0).trans rfl;have hcz47_1:w46.cell? ⟨gb222,1,none⟩=some (.int .i64 a0_1):=(bc_ BK222.out 1).trans rfl;have hcz47_2:w46.cell? ⟨gb222,2,none⟩=some (.string a0_2):=(bc_ BK222.out 2).trans rfl;have hcz47_3:w46.cell? ⟨gb222,3,none⟩=some (.string a0_3):=(bc_ BK222.out 3).trans rfl;have hcz47_4:w46.cell? ⟨gb222,4,none⟩=some (.slice A0_4 l0_4.length c0_4):=(bc_ BK222.out 4).trans rfl;have hcz47_5:w46.cell? ⟨gb222,5,none⟩=some (.slice A0_5 l0_5.length c0_5):=(bc_ BK222.out 5).trans rfl;have hfz47_0:=bf_ BK222.out 0;have hfz47_1:=bf_ BK222.out 1;have hfz47_2:=bf_ BK222.out 2;have hfz47_3:=bf_ BK222.out 3;have hfz47_4:=bf_ BK222.out 4;have hfz47_5:=bf_ BK222.out 5)|((with_reducible refine gate_callee (f:=57) rfl ?_);refine goesL_ (some 36) rfl rfl Tryz.func57 (by kernel_rfl) rfl #[.int .i64 (a0_3.size:Int),.int .i64 (wrap64 (3 - a0_0)),.int .i64 120] rfl (by (try simp only [List.map_toArray,List.map_cons,List.map_nil]);first|done|rfl|(simp only [ld_,lt_];rfl)) ?_;(with_reducible refine (impl_within.calls (a0_3.size:Int) (wrap64 (3 - a0_0)) 120 true _ A37.out).mono ?_);rintro e w' ⟨rfl,⟨nd,rfl⟩⟩;refine ⟨_,rfl,?_⟩))
       go_ret
       exact ⟨by first|rfl|(simp [errW_none,errW_some] <;> rfl)|(simp [*,errW_none,errW_some] <;> rfl),by repeat (first|(with_reducible first|exact HB.out|apply ba_|apply pd_|apply b1_|refine bs_ ?_ GE222.out)|exact HB.out)⟩
     ·rw [if_neg c39] at H
      have c39b0:(a0_1 == 0)=false:=beq_eq_false_iff_ne.mpr c39
      have c39b1:(a0_1 != 0)=true:=bne_iff_ne.mpr c39
      obtain rfl:=oi_ H
      go_enter Tryz.func46,Tryz.ntmps46
      go_wp2_with (first|((with_reducible refine gate_dst (N:=1) rfl ?_);(try (refine gate_guard (by rfl) ?_;dsimp only));refine box_event ?hg (N:=1) ?hd (cs:=#[.int .i64 a0_0,.int .i64 a0_1,.string a0_2,.string a0_3,.slice A0_4 l0_4.length c0_4,.slice A0_5 l0_5.length c0_5]) (t:=38) ?hr ?_;(case hd=>rfl);(case hg=>rfl);(case hr=>first|(go_simp;done)|(go_simp;rfl));intro gb222 hg w48 hbox hb;have n0_:=A_ (bp_ (by repeat (first|(with_reducible first|exact HB.out|apply ba_|apply pd_|apply b1_)|exact HB.out)) hb);have n1_:=A_ (hbox);have n2_:=A_ ((by rw [hg];exact (bz_ (by repeat (first|(with_reducible first|exact HB.out|apply ba_|apply pd_|apply b1_)|exact HB.out))):w.heap.size≤gb222));have n3_:=A_ ((by rw [hg];exact (bz_ (by repeat (first|(with_reducible first|exact HB.out|apply ba_|apply pd_|apply b1_)|exact HB.out))):w.heap.size≤gb222));clear HB;have HB:=n0_;have BK222:=n1_;have GW222:=n2_;have GE222:=n3_;clear n0_ n1_ n2_ n3_;clear hb hbox hg;have hcz49_0:w48.cell? ⟨gb222,0,none⟩=some (.int .i64 a0_0):=(bc_ BK222.out 0).trans rfl;have hcz49_1:w48.cell? ⟨gb222,1,none⟩=some (.int .i64 a0_1):=(bc_ BK222.out 1).trans rfl;have hcz49_2:w48.cell? ⟨gb222,2,none⟩=some (.string a0_2):=(bc_ BK222.out 2).trans rfl;have hcz49_3:w48.cell? ⟨gb222,3,none⟩=some (.string a0_3):=(bc_ BK222.out 3).trans rfl;have hcz49_4:w48.cell? ⟨gb222,4,none⟩=some (.slice A0_4 l0_4.length c0_4):=(bc_ BK222.out 4).trans rfl;have hcz49_5:w48.cell? ⟨gb222,5,none⟩=some (.slice A0_5 l0_5.length c0_5):=(bc_ BK222.out 5).trans rfl;have hfz49_0:=bf_ BK222.out 0;have hfz49_1:=bf_ BK222.out 1;have hfz49_2:=bf_ BK222.out 2;have hfz49_3:=bf_ BK222.out 3;have hfz49_4:=bf_ BK222.out 4;have hfz49_5:=bf_ BK222.out 5)|((with_reducible refine gate_callee (f:=57) rfl ?_);refine goesL_ (some 36) rfl rfl Tryz.func57 (by kernel_rfl) rfl #[.int .i64 (a0_3.size:Int),.int .i64 (wrap64 (3 - a0_0)),.int .i64 120] rfl (by (try simp only [List.map_toArray,List.map_cons,List.map_nil]);first|done|rfl|(simp only [ld_,lt_];rfl)) ?_;(with_reducible refine (impl_within.calls (a0_3.size:Int) (wrap64 (3 - a0_0)) 120 true _ A37.out).mono ?_);rintro e w' ⟨rfl,⟨nd,rfl⟩⟩;refine ⟨_,rfl,?_⟩))
      go_ret
      exact ⟨by first|rfl|(simp [errW_none,errW_some] <;> rfl)|(simp [*,errW_none,errW_some] <;> rfl),by repeat (first|(with_reducible first|exact HB.out|apply ba_|apply pd_|apply b1_|refine bs_ ?_ GE222.out)|exact HB.out)⟩
    ·replace c38:=bm_ c38
     subst c38
     have H1:(some false)=some r:=by rw [if_neg (show ¬ (false=true) by decide)] at H;exact H
     clear H
     have H:=H1
     clear H1
     obtain rfl:=oi_ H
     go_enter Tryz.func46,Tryz.ntmps46
     go_wp2_with (first|((with_reducible refine gate_dst (N:=1) rfl ?_);(try (refine gate_guard (by rfl) ?_;dsimp only));refine box_event ?hg (N:=1) ?hd (cs:=#[.int .i64 a0_0,.int .i64 a0_1,.string a0_2,.string a0_3,.slice A0_4 l0_4.length c0_4,.slice A0_5 l0_5.length c0_5]) (t:=38) ?hr ?_;(case hd=>rfl);(case hg=>rfl);(case hr=>first|(go_simp;done)|(go_simp;rfl));intro gb222 hg w50 hbox hb;have n0_:=A_ (bp_ (by repeat (first|(with_reducible first|exact HB.out|apply ba_|apply pd_|apply b1_)|exact HB.out)) hb);have n1_:=A_ (hbox);have n2_:=A_ ((by rw [hg];exact (bz_ (by repeat (first|(with_reducible first|exact HB.out|apply ba_|apply pd_|apply b1_)|exact HB.out))):w.heap.size≤gb222));have n3_:=A_ ((by rw [hg];exact (bz_ (by repeat (first|(with_reducible first|exact HB.out|apply ba_|apply pd_|apply b1_)|exact HB.out))):w.heap.size≤gb222));clear HB;have HB:=n0_;have BK222:=n1_;have GW222:=n2_;have GE222:=n3_;clear n0_ n1_ n2_ n3_;clear hb hbox hg;have hcz51_0:w50.cell? ⟨gb222,0,none⟩=some (.int .i64 a0_0):=(bc_ BK222.out 0).trans rfl;have hcz51_1:w50.cell? ⟨gb222,1,none⟩=some (.int .i64 a0_1):=(bc_ BK222.out 1).trans rfl;have hcz51_2:w50.cell? ⟨gb222,2,none⟩=some (.string a0_2):=(bc_ BK222.out 2).trans rfl;have hcz51_3:w50.cell? ⟨gb222,3,none⟩=some (.string a0_3):=(bc_ BK222.out 3).trans rfl;have hcz51_4:w50.cell? ⟨gb222,4,none⟩=some (.slice A0_4 l0_4.length c0_4):=(bc_ BK222.out 4).trans rfl;have hcz51_5:w50.cell? ⟨gb222,5,none⟩=some (.slice A0_5 l0_5.length c0_5):=(bc_ BK222.out 5).trans rfl;have hfz51_0:=bf_ BK222.out 0;have hfz51_1:=bf_ BK222.out 1;have hfz51_2:=bf_ BK222.out 2;have hfz51_3:=bf_ BK222.out 3;have hfz51_4:=bf_ BK222.out 4;have hfz51_5:=bf_ BK222.out 5)|((with_reducible refine gate_callee (f:=57) rfl ?_);refine goesL_ (some 36) rfl rfl Tryz.func57 (by kernel_rfl) rfl #[.int .i64 (a0_3.size:Int),.int .i64 (wrap64 (3 - a0_0)),.int .i64 120] rfl (by (try simp only [List.map_toArray,List.map_cons,List.map_nil]);first|done|rfl|(simp only [ld_,lt_];rfl)) ?_;(with_reducible refine (impl_within.calls (a0_3.size:Int) (wrap64 (3 - a0_0)) 120 false _ A37.out).mono ?_);rintro e w' ⟨rfl,⟨nd,rfl⟩⟩;refine ⟨_,rfl,?_⟩))
     go_ret
     exact ⟨by first|rfl|(simp [errW_none,errW_some] <;> rfl)|(simp [*,errW_none,errW_some] <;> rfl),by repeat (first|(with_reducible first|exact HB.out|apply ba_|apply pd_|apply b1_|refine bs_ ?_ GE222.out)|exact HB.out)⟩
   ·rw [if_neg c36] at H
    have c36b0:(a0_0 == 3)=false:=beq_eq_false_iff_ne.mpr c36
    have c36b1:(a0_0 != 3)=true:=bne_iff_ne.mpr c36
    obtain rfl:=oi_ H
    go_enter Tryz.func46,Tryz.ntmps46
    go_wp2_with (first|((with_reducible refine gate_dst (N:=1) rfl ?_);(try (refine gate_guard (by rfl) ?_;dsimp only));refine box_event ?hg (N:=1) ?hd (cs:=#[.int .i64 a0_0,.int .i64 a0_1,.string a0_2,.string a0_3,.slice A0_4 l0_4.length c0_4,.slice A0_5 l0_5.length c0_5]) (t:=38) ?hr ?_;(case hd=>rfl);(case hg=>rfl);(case hr=>first|(go_simp;done)|(go_simp;rfl));intro gb222 hg w52 hbox hb;have n0_:=A_ (bp_ (by repeat (first|(with_reducible first|exact HB.out|apply ba_|apply pd_|apply b1_)|exact HB.out)) hb);have n1_:=A_ (hbox);have n2_:=A_ ((by rw [hg];exact (bz_ (by repeat (first|(with_reducible first|exact HB.out|apply ba_|apply pd_|apply b1_)|exact HB.out))):w.heap.size≤gb222));have n3_:=A_ ((by rw [hg];exact (bz_ (by repeat (first|(with_reducible first|exact HB.out|apply ba_|apply pd_|apply b1_)|exact HB.out))):w.heap.size≤gb222));clear HB;have HB:=n0_;have BK222:=n1_;have GW222:=n2_;have GE222:=n3_;clear n0_ n1_ n2_ n3_;clear hb hbox hg;have hcz53_0:w52.cell? ⟨gb222,0,none⟩=some (.int .i64 a0_0):=(bc_ BK222.out 0).trans rfl;have hcz53_1:w52.cell? ⟨gb222,1,none⟩=some (.int .i64 a0_1):=(bc_ BK222.out 1).trans rfl;have hcz53_2:w52.cell? ⟨gb222,2,none⟩=some (.string a0_2):=(bc_ BK222.out 2).trans rfl;have hcz53_3:w52.cell? ⟨gb222,3,none⟩=some (.string a0_3):=(bc_ BK222.out 3).trans rfl;have hcz53_4:w52.cell? ⟨gb222,4,none⟩=some (.slice A0_4 l0_4.length c0_4):=(bc_ BK222.out 4).trans rfl;have hcz53_5:w52.cell? ⟨gb222,5,none⟩=some (.slice A0_5 l0_5.length c0_5):=(bc_ BK222.out 5).trans rfl;have hfz53_0:=bf_ BK222.out 0;have hfz53_1:=bf_ BK222.out 1;have hfz53_2:=bf_ BK222.out 2;have hfz53_3:=bf_ BK222.out 3;have hfz53_4:=bf_ BK222.out 4;have hfz53_5:=bf_ BK222.out 5))
    go_ret
    exact ⟨by first|rfl|(simp [errW_none,errW_some] <;> rfl)|(simp [*,errW_none,errW_some] <;> rfl),by repeat (first|(with_reducible first|exact HB.out|apply ba_|apply pd_|apply b1_|refine bs_ ?_ GE222.out)|exact HB.out)⟩
def emptyB (x:S38):Bool:=if x.f1=0 then (if x.f2.toList=([]:List UInt8) then (if (x.f4.length:Int)=0 then ((x.f5.length:Int) == 0) else false) else false) else false
/-- A node without what is within is one. -/
def ownB (x:S38):Bool:=if x.f0=1 then (Kit.isTag x.f2 && decide (0≤x.f1∧x.f1≤2) && attrsOK x.f4 && (x.f3.toList == ([]:List UInt8))) else if x.f0=2 then (decide (1≤(x.f3.size:Int)∧(x.f3.size:Int)≤120) && emptyB x) else if x.f0=3 then (decide (0≤(x.f3.size:Int)∧(x.f3.size:Int)≤120) && emptyB x) else false
theorem within_now (n a b:Int):impl_within.f n a b=some (decide (a≤n∧n≤b)):=by
 unfold impl_within.f
 by_cases h:n≥a
 case pos=>rw [if_pos h];simp [h]
 case neg=>rw [if_neg h];simp;omega
theorem ev_isOwn (x:S38) (hs:x.f2.size≤9223372036854775807) (ha:∀ a∈x.f4,a.f0.size≤9223372036854775807):Ev (fun k=>impl_Node_isOwn.f k x.f0 x.f1 x.f2 x.f3 x.f4 x.f5) (ownB x):=by
 have hat:impl_areAttrs.f x.f4=some (attrsOK x.f4):=by rw [impl_areAttrs.f,if_pos ha]
 have he:Ev (fun _=>if x.f1=0 then (if x.f2.toList=([]:List UInt8) then (if (x.f4.length:Int)=0 then (some ((x.f5.length:Int) == 0)) else (some false)) else (some false)) else (some false)) (emptyB x):=by
  unfold emptyB
  refine Kit.ev_if (fun h=>?_) (fun h=>?_)
  case refine_2=>rw [if_neg h];exact Ev.now _
  case refine_1 =>
   rw [if_pos h]
   refine Kit.ev_if (fun h=>?_) (fun h=>?_)
   case refine_2=>rw [if_neg h];exact Ev.now _
   case refine_1 =>
    rw [if_pos h]
    refine Kit.ev_if (fun h=>?_) (fun h=>?_)
    case refine_2=>rw [if_neg h];exact Ev.now _
    case refine_1=>rw [if_pos h];exact Ev.now _
 unfold impl_Node_isOwn.f ownB
 refine Kit.ev_if (fun h=>?_) (fun h=>?_)
 case refine_1 =>
  rw [if_pos h]
  have ht:=ev_tag_impl x.f2 hs
  generalize Kit.isTag x.f2=b at *
  refine Ev.bind ht ?_
  cases b with
  | false=>exact Kit.ev_neg Bool.false_ne_true (Ev.now _)
  | true =>
   refine Kit.ev_pos rfl (Kit.ev_some (within_now _ _ _) ?_)
   generalize decide (0≤x.f1∧x.f1≤2)=b
   cases b with
   | false=>exact Kit.ev_neg Bool.false_ne_true (Ev.now _)
   | true =>
    refine Kit.ev_pos rfl (Kit.ev_some hat ?_)
    generalize attrsOK x.f4=b
    cases b with
    | false=>exact Kit.ev_neg Bool.false_ne_true (Ev.now _)
    | true=>exact Kit.ev_pos rfl (Ev.now _)
 case refine_2 =>
  rw [if_neg h]
  refine Kit.ev_if (fun h=>?_) (fun h=>?_)
  case refine_1 =>
   rw [if_pos h,show wrap64 (3 - x.f0)=1 by rw [h,Kit.wrap_of (by omega) (by omega)];rfl]
   refine Kit.ev_some (within_now _ _ _) ?_
   generalize decide (1≤(x.f3.size:Int)∧(x.f3.size:Int)≤120)=b
   cases b with
   | false=>exact Kit.ev_neg Bool.false_ne_true (Ev.now _)
   | true=>exact Kit.ev_pos rfl he
  case refine_2 =>
   rw [if_neg h]
   refine Kit.ev_if (fun h=>?_) (fun h=>?_)
   case refine_1 =>
    rw [if_pos h,show wrap64 (3 - x.f0)=0 by rw [h,Kit.wrap_of (by omega) (by omega)];rfl]
    refine Kit.ev_some (within_now _ _ _) ?_
    generalize decide (0≤(x.f3.size:Int)∧(x.f3.size:Int)≤120)=b
    cases b with
    | false=>exact Kit.ev_neg Bool.false_ne_true (Ev.now _)
    | true=>exact Kit.ev_pos rfl he
   case refine_2 =>
    rw [if_neg h]
    exact Ev.now _
theorem impl_Node_isOwn.pure (x:S38) (A4:Option Addr) (c4:Nat) (A5:Option Addr) (c5:Nat) (W:World) (h4:Kd.C k63 W A4 x.f4.length x.f4) (l4:x.f4.length≤c4) (h5:Kd.C k38 W A5 x.f5.length x.f5) (l5:x.f5.length≤c5) (hs:x.f2.size≤9223372036854775807) (ha:∀ a∈x.f4,a.f0.size≤9223372036854775807):Calls Tryz.prog 46 #[.agg #[.int .i64 x.f0,.int .i64 x.f1,.string x.f2,.string x.f3,.slice A4 x.f4.length c4,.slice A5 x.f5.length c5]] W fun e w'=>e=.returned (.bool (ownB x))∧Below W.heap.size W w':=by
 obtain ⟨K,hK⟩:=ev_isOwn x hs ha
 exact impl_Node_isOwn.calls K x.f0 x.f1 x.f2 x.f3 A4 c4 x.f4 A5 c5 x.f5 _ W h4 l4 h5 l5 (hK K (Nat.le_refl _))
/-! ### IndexFunc_Node: function 72, by hand -/
set_option maxHeartbeats 1000000 in
/-- slices.IndexFunc at this type, whatever the predicate: the first place at which it holds. -/
theorem IndexFunc_Node.holds (A:Option Addr) (n c:Nat) (v:Nat→List Value) (p:Nat→Bool) (g:Nat) (lb:Array Value) (eg:∀ args w,(callFunc g args).run Tryz.prog w=.ok (.enter g args) w) (w:World)
 (hp:∀ j,j<n→∀ W,Below w.heap.size w W→Calls Tryz.prog g (#[.agg (v j).toArray]++lb) W fun e w'=>e=.returned (.bool (p j))∧Below w.heap.size w w')
 (hbig:n≤9223372036854775807) (hc:∀ j,j<n→∃ ad,A=some ad∧(v j).length=6∧∀ i u,(v j)[i]? = some u→w.cell? (ad.add (j * 6+i))=some u) :
 Calls Tryz.prog 72 #[.slice A n c,.func (.func g) #[] lb] w fun e w'=>e=.returned (.int .i64 (Mach.idxP p n))∧Below w.heap.size w w':=by
 have HC:=A_ hc
 have HP:=A_ hp
 clear hc hp
 go_enter Tryz.func72,Tryz.ntmps72
 go_wp2
 go_loopg [5,8] n (fun gg _ s8 wr=>∃ kk:Nat,kk≤n∧n - kk≤gg∧s8=.int .i64 kk∧Aside0 (Below w.heap.size w wr)∧Aside0 (∀ j,j<kk→p j=false))
 case atStart=>exact ⟨0,Nat.zero_le _,by omega,rfl,⟨Below.refl _ w⟩,⟨fun j hj=>absurd hj (Nat.not_lt_zero _)⟩⟩
 case round =>
  obtain ⟨kk,hkk,hg,rfl,BW,AA⟩:=hrel
  by_cases hlt:kk<n
  ·have hltz:(kk:Int)<(n:Int):=by omega
   obtain ⟨ad,e,hl,l1⟩:=HC.out kk hlt
   cases e
   obtain ⟨x0,x1,x2,x3,x4,x5,hv⟩:∃ x0 x1 x2 x3 x4 x5,v kk=[x0,x1,x2,x3,x4,x5]:=by
    match v kk,hl with
    | [x0,x1,x2,x3,x4,x5],_=>exact ⟨x0,x1,x2,x3,x4,x5,rfl⟩
   have m0:=pc_ BW.out (l1 0 x0 (by rw [hv];rfl))
   rw [Nat.add_zero] at m0
   have m1:=pc_ BW.out (l1 1 x1 (by rw [hv];rfl))
   rw [add_field _ _ 1 (by omega)] at m1
   have m2:=pc_ BW.out (l1 2 x2 (by rw [hv];rfl))
   rw [add_field _ _ 2 (by omega)] at m2
   have m3:=pc_ BW.out (l1 3 x3 (by rw [hv];rfl))
   rw [add_field _ _ 3 (by omega)] at m3
   have m4:=pc_ BW.out (l1 4 x4 (by rw [hv];rfl))
   rw [add_field _ _ 4 (by omega)] at m4
   have m5:=pc_ BW.out (l1 5 x5 (by rw [hv];rfl))
   rw [add_field _ _ 5 (by omega)] at m5
   clear l1
   have hcall:=HP.out kk hlt wr BW.out
   rw [hv] at hcall
   clear hv
   cases hq:p kk with
   | true =>
    rw [hq] at hcall
    go_wp2_with ((with_reducible refine hcall.mono ?_);rintro e w' ⟨rfl,hb'⟩)
    go_ret
    refine ⟨?_,hb'⟩
    rw [Mach.idxP_hit p n kk hlt hq AA.out]
    rfl
   | false =>
    rw [hq] at hcall
    go_wp2_with ((with_reducible refine hcall.mono ?_);rintro e w' ⟨rfl,hb'⟩)
    go_roundg (n - (kk+1))
    case measure=>omega
    case rel =>
     refine ⟨kk+1,by omega,by omega,by go_num,⟨hb'⟩,⟨fun j hj=>?_⟩⟩
     by_cases e:j=kk
     ·subst e;exact hq
     ·exact AA.out j (by omega)
  ·have hltz:¬ (kk:Int)<(n:Int):=by omega
   have:kk=n:=by omega
   subst this
   go_wp2
   go_ret
   refine ⟨?_,BW.out⟩
   rw [Mach.idxP_miss p kk AA.out]
   rfl
/-! ### ContainsFunc_Node: function 59, by hand -/
/-- slices.ContainsFunc at this type, whatever the predicate. -/
theorem ContainsFunc_Node.holds (A:Option Addr) (n c:Nat) (v:Nat→List Value) (p:Nat→Bool) (g:Nat) (lb:Array Value) (eg:∀ args w,(callFunc g args).run Tryz.prog w=.ok (.enter g args) w) (w:World)
 (hp:∀ j,j<n→∀ W,Below w.heap.size w W→Calls Tryz.prog g (#[.agg (v j).toArray]++lb) W fun e w'=>e=.returned (.bool (p j))∧Below w.heap.size w w')
 (hbig:n≤9223372036854775807) (hc:∀ j,j<n→∃ ad,A=some ad∧(v j).length=6∧∀ i u,(v j)[i]? = some u→w.cell? (ad.add (j * 6+i))=some u) :
 Calls Tryz.prog 59 #[.slice A n c,.func (.func g) #[] lb] w fun e w'=>e=.returned (.bool (Mach.anyP p n))∧Below w.heap.size w w':=by
 rw [←Mach.idxP_any]
 have hcall:=IndexFunc_Node.holds A n c v p g lb eg w hp hbig hc
 clear hc hp
 go_enter Tryz.func59,Tryz.ntmps59
 go_wp2_with (go_at_call 72;refine hcall.mono ?_;rintro e w' ⟨rfl,hb'⟩)
 go_ret
 exact ⟨rfl,hb'⟩
end Go.Proofs.YtlpncjeahdfolaaGreatDoor.PFnExactSerialize
