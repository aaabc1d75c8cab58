/- By a program of this session, out of the kit's print and contracts made by hand: the machine side of a law; Lean checks it. No conditions. -/
import Derived.Test.YtlpncjeahdfolaaGreatDoorPFnExactSerializex0
import Derived.Test.YtlpncjeahdfolaaGreatDoorPFnExactSerializex13
namespace Go.Proofs.YtlpncjeahdfolaaGreatDoor.PFnExactSerialize
open Go.RowKit Go.Proofs.YtlpncjeahdfolaaGreatDoorW.PrintWords Go.Proofs.YtlpncjeahdfolaaGreatDoorW.PrintLast Go.Proofs.YtlpncjeahdfolaaGreatDoorW.PrintMore
attribute [local go_sem] max2_int min2_int max_two min_two max_three min_three max_four min_four
set_option linter.unusedVariables false
set_option linter.unusedSimpArgs false
/-! ### impl_IsVoid: function 40 -/
def impl_IsVoid.f (k:Nat) (a0:ByteArray):Option (Bool):=(slices_Contains_string_string.f k (([(⟨#[98,114]⟩:ByteArray),(⟨#[104,114]⟩:ByteArray),(⟨#[105,109,103]⟩:ByteArray),(⟨#[105,110,112,117,116]⟩:ByteArray),(⟨#[109,101,116,97]⟩:ByteArray),(⟨#[108,105,110,107]⟩:ByteArray),(⟨#[98,97,115,101]⟩:ByteArray),(⟨#[101,109,98,101,100]⟩:ByteArray)]:List ByteArray)) a0).bind fun t208=>(some t208)
theorem impl_IsVoid.mono:∀ a0 k,LeO (impl_IsVoid.f k a0) (impl_IsVoid.f (k+1) a0):=by
 intro a0 k
 unfold impl_IsVoid.f
 repeat' first
  | (with_reducible exact slices_Contains_string_string.mono _ _ _)
  | (with_reducible exact LeO.refl _)
  | (with_reducible exact LeO.none _)
  | (with_reducible refine LeO.ite ?_ ?_)
  | (with_reducible refine LeO.bind ?_ (fun _=>?_))
  | exact slices_Contains_string_string.mono _ _ _
  | exact LeO.none _
  | refine LeO.ite ?_ ?_
  | refine LeO.bind ?_ (fun _=>?_)
set_option maxHeartbeats 8000000 in
set_option maxRecDepth 100000 in
theorem impl_IsVoid.calls (k:Nat) (a0:ByteArray) (r:Bool) (w:World) (h:impl_IsVoid.f k a0=some r) :
 Calls Tryz.prog 40 #[.string a0] w fun e w'=>e=.returned (.bool r)∧Below w.heap.size w w':=by
 have HB:=A_ (Below.refl w.heap.size w)
 have H:((slices_Contains_string_string.f k (([(⟨#[98,114]⟩:ByteArray),(⟨#[104,114]⟩:ByteArray),(⟨#[105,109,103]⟩:ByteArray),(⟨#[105,110,112,117,116]⟩:ByteArray),(⟨#[109,101,116,97]⟩:ByteArray),(⟨#[108,105,110,107]⟩:ByteArray),(⟨#[98,97,115,101]⟩:ByteArray),(⟨#[101,109,98,101,100]⟩:ByteArray)]:List ByteArray)) a0).bind fun t208=>(some t208))=some r:=h
 clear h
 obtain ⟨y205,hy205⟩:∃ y_:List ByteArray,y_=(([(⟨#[98,114]⟩:ByteArray),(⟨#[104,114]⟩:ByteArray),(⟨#[105,109,103]⟩:ByteArray),(⟨#[105,110,112,117,116]⟩:ByteArray),(⟨#[109,101,116,97]⟩:ByteArray),(⟨#[108,105,110,107]⟩:ByteArray),(⟨#[98,97,115,101]⟩:ByteArray),(⟨#[101,109,98,101,100]⟩:ByteArray)]:List ByteArray)):=⟨_,rfl⟩
 replace H:((slices_Contains_string_string.f k y205 a0).bind fun t208=>(some t208))=some r:=by first|(rw [hy205];with_reducible exact H)|(have H2_:=(Option.bind_some _ _).symm.trans H;rw [hy205];with_reducible exact H2_)|(have H2_:=(Option.bind_some _ _).symm.trans H;with_reducible exact H2_)|with_reducible exact H|(rw [hy205];exact H)|exact H
 have Ny205:=A_ hy205
 clear hy205
 replace H:=ob_ H
 obtain ⟨t208,A20,H⟩:=H
 replace H:(some t208)=some r:=H
 have A2:=A_ A20
 clear A20
 obtain rfl:=oi_ H
 go_enter Tryz.func40,Tryz.ntmps40
 go_wp2_with (first|((with_reducible refine gate_dst (N:=3) rfl ?_);refine Kd.R_lit Kd.string _ 9 ?hg (N:=3) ?hd (xs:=([(⟨#[98,114]⟩:ByteArray),(⟨#[104,114]⟩:ByteArray),(⟨#[105,109,103]⟩:ByteArray),(⟨#[105,110,112,117,116]⟩:ByteArray),(⟨#[109,101,116,97]⟩:ByteArray),(⟨#[108,105,110,107]⟩:ByteArray),(⟨#[98,97,115,101]⟩:ByteArray),(⟨#[101,109,98,101,100]⟩:ByteArray)]:List ByteArray)) (inner:=[.string (⟨#[98,114]⟩:ByteArray),.string (⟨#[104,114]⟩:ByteArray),.string (⟨#[105,109,103]⟩:ByteArray),.string (⟨#[105,110,112,117,116]⟩:ByteArray),.string (⟨#[109,101,116,97]⟩:ByteArray),.string (⟨#[108,105,110,107]⟩:ByteArray),.string (⟨#[98,97,115,101]⟩:ByteArray),.string (⟨#[101,109,98,101,100]⟩:ByteArray)]) (ok:=fun _=>True) (okp:=fun _=>True) ?hr ?hp (fun _ hk=>hk) trivial (Below.refl _ _) (Nat.le_refl _) (by simp) ?_;(case hd=>rfl);(case hg=>rfl);(case hr=>first|(go_simp;done)|(go_simp;rfl)|(first|(go_simp;done)|(go_simp;rfl)));(case hp=>exact (Reps.one (show Kd.M Kd.string _ _ _ (⟨#[98,114]⟩:ByteArray) [.string (⟨#[98,114]⟩:ByteArray)] from rfl) (Reps.one (show Kd.M Kd.string _ _ _ (⟨#[104,114]⟩:ByteArray) [.string (⟨#[104,114]⟩:ByteArray)] from rfl) (Reps.one (show Kd.M Kd.string _ _ _ (⟨#[105,109,103]⟩:ByteArray) [.string (⟨#[105,109,103]⟩:ByteArray)] from rfl) (Reps.one (show Kd.M Kd.string _ _ _ (⟨#[105,110,112,117,116]⟩:ByteArray) [.string (⟨#[105,110,112,117,116]⟩:ByteArray)] from rfl) (Reps.one (show Kd.M Kd.string _ _ _ (⟨#[109,101,116,97]⟩:ByteArray) [.string (⟨#[109,101,116,97]⟩:ByteArray)] from rfl) (Reps.one (show Kd.M Kd.string _ _ _ (⟨#[108,105,110,107]⟩:ByteArray) [.string (⟨#[108,105,110,107]⟩:ByteArray)] from rfl) (Reps.one (show Kd.M Kd.string _ _ _ (⟨#[98,97,115,101]⟩:ByteArray) [.string (⟨#[98,97,115,101]⟩:ByteArray)] from rfl) (Reps.one (show Kd.M Kd.string _ _ _ (⟨#[101,109,98,101,100]⟩:ByteArray) [.string (⟨#[101,109,98,101,100]⟩:ByteArray)] from rfl) (Reps.none _ _))))))))));intro v206 w3 ho4 hb hg_ hnew_;clear hg_ hnew_;(first|rw [←Ny205.out] at ho4|(simp only [Int.reduceToNat] at ho4;rw [←Ny205.out] at ho4));have n0_:=A_ (Kd.R_lower ho4 (bz_ (by repeat (first|(with_reducible first|exact HB.out|apply ba_|apply pd_|apply b1_)|exact HB.out))));have n1_:=A_ (bp_ (by repeat (first|(with_reducible first|exact HB.out|apply ba_|apply pd_|apply b1_)|exact HB.out)) hb);clear HB;have HO207:=n0_;have HB:=n1_;clear n0_ n1_;clear hb ho4;obtain ⟨Ao5,co5,eo5⟩:=Kd.R_slice HO207.out;subst eo5)|((with_reducible refine gate_callee (f:=51) rfl ?_);refine goesL_ (some 5) rfl rfl Tryz.func51 (by kernel_rfl) rfl #[.slice Ao5 y205.length co5,.string a0] rfl (by (try simp only [List.map_toArray,List.map_cons,List.map_nil]);first|done|rfl|(simp only [ld_,lt_];rfl)) ?_;(with_reducible refine (slices_Contains_string_string.calls k _ _ y205 a0 t208 _ ?side1 ?side2 A2.out).mono ?_);(case side1=>repeat (first|exact (Kd.R_reads' HO207.out).2.2|(with_reducible refine ca_ ?_ _)|(with_reducible refine cn_ ?_ _)|(with_reducible refine cd_ ?_)));(case side2=>exact (Kd.R_reads' HO207.out).2.1);rintro e w' ⟨rfl,⟨nd,rfl⟩⟩;refine ⟨_,rfl,?_⟩))
 go_ret
 exact ⟨by first|rfl|(simp [errW_none,errW_some] <;> rfl)|(simp [*,errW_none,errW_some] <;> rfl),by repeat (first|(with_reducible first|exact HB.out|apply ba_|apply pd_|apply b1_)|exact HB.out)⟩
/-! ### impl_Node_isVoid: function 26 -/
def impl_Node_isVoid.f (k:Nat) (a0_0:Int) (a0_1:Int) (a0_2:ByteArray) (a0_3:ByteArray) (l0_4:List (S63)) (l0_5:List (S38)):Option (Bool):=if a0_0=1 then (if a0_1=0 then ((impl_IsVoid.f k a0_2).bind fun t210=>(some t210)) else (some false)) else (some false)
theorem impl_Node_isVoid.mono:∀ a0 a1 a2 a3 a4 a5 k,LeO (impl_Node_isVoid.f k a0 a1 a2 a3 a4 a5) (impl_Node_isVoid.f (k+1) a0 a1 a2 a3 a4 a5):=by
 intro a0 a1 a2 a3 a4 a5 k
 unfold impl_Node_isVoid.f
 repeat' first
  | (with_reducible exact impl_IsVoid.mono _ _)
  | (with_reducible exact LeO.refl _)
  | (with_reducible exact LeO.none _)
  | (with_reducible refine LeO.ite ?_ ?_)
  | (with_reducible refine LeO.bind ?_ (fun _=>?_))
  | exact impl_IsVoid.mono _ _
  | exact LeO.none _
  | refine LeO.ite ?_ ?_
  | refine LeO.bind ?_ (fun _=>?_)
set_option maxHeartbeats 8000000 in
set_option maxRecDepth 100000 in
theorem impl_Node_isVoid.calls (k:Nat) (a0_0:Int) (a0_1:Int) (a0_2:ByteArray) (a0_3:ByteArray) (A0_4:Option Addr) (c0_4:Nat) (l0_4:List (S63)) (A0_5:Option Addr) (c0_5:Nat) (l0_5:List (S38)) (r:Bool) (w:World) (hr0_4:Kd.C k63 w A0_4 l0_4.length l0_4) (hc0_4:l0_4.length≤c0_4) (hr0_5:Kd.C k38 w A0_5 l0_5.length l0_5) (hc0_5:l0_5.length≤c0_5) (h:impl_Node_isVoid.f k a0_0 a0_1 a0_2 a0_3 l0_4 l0_5=some r) :
 Calls Tryz.prog 26 #[.agg #[.int .i64 a0_0,.int .i64 a0_1,.string a0_2,.string a0_3,.slice A0_4 l0_4.length c0_4,.slice A0_5 l0_5.length c0_5]] w fun e w'=>e=.returned (.bool r)∧Below w.heap.size w w':=by
 have hu38:=Tryz.underlying38
 have HR0_4:=A_ hr0_4
 have HC0_4:=A_ hc0_4
 clear hr0_4 hc0_4
 have HR0_5:=A_ hr0_5
 have HC0_5:=A_ hc0_5
 clear hr0_5 hc0_5
 have HB:=A_ (Below.refl w.heap.size w)
 have H:(if a0_0=1 then (if a0_1=0 then ((impl_IsVoid.f k a0_2).bind fun t210=>(some t210)) else (some false)) else (some false))=some r:=h
 clear h
 by_cases c2:a0_0=1
 ·rw [if_pos c2] at H
  have c2b0:(a0_0 == 1)=true:=beq_iff_eq.mpr c2
  have c2b1:(a0_0 != 1)=false:=bne_eq_false_iff_eq.mpr c2
  clear c2
  by_cases c3:a0_1=0
  ·rw [if_pos c3] at H
   have c3b0:(a0_1 == 0)=true:=beq_iff_eq.mpr c3
   have c3b1:(a0_1 != 0)=false:=bne_eq_false_iff_eq.mpr c3
   clear c3
   replace H:=ob_ H
   obtain ⟨t210,A40,H⟩:=H
   replace H:(some t210)=some r:=H
   have A4:=A_ A40
   clear A40
   obtain rfl:=oi_ H
   go_enter Tryz.func26,Tryz.ntmps26
   go_wp2_with (first|((with_reducible refine gate_dst (N:=1) rfl ?_);refine box_event ?hg (N:=1) ?hd (cs:=#[.int .i64 a0_0,.int .i64 a0_1,.string a0_2,.string a0_3,.slice A0_4 l0_4.length c0_4,.slice A0_5 l0_5.length c0_5]) (t:=38) ?hr ?_;(case hd=>rfl);(case hg=>rfl);(case hr=>first|(go_simp;done)|(go_simp;rfl));intro gb209 hg w5 hbox hb;have n0_:=A_ (bp_ (by repeat (first|(with_reducible first|exact HB.out|apply ba_|apply pd_|apply b1_)|exact HB.out)) hb);have n1_:=A_ (hbox);have n2_:=A_ ((by rw [hg];exact (bz_ (by repeat (first|(with_reducible first|exact HB.out|apply ba_|apply pd_|apply b1_)|exact HB.out))):w.heap.size≤gb209));have n3_:=A_ ((by rw [hg];exact (bz_ (by repeat (first|(with_reducible first|exact HB.out|apply ba_|apply pd_|apply b1_)|exact HB.out))):w.heap.size≤gb209));clear HB;have HB:=n0_;have BK209:=n1_;have GW209:=n2_;have GE209:=n3_;clear n0_ n1_ n2_ n3_;clear hb hbox hg;have hcz6_0:w5.cell? ⟨gb209,0,none⟩=some (.int .i64 a0_0):=(bc_ BK209.out 0).trans rfl;have hcz6_1:w5.cell? ⟨gb209,1,none⟩=some (.int .i64 a0_1):=(bc_ BK209.out 1).trans rfl;have hcz6_2:w5.cell? ⟨gb209,2,none⟩=some (.string a0_2):=(bc_ BK209.out 2).trans rfl;have hcz6_3:w5.cell? ⟨gb209,3,none⟩=some (.string a0_3):=(bc_ BK209.out 3).trans rfl;have hcz6_4:w5.cell? ⟨gb209,4,none⟩=some (.slice A0_4 l0_4.length c0_4):=(bc_ BK209.out 4).trans rfl;have hcz6_5:w5.cell? ⟨gb209,5,none⟩=some (.slice A0_5 l0_5.length c0_5):=(bc_ BK209.out 5).trans rfl;have hfz6_0:=bf_ BK209.out 0;have hfz6_1:=bf_ BK209.out 1;have hfz6_2:=bf_ BK209.out 2;have hfz6_3:=bf_ BK209.out 3;have hfz6_4:=bf_ BK209.out 4;have hfz6_5:=bf_ BK209.out 5)|(go_at_call 40;(with_reducible refine (impl_IsVoid.calls k a0_2 t210 _ A4.out).mono ?_);rintro e w7 ⟨rfl,hb⟩;have n0_:=A_ (kb_ (g:=gb209) (o:=.cells #[.int .i64 a0_0,.int .i64 a0_1,.string a0_2,.string a0_3,.slice A0_4 l0_4.length c0_4,.slice A0_5 l0_5.length c0_5] 38 (0,0)) (by (with_reducible repeat (first|refine kn_ ?_ _|refine kd_ ?_|refine ka_ ?_ _));exact BK209.out) hb);have n1_:=A_ (bp_ (by repeat (first|(with_reducible first|exact HB.out|apply ba_|apply pd_|apply b1_|refine bs_ ?_ GE209.out)|exact HB.out)) hb);clear BK209;clear HB;have BK209:=n0_;have HB:=n1_;clear n0_ n1_;(try clear hb);(try clear hb2);(try clear hk);(try clear hi)))
   go_ret
   exact ⟨by first|rfl|(simp [errW_none,errW_some] <;> rfl)|(simp [*,errW_none,errW_some] <;> rfl),by repeat (first|(with_reducible first|exact HB.out|apply ba_|apply pd_|apply b1_|refine bs_ ?_ GE209.out)|exact HB.out)⟩
  ·rw [if_neg c3] at H
   have c3b0:(a0_1 == 0)=false:=beq_eq_false_iff_ne.mpr c3
   have c3b1:(a0_1 != 0)=true:=bne_iff_ne.mpr c3
   obtain rfl:=oi_ H
   go_enter Tryz.func26,Tryz.ntmps26
   go_wp2_with (first|((with_reducible refine gate_dst (N:=1) rfl ?_);refine box_event ?hg (N:=1) ?hd (cs:=#[.int .i64 a0_0,.int .i64 a0_1,.string a0_2,.string a0_3,.slice A0_4 l0_4.length c0_4,.slice A0_5 l0_5.length c0_5]) (t:=38) ?hr ?_;(case hd=>rfl);(case hg=>rfl);(case hr=>first|(go_simp;done)|(go_simp;rfl));intro gb209 hg w8 hbox hb;have n0_:=A_ (bp_ (by repeat (first|(with_reducible first|exact HB.out|apply ba_|apply pd_|apply b1_)|exact HB.out)) hb);have n1_:=A_ (hbox);have n2_:=A_ ((by rw [hg];exact (bz_ (by repeat (first|(with_reducible first|exact HB.out|apply ba_|apply pd_|apply b1_)|exact HB.out))):w.heap.size≤gb209));have n3_:=A_ ((by rw [hg];exact (bz_ (by repeat (first|(with_reducible first|exact HB.out|apply ba_|apply pd_|apply b1_)|exact HB.out))):w.heap.size≤gb209));clear HB;have HB:=n0_;have BK209:=n1_;have GW209:=n2_;have GE209:=n3_;clear n0_ n1_ n2_ n3_;clear hb hbox hg;have hcz9_0:w8.cell? ⟨gb209,0,none⟩=some (.int .i64 a0_0):=(bc_ BK209.out 0).trans rfl;have hcz9_1:w8.cell? ⟨gb209,1,none⟩=some (.int .i64 a0_1):=(bc_ BK209.out 1).trans rfl;have hcz9_2:w8.cell? ⟨gb209,2,none⟩=some (.string a0_2):=(bc_ BK209.out 2).trans rfl;have hcz9_3:w8.cell? ⟨gb209,3,none⟩=some (.string a0_3):=(bc_ BK209.out 3).trans rfl;have hcz9_4:w8.cell? ⟨gb209,4,none⟩=some (.slice A0_4 l0_4.length c0_4):=(bc_ BK209.out 4).trans rfl;have hcz9_5:w8.cell? ⟨gb209,5,none⟩=some (.slice A0_5 l0_5.length c0_5):=(bc_ BK209.out 5).trans rfl;have hfz9_0:=bf_ BK209.out 0;have hfz9_1:=bf_ BK209.out 1;have hfz9_2:=bf_ BK209.out 2;have hfz9_3:=bf_ BK209.out 3;have hfz9_4:=bf_ BK209.out 4;have hfz9_5:=bf_ BK209.out 5))
   go_ret
   exact ⟨by first|rfl|(simp [errW_none,errW_some] <;> rfl)|(simp [*,errW_none,errW_some] <;> rfl),by repeat (first|(with_reducible first|exact HB.out|apply ba_|apply pd_|apply b1_|refine bs_ ?_ GE209.out)|exact HB.out)⟩
 ·rw [if_neg c2] at H
  have c2b0:(a0_0 == 1)=false:=beq_eq_false_iff_ne.mpr c2
  have c2b1:(a0_0 != 1)=true:=bne_iff_ne.mpr c2
  obtain rfl:=oi_ H
  go_enter Tryz.func26,Tryz.ntmps26
  go_wp2_with (first|((with_reducible refine gate_dst (N:=1) rfl ?_);refine box_event ?hg (N:=1) ?hd (cs:=#[.int .i64 a0_0,.int .i64 a0_1,.string a0_2,.string a0_3,.slice A0_4 l0_4.length c0_4,.slice A0_5 l0_5.length c0_5]) (t:=38) ?hr ?_;(case hd=>rfl);(case hg=>rfl);(case hr=>first|(go_simp;done)|(go_simp;rfl));intro gb209 hg w10 hbox hb;have n0_:=A_ (bp_ (by repeat (first|(with_reducible first|exact HB.out|apply ba_|apply pd_|apply b1_)|exact HB.out)) hb);have n1_:=A_ (hbox);have n2_:=A_ ((by rw [hg];exact (bz_ (by repeat (first|(with_reducible first|exact HB.out|apply ba_|apply pd_|apply b1_)|exact HB.out))):w.heap.size≤gb209));have n3_:=A_ ((by rw [hg];exact (bz_ (by repeat (first|(with_reducible first|exact HB.out|apply ba_|apply pd_|apply b1_)|exact HB.out))):w.heap.size≤gb209));clear HB;have HB:=n0_;have BK209:=n1_;have GW209:=n2_;have GE209:=n3_;clear n0_ n1_ n2_ n3_;clear hb hbox hg;have hcz11_0:w10.cell? ⟨gb209,0,none⟩=some (.int .i64 a0_0):=(bc_ BK209.out 0).trans rfl;have hcz11_1:w10.cell? ⟨gb209,1,none⟩=some (.int .i64 a0_1):=(bc_ BK209.out 1).trans rfl;have hcz11_2:w10.cell? ⟨gb209,2,none⟩=some (.string a0_2):=(bc_ BK209.out 2).trans rfl;have hcz11_3:w10.cell? ⟨gb209,3,none⟩=some (.string a0_3):=(bc_ BK209.out 3).trans rfl;have hcz11_4:w10.cell? ⟨gb209,4,none⟩=some (.slice A0_4 l0_4.length c0_4):=(bc_ BK209.out 4).trans rfl;have hcz11_5:w10.cell? ⟨gb209,5,none⟩=some (.slice A0_5 l0_5.length c0_5):=(bc_ BK209.out 5).trans rfl;have hfz11_0:=bf_ BK209.out 0;have hfz11_1:=bf_ BK209.out 1;have hfz11_2:=bf_ BK209.out 2;have hfz11_3:=bf_ BK209.out 3;have hfz11_4:=bf_ BK209.out 4;have hfz11_5:=bf_ BK209.out 5))
  go_ret
  exact ⟨by first|rfl|(simp [errW_none,errW_some] <;> rfl)|(simp [*,errW_none,errW_some] <;> rfl),by repeat (first|(with_reducible first|exact HB.out|apply ba_|apply pd_|apply b1_|refine bs_ ?_ GE209.out)|exact HB.out)⟩
def voidL:List ByteArray:=[⟨#[98,114]⟩,⟨#[104,114]⟩,⟨#[105,109,103]⟩,⟨#[105,110,112,117,116]⟩,⟨#[109,101,116,97]⟩,⟨#[108,105,110,107]⟩,⟨#[98,97,115,101]⟩,⟨#[101,109,98,101,100]⟩]
theorem ev_IsVoid (a:ByteArray):Ev (fun k=>impl_IsVoid.f k a) (Kit.hasT voidL a):=Ev.bind (ev_slices_Contains _ a (by decide)) (Ev.now _)
def voidB (x:S38):Bool:=if x.f0=1 then (if x.f1=0 then Kit.hasT voidL x.f2 else false) else false
theorem ev_isVoidN (x:S38):Ev (fun k=>impl_Node_isVoid.f k x.f0 x.f1 x.f2 x.f3 x.f4 x.f5) (voidB x):=by
 unfold impl_Node_isVoid.f voidB
 refine Kit.ev_if (fun h=>?_) (fun h=>?_)
 case refine_2=>rw [if_neg h];exact Ev.now _
 case refine_1 =>
  rw [if_pos h]
  refine Kit.ev_if (fun h=>?_) (fun h=>?_)
  case refine_2=>rw [if_neg h];exact Ev.now _
  case refine_1=>rw [if_pos h];exact Ev.bind (ev_IsVoid x.f2) (Ev.now _)
theorem impl_Node_isVoid.pure (x:S38) (A4:Option Addr) (c4:Nat) (A5:Option Addr) (c5:Nat) (W:World) (h4:Kd.C k63 W A4 x.f4.length x.f4) (l4:x.f4.length≤c4) (h5:Kd.C k38 W A5 x.f5.length x.f5) (l5:x.f5.length≤c5):Calls Tryz.prog 26 #[.agg #[.int .i64 x.f0,.int .i64 x.f1,.string x.f2,.string x.f3,.slice A4 x.f4.length c4,.slice A5 x.f5.length c5]] W fun e w'=>e=.returned (.bool (voidB x))∧Below W.heap.size W w':=by
 obtain ⟨K,hK⟩:=ev_isVoidN x
 exact impl_Node_isVoid.calls K x.f0 x.f1 x.f2 x.f3 A4 c4 x.f4 A5 c5 x.f5 _ W h4 l4 h5 l5 (hK K (Nat.le_refl _))
/-! ### impl_IsRaw: function 42 -/
def impl_IsRaw.f (k:Nat) (a0:ByteArray):Option (Bool):=(slices_Contains_string_string.f k (([(⟨#[115,116,121,108,101]⟩:ByteArray),(⟨#[115,99,114,105,112,116]⟩:ByteArray),(⟨#[120,109,112]⟩:ByteArray),(⟨#[105,102,114,97,109,101]⟩:ByteArray)]:List ByteArray)) a0).bind fun t214=>(some t214)
theorem impl_IsRaw.mono:∀ a0 k,LeO (impl_IsRaw.f k a0) (impl_IsRaw.f (k+1) a0):=by
 intro a0 k
 unfold impl_IsRaw.f
 repeat' first
  | (with_reducible exact slices_Contains_string_string.mono _ _ _)
  | (with_reducible exact LeO.refl _)
  | (with_reducible exact LeO.none _)
  | (with_reducible refine LeO.ite ?_ ?_)
  | (with_reducible refine LeO.bind ?_ (fun _=>?_))
  | exact slices_Contains_string_string.mono _ _ _
  | exact LeO.none _
  | refine LeO.ite ?_ ?_
  | refine LeO.bind ?_ (fun _=>?_)
set_option maxHeartbeats 8000000 in
set_option maxRecDepth 100000 in
theorem impl_IsRaw.calls (k:Nat) (a0:ByteArray) (r:Bool) (w:World) (h:impl_IsRaw.f k a0=some r) :
 Calls Tryz.prog 42 #[.string a0] w fun e w'=>e=.returned (.bool r)∧Below w.heap.size w w':=by
 have HB:=A_ (Below.refl w.heap.size w)
 have H:((slices_Contains_string_string.f k (([(⟨#[115,116,121,108,101]⟩:ByteArray),(⟨#[115,99,114,105,112,116]⟩:ByteArray),(⟨#[120,109,112]⟩:ByteArray),(⟨#[105,102,114,97,109,101]⟩:ByteArray)]:List ByteArray)) a0).bind fun t214=>(some t214))=some r:=h
 clear h
 obtain ⟨y211,hy211⟩:∃ y_:List ByteArray,y_=(([(⟨#[115,116,121,108,101]⟩:ByteArray),(⟨#[115,99,114,105,112,116]⟩:ByteArray),(⟨#[120,109,112]⟩:ByteArray),(⟨#[105,102,114,97,109,101]⟩:ByteArray)]:List ByteArray)):=⟨_,rfl⟩
 replace H:((slices_Contains_string_string.f k y211 a0).bind fun t214=>(some t214))=some r:=by first|(rw [hy211];with_reducible exact H)|(have H2_:=(Option.bind_some _ _).symm.trans H;rw [hy211];with_reducible exact H2_)|(have H2_:=(Option.bind_some _ _).symm.trans H;with_reducible exact H2_)|with_reducible exact H|(rw [hy211];exact H)|exact H
 have Ny211:=A_ hy211
 clear hy211
 replace H:=ob_ H
 obtain ⟨t214,A20,H⟩:=H
 replace H:(some t214)=some r:=H
 have A2:=A_ A20
 clear A20
 obtain rfl:=oi_ H
 go_enter Tryz.func42,Tryz.ntmps42
 go_wp2_with (first|((with_reducible refine gate_dst (N:=3) rfl ?_);refine Kd.R_lit Kd.string _ 9 ?hg (N:=3) ?hd (xs:=([(⟨#[115,116,121,108,101]⟩:ByteArray),(⟨#[115,99,114,105,112,116]⟩:ByteArray),(⟨#[120,109,112]⟩:ByteArray),(⟨#[105,102,114,97,109,101]⟩:ByteArray)]:List ByteArray)) (inner:=[.string (⟨#[115,116,121,108,101]⟩:ByteArray),.string (⟨#[115,99,114,105,112,116]⟩:ByteArray),.string (⟨#[120,109,112]⟩:ByteArray),.string (⟨#[105,102,114,97,109,101]⟩:ByteArray)]) (ok:=fun _=>True) (okp:=fun _=>True) ?hr ?hp (fun _ hk=>hk) trivial (Below.refl _ _) (Nat.le_refl _) (by simp) ?_;(case hd=>rfl);(case hg=>rfl);(case hr=>first|(go_simp;done)|(go_simp;rfl)|(first|(go_simp;done)|(go_simp;rfl)));(case hp=>exact (Reps.one (show Kd.M Kd.string _ _ _ (⟨#[115,116,121,108,101]⟩:ByteArray) [.string (⟨#[115,116,121,108,101]⟩:ByteArray)] from rfl) (Reps.one (show Kd.M Kd.string _ _ _ (⟨#[115,99,114,105,112,116]⟩:ByteArray) [.string (⟨#[115,99,114,105,112,116]⟩:ByteArray)] from rfl) (Reps.one (show Kd.M Kd.string _ _ _ (⟨#[120,109,112]⟩:ByteArray) [.string (⟨#[120,109,112]⟩:ByteArray)] from rfl) (Reps.one (show Kd.M Kd.string _ _ _ (⟨#[105,102,114,97,109,101]⟩:ByteArray) [.string (⟨#[105,102,114,97,109,101]⟩:ByteArray)] from rfl) (Reps.none _ _))))));intro v212 w3 ho4 hb hg_ hnew_;clear hg_ hnew_;(first|rw [←Ny211.out] at ho4|(simp only [Int.reduceToNat] at ho4;rw [←Ny211.out] at ho4));have n0_:=A_ (Kd.R_lower ho4 (bz_ (by repeat (first|(with_reducible first|exact HB.out|apply ba_|apply pd_|apply b1_)|exact HB.out))));have n1_:=A_ (bp_ (by repeat (first|(with_reducible first|exact HB.out|apply ba_|apply pd_|apply b1_)|exact HB.out)) hb);clear HB;have HO213:=n0_;have HB:=n1_;clear n0_ n1_;clear hb ho4;obtain ⟨Ao5,co5,eo5⟩:=Kd.R_slice HO213.out;subst eo5)|((with_reducible refine gate_callee (f:=51) rfl ?_);refine goesL_ (some 5) rfl rfl Tryz.func51 (by kernel_rfl) rfl #[.slice Ao5 y211.length co5,.string a0] rfl (by (try simp only [List.map_toArray,List.map_cons,List.map_nil]);first|done|rfl|(simp only [ld_,lt_];rfl)) ?_;(with_reducible refine (slices_Contains_string_string.calls k _ _ y211 a0 t214 _ ?side1 ?side2 A2.out).mono ?_);(case side1=>repeat (first|exact (Kd.R_reads' HO213.out).2.2|(with_reducible refine ca_ ?_ _)|(with_reducible refine cn_ ?_ _)|(with_reducible refine cd_ ?_)));(case side2=>exact (Kd.R_reads' HO213.out).2.1);rintro e w' ⟨rfl,⟨nd,rfl⟩⟩;refine ⟨_,rfl,?_⟩))
 go_ret
 exact ⟨by first|rfl|(simp [errW_none,errW_some] <;> rfl)|(simp [*,errW_none,errW_some] <;> rfl),by repeat (first|(with_reducible first|exact HB.out|apply ba_|apply pd_|apply b1_)|exact HB.out)⟩
/-! ### impl_Node_isRaw: function 28 -/
def impl_Node_isRaw.f (k:Nat) (a0_0:Int) (a0_1:Int) (a0_2:ByteArray) (a0_3:ByteArray) (l0_4:List (S63)) (l0_5:List (S38)):Option (Bool):=if a0_0=1 then (if a0_1=0 then ((impl_IsRaw.f k a0_2).bind fun t216=>(some t216)) else (some false)) else (some false)
theorem impl_Node_isRaw.mono:∀ a0 a1 a2 a3 a4 a5 k,LeO (impl_Node_isRaw.f k a0 a1 a2 a3 a4 a5) (impl_Node_isRaw.f (k+1) a0 a1 a2 a3 a4 a5):=by
 intro a0 a1 a2 a3 a4 a5 k
 unfold impl_Node_isRaw.f
 repeat' first
  | (with_reducible exact impl_IsRaw.mono _ _)
  | (with_reducible exact LeO.refl _)
  | (with_reducible exact LeO.none _)
  | (with_reducible refine LeO.ite ?_ ?_)
  | (with_reducible refine LeO.bind ?_ (fun _=>?_))
  | exact impl_IsRaw.mono _ _
  | exact LeO.none _
  | refine LeO.ite ?_ ?_
  | refine LeO.bind ?_ (fun _=>?_)
set_option maxHeartbeats 8000000 in
set_option maxRecDepth 100000 in
theorem impl_Node_isRaw.calls (k:Nat) (a0_0:Int) (a0_1:Int) (a0_2:ByteArray) (a0_3:ByteArray) (A0_4:Option Addr) (c0_4:Nat) (l0_4:List (S63)) (A0_5:Option Addr) (c0_5:Nat) (l0_5:List (S38)) (r:Bool) (w:World) (hr0_4:Kd.C k63 w A0_4 l0_4.length l0_4) (hc0_4:l0_4.length≤c0_4) (hr0_5:Kd.C k38 w A0_5 l0_5.length l0_5) (hc0_5:l0_5.length≤c0_5) (h:impl_Node_isRaw.f k a0_0 a0_1 a0_2 a0_3 l0_4 l0_5=some r) :
 Calls Tryz.prog 28 #[.agg #[.int .i64 a0_0,.int .i64 a0_1,.string a0_2,.string a0_3,.slice A0_4 l0_4.length c0_4,.slice A0_5 l0_5.length c0_5]] w fun e w'=>e=.returned (.bool r)∧Below w.heap.size w w':=by
 have hu38:=Tryz.underlying38
 have HR0_4:=A_ hr0_4
 have HC0_4:=A_ hc0_4
 clear hr0_4 hc0_4
 have HR0_5:=A_ hr0_5
 have HC0_5:=A_ hc0_5
 clear hr0_5 hc0_5
 have HB:=A_ (Below.refl w.heap.size w)
 have H:(if a0_0=1 then (if a0_1=0 then ((impl_IsRaw.f k a0_2).bind fun t216=>(some t216)) else (some false)) else (some false))=some r:=h
 clear h
 by_cases c2:a0_0=1
 ·rw [if_pos c2] at H
  have c2b0:(a0_0 == 1)=true:=beq_iff_eq.mpr c2
  have c2b1:(a0_0 != 1)=false:=bne_eq_false_iff_eq.mpr c2
  clear c2
  by_cases c3:a0_1=0
  ·rw [if_pos c3] at H
   have c3b0:(a0_1 == 0)=true:=beq_iff_eq.mpr c3
   have c3b1:(a0_1 != 0)=false:=bne_eq_false_iff_eq.mpr c3
   clear c3
   replace H:=ob_ H
   obtain ⟨t216,A40,H⟩:=H
   replace H:(some t216)=some r:=H
   have A4:=A_ A40
   clear A40
   obtain rfl:=oi_ H
   go_enter Tryz.func28,Tryz.ntmps28
   go_wp2_with (first|((with_reducible refine gate_dst (N:=1) rfl ?_);refine box_event ?hg (N:=1) ?hd (cs:=#[.int .i64 a0_0,.int .i64 a0_1,.string a0_2,.string a0_3,.slice A0_4 l0_4.length c0_4,.slice A0_5 l0_5.length c0_5]) (t:=38) ?hr ?_;(case hd=>rfl);(case hg=>rfl);(case hr=>first|(go_simp;done)|(go_simp;rfl));intro gb215 hg w5 hbox hb;have n0_:=A_ (bp_ (by repeat (first|(with_reducible first|exact HB.out|apply ba_|apply pd_|apply b1_)|exact HB.out)) hb);have n1_:=A_ (hbox);have n2_:=A_ ((by rw [hg];exact (bz_ (by repeat (first|(with_reducible first|exact HB.out|apply ba_|apply pd_|apply b1_)|exact HB.out))):w.heap.size≤gb215));have n3_:=A_ ((by rw [hg];exact (bz_ (by repeat (first|(with_reducible first|exact HB.out|apply ba_|apply pd_|apply b1_)|exact HB.out))):w.heap.size≤gb215));clear HB;have HB:=n0_;have BK215:=n1_;have GW215:=n2_;have GE215:=n3_;clear n0_ n1_ n2_ n3_;clear hb hbox hg;have hcz6_0:w5.cell? ⟨gb215,0,none⟩=some (.int .i64 a0_0):=(bc_ BK215.out 0).trans rfl;have hcz6_1:w5.cell? ⟨gb215,1,none⟩=some (.int .i64 a0_1):=(bc_ BK215.out 1).trans rfl;have hcz6_2:w5.cell? ⟨gb215,2,none⟩=some (.string a0_2):=(bc_ BK215.out 2).trans rfl;have hcz6_3:w5.cell? ⟨gb215,3,none⟩=some (.string a0_3):=(bc_ BK215.out 3).trans rfl;have hcz6_4:w5.cell? ⟨gb215,4,none⟩=some (.slice A0_4 l0_4.length c0_4):=(bc_ BK215.out 4).trans rfl;have hcz6_5:w5.cell? ⟨gb215,5,none⟩=some (.slice A0_5 l0_5.length c0_5):=(bc_ BK215.out 5).trans rfl;have hfz6_0:=bf_ BK215.out 0;have hfz6_1:=bf_ BK215.out 1;have hfz6_2:=bf_ BK215.out 2;have hfz6_3:=bf_ BK215.out 3;have hfz6_4:=bf_ BK215.out 4;have hfz6_5:=bf_ BK215.out 5)|(go_at_call 42;(with_reducible refine (impl_IsRaw.calls k a0_2 t216 _ A4.out).mono ?_);rintro e w7 ⟨rfl,hb⟩;have n0_:=A_ (kb_ (g:=gb215) (o:=.cells #[.int .i64 a0_0,.int .i64 a0_1,.string a0_2,.string a0_3,.slice A0_4 l0_4.length c0_4,.slice A0_5 l0_5.length c0_5] 38 (0,0)) (by (with_reducible repeat (first|refine kn_ ?_ _|refine kd_ ?_|refine ka_ ?_ _));exact BK215.out) hb);have n1_:=A_ (bp_ (by repeat (first|(with_reducible first|exact HB.out|apply ba_|apply pd_|apply b1_|refine bs_ ?_ GE215.out)|exact HB.out)) hb);clear BK215;clear HB;have BK215:=n0_;have HB:=n1_;clear n0_ n1_;(try clear hb);(try clear hb2);(try clear hk);(try clear hi)))
   go_ret
   exact ⟨by first|rfl|(simp [errW_none,errW_some] <;> rfl)|(simp [*,errW_none,errW_some] <;> rfl),by repeat (first|(with_reducible first|exact HB.out|apply ba_|apply pd_|apply b1_|refine bs_ ?_ GE215.out)|exact HB.out)⟩
  ·rw [if_neg c3] at H
   have c3b0:(a0_1 == 0)=false:=beq_eq_false_iff_ne.mpr c3
   have c3b1:(a0_1 != 0)=true:=bne_iff_ne.mpr c3
   obtain rfl:=oi_ H
   go_enter Tryz.func28,Tryz.ntmps28
   go_wp2_with (first|((with_reducible refine gate_dst (N:=1) rfl ?_);refine box_event ?hg (N:=1) ?hd (cs:=#[.int .i64 a0_0,.int .i64 a0_1,.string a0_2,.string a0_3,.slice A0_4 l0_4.length c0_4,.slice A0_5 l0_5.length c0_5]) (t:=38) ?hr ?_;(case hd=>rfl);(case hg=>rfl);(case hr=>first|(go_simp;done)|(go_simp;rfl));intro gb215 hg w8 hbox hb;have n0_:=A_ (bp_ (by repeat (first|(with_reducible first|exact HB.out|apply ba_|apply pd_|apply b1_)|exact HB.out)) hb);have n1_:=A_ (hbox);have n2_:=A_ ((by rw [hg];exact (bz_ (by repeat (first|(with_reducible first|exact HB.out|apply ba_|apply pd_|apply b1_)|exact HB.out))):w.heap.size≤gb215));have n3_:=A_ ((by rw [hg];exact (bz_ (by repeat (first|(with_reducible first|exact HB.out|apply ba_|apply pd_|apply b1_)|exact HB.out))):w.heap.size≤gb215));clear HB;have HB:=n0_;have BK215:=n1_;have GW215:=n2_;have GE215:=n3_;clear n0_ n1_ n2_ n3_;clear hb hbox hg;have hcz9_0:w8.cell? ⟨gb215,0,none⟩=some (.int .i64 a0_0):=(bc_ BK215.out 0).trans rfl;have hcz9_1:w8.cell? ⟨gb215,1,none⟩=some (.int .i64 a0_1):=(bc_ BK215.out 1).trans rfl;have hcz9_2:w8.cell? ⟨gb215,2,none⟩=some (.string a0_2):=(bc_ BK215.out 2).trans rfl;have hcz9_3:w8.cell? ⟨gb215,3,none⟩=some (.string a0_3):=(bc_ BK215.out 3).trans rfl;have hcz9_4:w8.cell? ⟨gb215,4,none⟩=some (.slice A0_4 l0_4.length c0_4):=(bc_ BK215.out 4).trans rfl;have hcz9_5:w8.cell? ⟨gb215,5,none⟩=some (.slice A0_5 l0_5.length c0_5):=(bc_ BK215.out 5).trans rfl;have hfz9_0:=bf_ BK215.out 0;have hfz9_1:=bf_ BK215.out 1;have hfz9_2:=bf_ BK215.out 2;have hfz9_3:=bf_ BK215.out 3;have hfz9_4:=bf_ BK215.out 4;have hfz9_5:=bf_ BK215.out 5))
   go_ret
   exact ⟨by first|rfl|(simp [errW_none,errW_some] <;> rfl)|(simp [*,errW_none,errW_some] <;> rfl),by repeat (first|(with_reducible first|exact HB.out|apply ba_|apply pd_|apply b1_|refine bs_ ?_ GE215.out)|exact HB.out)⟩
 ·rw [if_neg c2] at H
  have c2b0:(a0_0 == 1)=false:=beq_eq_false_iff_ne.mpr c2
  have c2b1:(a0_0 != 1)=true:=bne_iff_ne.mpr c2
  obtain rfl:=oi_ H
  go_enter Tryz.func28,Tryz.ntmps28
  go_wp2_with (first|((with_reducible refine gate_dst (N:=1) rfl ?_);refine box_event ?hg (N:=1) ?hd (cs:=#[.int .i64 a0_0,.int .i64 a0_1,.string a0_2,.string a0_3,.slice A0_4 l0_4.length c0_4,.slice A0_5 l0_5.length c0_5]) (t:=38) ?hr ?_;(case hd=>rfl);(case hg=>rfl);(case hr=>first|(go_simp;done)|(go_simp;rfl));intro gb215 hg w10 hbox hb;have n0_:=A_ (bp_ (by repeat (first|(with_reducible first|exact HB.out|apply ba_|apply pd_|apply b1_)|exact HB.out)) hb);have n1_:=A_ (hbox);have n2_:=A_ ((by rw [hg];exact (bz_ (by repeat (first|(with_reducible first|exact HB.out|apply ba_|apply pd_|apply b1_)|exact HB.out))):w.heap.size≤gb215));have n3_:=A_ ((by rw [hg];exact (bz_ (by repeat (first|(with_reducible first|exact HB.out|apply ba_|apply pd_|apply b1_)|exact HB.out))):w.heap.size≤gb215));clear HB;have HB:=n0_;have BK215:=n1_;have GW215:=n2_;have GE215:=n3_;clear n0_ n1_ n2_ n3_;clear hb hbox hg;have hcz11_0:w10.cell? ⟨gb215,0,none⟩=some (.int .i64 a0_0):=(bc_ BK215.out 0).trans rfl;have hcz11_1:w10.cell? ⟨gb215,1,none⟩=some (.int .i64 a0_1):=(bc_ BK215.out 1).trans rfl;have hcz11_2:w10.cell? ⟨gb215,2,none⟩=some (.string a0_2):=(bc_ BK215.out 2).trans rfl;have hcz11_3:w10.cell? ⟨gb215,3,none⟩=some (.string a0_3):=(bc_ BK215.out 3).trans rfl;have hcz11_4:w10.cell? ⟨gb215,4,none⟩=some (.slice A0_4 l0_4.length c0_4):=(bc_ BK215.out 4).trans rfl;have hcz11_5:w10.cell? ⟨gb215,5,none⟩=some (.slice A0_5 l0_5.length c0_5):=(bc_ BK215.out 5).trans rfl;have hfz11_0:=bf_ BK215.out 0;have hfz11_1:=bf_ BK215.out 1;have hfz11_2:=bf_ BK215.out 2;have hfz11_3:=bf_ BK215.out 3;have hfz11_4:=bf_ BK215.out 4;have hfz11_5:=bf_ BK215.out 5))
  go_ret
  exact ⟨by first|rfl|(simp [errW_none,errW_some] <;> rfl)|(simp [*,errW_none,errW_some] <;> rfl),by repeat (first|(with_reducible first|exact HB.out|apply ba_|apply pd_|apply b1_|refine bs_ ?_ GE215.out)|exact HB.out)⟩
def rawL:List ByteArray:=[⟨#[115,116,121,108,101]⟩,⟨#[115,99,114,105,112,116]⟩,⟨#[120,109,112]⟩,⟨#[105,102,114,97,109,101]⟩]
theorem ev_IsRaw (a:ByteArray):Ev (fun k=>impl_IsRaw.f k a) (Kit.hasT rawL a):=Ev.bind (ev_slices_Contains _ a (by decide)) (Ev.now _)
def rawB (x:S38):Bool:=if x.f0=1 then (if x.f1=0 then Kit.hasT rawL x.f2 else false) else false
theorem ev_isRawN (x:S38):Ev (fun k=>impl_Node_isRaw.f k x.f0 x.f1 x.f2 x.f3 x.f4 x.f5) (rawB x):=by
 unfold impl_Node_isRaw.f rawB
 refine Kit.ev_if (fun h=>?_) (fun h=>?_)
 case refine_2=>rw [if_neg h];exact Ev.now _
 case refine_1 =>
  rw [if_pos h]
  refine Kit.ev_if (fun h=>?_) (fun h=>?_)
  case refine_2=>rw [if_neg h];exact Ev.now _
  case refine_1=>rw [if_pos h];exact Ev.bind (ev_IsRaw x.f2) (Ev.now _)
theorem impl_Node_isRaw.pure (x:S38) (A4:Option Addr) (c4:Nat) (A5:Option Addr) (c5:Nat) (W:World) (h4:Kd.C k63 W A4 x.f4.length x.f4) (l4:x.f4.length≤c4) (h5:Kd.C k38 W A5 x.f5.length x.f5) (l5:x.f5.length≤c5):Calls Tryz.prog 28 #[.agg #[.int .i64 x.f0,.int .i64 x.f1,.string x.f2,.string x.f3,.slice A4 x.f4.length c4,.slice A5 x.f5.length c5]] W fun e w'=>e=.returned (.bool (rawB x))∧Below W.heap.size W w':=by
 obtain ⟨K,hK⟩:=ev_isRawN x
 exact impl_Node_isRaw.calls K x.f0 x.f1 x.f2 x.f3 A4 c4 x.f4 A5 c5 x.f5 _ W h4 l4 h5 l5 (hK K (Nat.le_refl _))
/-! ### impl_within: function 57 -/
def impl_within.f (a0:Int) (a1:Int) (a2:Int):Option (Bool):=if a0≥a1 then (some (decide (a0≤a2))) else (some false)
set_option maxHeartbeats 8000000 in
set_option maxRecDepth 100000 in
theorem impl_within.calls (a0:Int) (a1:Int) (a2:Int) (r:Bool) (w:World) (h:impl_within.f a0 a1 a2=some r) :
 Calls Tryz.prog 57 #[.int .i64 a0,.int .i64 a1,.int .i64 a2] w fun e w'=>e=.returned (.bool r)∧Drawn0 w w':=by
 have H:(if a0≥a1 then (some (decide (a0≤a2))) else (some false))=some r:=h
 clear h
 by_cases c4:a0≥a1
 ·rw [if_pos c4] at H
  have c4b0:decide (a1≤a0)=true:=dt_ c4
  clear c4
  obtain rfl:=oi_ H
  go_enter Tryz.func57,Tryz.ntmps57
  go_wp2
  go_ret
  exact ⟨by first|rfl|(simp;done)|(simp [*];done),by repeat (first|exact dr_ _|apply dp_)⟩
 ·rw [if_neg c4] at H
  have c4b0:decide (a1≤a0)=false:=df_ c4
  clear c4
  obtain rfl:=oi_ H
  go_enter Tryz.func57,Tryz.ntmps57
  go_wp2
  go_ret
  exact ⟨by first|rfl|(simp;done)|(simp [*];done),by repeat (first|exact dr_ _|apply dp_)⟩
theorem impl_within.pure (n a b:Int) (W:World):Calls Tryz.prog 57 #[.int .i64 n,.int .i64 a,.int .i64 b] W fun e w'=>e=.returned (.bool (decide (a≤n∧n≤b)))∧Drawn0 W w':=by
 refine impl_within.calls n a b _ W ?_
 unfold impl_within.f
 by_cases h:n≥a
 ·rw [if_pos h];simp [h]
 ·rw [if_neg h];simp;omega
/-! ### impl_isSmall: function 67 -/
def impl_isSmall.f (a0:Int):Option (Bool):=if a0≥97 then (some (decide (a0≤122))) else (some false)
set_option maxHeartbeats 8000000 in
set_option maxRecDepth 100000 in
theorem impl_isSmall.calls (a0:Int) (r:Bool) (w:World) (h:impl_isSmall.f a0=some r) :
 Calls Tryz.prog 67 #[.int .u8 a0] w fun e w'=>e=.returned (.bool r)∧Drawn0 w w':=by
 have H:(if a0≥97 then (some (decide (a0≤122))) else (some false))=some r:=h
 clear h
 by_cases c2:a0≥97
 ·rw [if_pos c2] at H
  have c2b0:decide (97≤a0)=true:=dt_ c2
  clear c2
  obtain rfl:=oi_ H
  go_enter Tryz.func67,Tryz.ntmps67
  go_wp2
  go_ret
  exact ⟨by first|rfl|(simp;done)|(simp [*];done),by repeat (first|exact dr_ _|apply dp_)⟩
 ·rw [if_neg c2] at H
  have c2b0:decide (97≤a0)=false:=df_ c2
  clear c2
  obtain rfl:=oi_ H
  go_enter Tryz.func67,Tryz.ntmps67
  go_wp2
  go_ret
  exact ⟨by first|rfl|(simp;done)|(simp [*];done),by repeat (first|exact dr_ _|apply dp_)⟩
/-! ### impl_isDigit: function 68 -/
def impl_isDigit.f (a0:Int):Option (Bool):=if a0≥48 then (some (decide (a0≤57))) else (some false)
set_option maxHeartbeats 8000000 in
set_option maxRecDepth 100000 in
theorem impl_isDigit.calls (a0:Int) (r:Bool) (w:World) (h:impl_isDigit.f a0=some r) :
 Calls Tryz.prog 68 #[.int .u8 a0] w fun e w'=>e=.returned (.bool r)∧Drawn0 w w':=by
 have H:(if a0≥48 then (some (decide (a0≤57))) else (some false))=some r:=h
 clear h
 by_cases c2:a0≥48
 ·rw [if_pos c2] at H
  have c2b0:decide (48≤a0)=true:=dt_ c2
  clear c2
  obtain rfl:=oi_ H
  go_enter Tryz.func68,Tryz.ntmps68
  go_wp2
  go_ret
  exact ⟨by first|rfl|(simp;done)|(simp [*];done),by repeat (first|exact dr_ _|apply dp_)⟩
 ·rw [if_neg c2] at H
  have c2b0:decide (48≤a0)=false:=df_ c2
  clear c2
  obtain rfl:=oi_ H
  go_enter Tryz.func68,Tryz.ntmps68
  go_wp2
  go_ret
  exact ⟨by first|rfl|(simp;done)|(simp [*];done),by repeat (first|exact dr_ _|apply dp_)⟩
end Go.Proofs.YtlpncjeahdfolaaGreatDoor.PFnExactSerialize
