/- By a program of this session, out of the kit's print and contracts made by hand: the machine side of a law; Lean checks it. No conditions. -/
import Derived.Test.YtbeplhbkoaopgaaPFnExactSetWordsx0
import Derived.Test.YtbeplhbkoaopgaaPFnExactSetWordsx22
namespace Go.Proofs.Ytbeplhbkoaopgaa.PFnExactSetWords
open Go.RowKit Go.Proofs.YtbeplhbkoaopgaaW.PrintWords Go.Proofs.YtbeplhbkoaopgaaW.PrintLast Go.Proofs.YtbeplhbkoaopgaaW.PrintMore
attribute [local go_sem] max2_int min2_int max_two min_two max_three min_three max_four min_four
set_option linter.unusedVariables false
set_option linter.unusedSimpArgs false
/-! ### slices_Contains_string_string: function 82 -/
def slices_Contains_string_string.f (k:Nat) (l0:List ByteArray) (a1:ByteArray):Option (Bool):=(slices_Index_string_string.f k l0 a1).bind fun t270=>(some (decide (t270≥0)))
theorem slices_Contains_string_string.mono:∀ a0 a1 k,LeO (slices_Contains_string_string.f k a0 a1) (slices_Contains_string_string.f (k+1) a0 a1):=by
 intro a0 a1 k
 unfold slices_Contains_string_string.f
 repeat' first
  | (with_reducible exact slices_Index_string_string.mono _ _ _)
  | (with_reducible exact LeO.refl _)
  | (with_reducible exact LeO.none _)
  | (with_reducible refine LeO.ite ?_ ?_)
  | (with_reducible refine LeO.bind ?_ (fun _=>?_))
  | exact slices_Index_string_string.mono _ _ _
  | exact LeO.none _
  | refine LeO.ite ?_ ?_
  | refine LeO.bind ?_ (fun _=>?_)
set_option maxHeartbeats 8000000 in
set_option maxRecDepth 100000 in
theorem slices_Contains_string_string.calls (k:Nat) (A0:Option Addr) (c0:Nat) (l0:List ByteArray) (a1:ByteArray) (r:Bool) (w:World) (hr0:Kd.C Kd.string w A0 l0.length l0) (hc0:l0.length≤c0) (h:slices_Contains_string_string.f k l0 a1=some r) :
 Calls Try.prog 82 #[.slice A0 l0.length c0,.string a1] w fun e w'=>e=.returned (.bool r)∧Drawn0 w w':=by
 have HR0:=A_ hr0
 have HC0:=A_ hc0
 clear hr0 hc0
 have H:((slices_Index_string_string.f k l0 a1).bind fun t270=>(some (decide (t270≥0))))=some r:=h
 clear h
 replace H:=ob_ H
 obtain ⟨t270,A30,H⟩:=H
 replace H:(some (decide (t270≥0)))=some r:=H
 have A3:=A_ A30
 clear A30
 obtain rfl:=oi_ H
 go_enter Try.func82,Try.ntmps82
 go_wp2_with (first|((with_reducible refine gate_callee (f:=85) rfl ?_);refine goesL_ (some 7) rfl rfl Try.func85 (by kernel_rfl) rfl #[.slice A0 l0.length c0,.string a1] rfl (by (try simp only [List.map_toArray,List.map_cons,List.map_nil]);first|done|rfl|(simp only [ld_,lt_];rfl)) ?_;(with_reducible refine (slices_Index_string_string.calls k _ _ l0 a1 t270 _ ?side1 ?side2 A3.out).mono ?_);(case side1=>repeat (first|exact HR0.out|(with_reducible refine ca_ ?_ _)|(with_reducible refine cn_ ?_ _)|(with_reducible refine cd_ ?_)));(case side2=>exact HC0.out);rintro e w' ⟨rfl,⟨nd,rfl⟩⟩;refine ⟨_,rfl,?_⟩))
 go_ret
 exact ⟨by first|rfl|(simp;done)|(simp [*];done),by repeat (first|exact dr_ _|apply dp_)⟩
theorem ev_slices_Index (xs:List ByteArray) (t:ByteArray) (hn:xs.length≤9223372036854775807):Ev (fun k=>slices_Index_string_string.f k xs t) (Kit.indexOf t xs 0):=by
 have key:∀ i,i≤xs.length→Ev (fun k=>slices_Index_string_string.l0 k xs t xs.length i) (Kit.indexOf t (xs.drop i) i):=by
  refine Kit.down ?_ ?_
  ·refine Ev.step (fun k=>rfl) ?_
   refine Kit.ev_neg (by omega) ?_
   rw [List.drop_length]
   exact Ev.now _
  ·intro i hi ih
   refine Ev.step (fun k=>rfl) ?_
   refine Kit.ev_pos (by omega) (Kit.ev_pos (by omega) (Kit.ev_pos (by omega) ?_))
   rw [Kit.drop_getD ByteArray.empty xs i hi,Kit.indexOf,Kit.rdOf_nat,Kit.wrap_nat hi hn]
   refine Kit.ev_if (fun h=>?_) (fun h=>?_)
   ·rw [if_pos h];exact Ev.now _
   ·rw [if_neg h];exact ih
 exact key 0 (by omega)
theorem ev_slices_Contains (xs:List ByteArray) (t:ByteArray) (hn:xs.length≤9223372036854775807):Ev (fun k=>slices_Contains_string_string.f k xs t) (Kit.hasT xs t):=by
 unfold slices_Contains_string_string.f
 refine Ev.bind (ev_slices_Index xs t hn) ?_
 rw [←Kit.indexOf_has xs t 0]
 exact Ev.now _
theorem slices_Contains_string_string.pure (A:Option Addr) (c:Nat) (xs:List ByteArray) (t:ByteArray) (W:World) (h:Kd.C Kd.string W A xs.length xs) (hc:xs.length≤c):Calls Try.prog 82 #[.slice A xs.length c,.string t] W fun e w'=>e=.returned (.bool (Kit.hasT xs t))∧Drawn0 W w':=by
 obtain ⟨K,hK⟩:=ev_slices_Contains xs t h.2.1
 exact slices_Contains_string_string.calls K A c xs t _ W h hc (hK K (Nat.le_refl _))
/-! ### impl_IsVoid: function 73 -/
def impl_IsVoid.f (k:Nat) (a0:ByteArray):Option (Bool):=(slices_Contains_string_string.f k (([(⟨#[98,114]⟩:ByteArray),(⟨#[104,114]⟩:ByteArray),(⟨#[105,109,103]⟩:ByteArray),(⟨#[105,110,112,117,116]⟩:ByteArray),(⟨#[109,101,116,97]⟩:ByteArray),(⟨#[108,105,110,107]⟩:ByteArray),(⟨#[98,97,115,101]⟩:ByteArray),(⟨#[101,109,98,101,100]⟩:ByteArray)]:List ByteArray)) a0).bind fun t274=>(some t274)
theorem impl_IsVoid.mono:∀ a0 k,LeO (impl_IsVoid.f k a0) (impl_IsVoid.f (k+1) a0):=by
 intro a0 k
 unfold impl_IsVoid.f
 repeat' first
  | (with_reducible exact slices_Contains_string_string.mono _ _ _)
  | (with_reducible exact LeO.refl _)
  | (with_reducible exact LeO.none _)
  | (with_reducible refine LeO.ite ?_ ?_)
  | (with_reducible refine LeO.bind ?_ (fun _=>?_))
  | exact slices_Contains_string_string.mono _ _ _
  | exact LeO.none _
  | refine LeO.ite ?_ ?_
  | refine LeO.bind ?_ (fun _=>?_)
set_option maxHeartbeats 8000000 in
set_option maxRecDepth 100000 in
theorem impl_IsVoid.calls (k:Nat) (a0:ByteArray) (r:Bool) (w:World) (h:impl_IsVoid.f k a0=some r) :
 Calls Try.prog 73 #[.string a0] w fun e w'=>e=.returned (.bool r)∧Below w.heap.size w w':=by
 have HB:=A_ (Below.refl w.heap.size w)
 have H:((slices_Contains_string_string.f k (([(⟨#[98,114]⟩:ByteArray),(⟨#[104,114]⟩:ByteArray),(⟨#[105,109,103]⟩:ByteArray),(⟨#[105,110,112,117,116]⟩:ByteArray),(⟨#[109,101,116,97]⟩:ByteArray),(⟨#[108,105,110,107]⟩:ByteArray),(⟨#[98,97,115,101]⟩:ByteArray),(⟨#[101,109,98,101,100]⟩:ByteArray)]:List ByteArray)) a0).bind fun t274=>(some t274))=some r:=h
 clear h
 obtain ⟨y271,hy271⟩:∃ y_:List ByteArray,y_=(([(⟨#[98,114]⟩:ByteArray),(⟨#[104,114]⟩:ByteArray),(⟨#[105,109,103]⟩:ByteArray),(⟨#[105,110,112,117,116]⟩:ByteArray),(⟨#[109,101,116,97]⟩:ByteArray),(⟨#[108,105,110,107]⟩:ByteArray),(⟨#[98,97,115,101]⟩:ByteArray),(⟨#[101,109,98,101,100]⟩:ByteArray)]:List ByteArray)):=⟨_,rfl⟩
 replace H:((slices_Contains_string_string.f k y271 a0).bind fun t274=>(some t274))=some r:=by first|(rw [hy271];with_reducible exact H)|(have H2_:=(Option.bind_some _ _).symm.trans H;rw [hy271];with_reducible exact H2_)|(have H2_:=(Option.bind_some _ _).symm.trans H;with_reducible exact H2_)|with_reducible exact H|(rw [hy271];exact H)|exact H
 have Ny271:=A_ hy271
 clear hy271
 replace H:=ob_ H
 obtain ⟨t274,A20,H⟩:=H
 replace H:(some t274)=some r:=H
 have A2:=A_ A20
 clear A20
 obtain rfl:=oi_ H
 go_enter Try.func73,Try.ntmps73
 go_wp2_with (first|((with_reducible refine gate_dst (N:=3) rfl ?_);refine Kd.R_lit Kd.string _ 9 ?hg (N:=3) ?hd (xs:=([(⟨#[98,114]⟩:ByteArray),(⟨#[104,114]⟩:ByteArray),(⟨#[105,109,103]⟩:ByteArray),(⟨#[105,110,112,117,116]⟩:ByteArray),(⟨#[109,101,116,97]⟩:ByteArray),(⟨#[108,105,110,107]⟩:ByteArray),(⟨#[98,97,115,101]⟩:ByteArray),(⟨#[101,109,98,101,100]⟩:ByteArray)]:List ByteArray)) (inner:=[.string (⟨#[98,114]⟩:ByteArray),.string (⟨#[104,114]⟩:ByteArray),.string (⟨#[105,109,103]⟩:ByteArray),.string (⟨#[105,110,112,117,116]⟩:ByteArray),.string (⟨#[109,101,116,97]⟩:ByteArray),.string (⟨#[108,105,110,107]⟩:ByteArray),.string (⟨#[98,97,115,101]⟩:ByteArray),.string (⟨#[101,109,98,101,100]⟩:ByteArray)]) (ok:=fun _=>True) (okp:=fun _=>True) ?hr ?hp (fun _ hk=>hk) trivial (Below.refl _ _) (Nat.le_refl _) (by simp) ?_;(case hd=>rfl);(case hg=>rfl);(case hr=>first|(go_simp;done)|(go_simp;rfl)|(first|(go_simp;done)|(go_simp;rfl)));(case hp=>exact (Reps.one (show Kd.M Kd.string _ _ _ (⟨#[98,114]⟩:ByteArray) [.string (⟨#[98,114]⟩:ByteArray)] from rfl) (Reps.one (show Kd.M Kd.string _ _ _ (⟨#[104,114]⟩:ByteArray) [.string (⟨#[104,114]⟩:ByteArray)] from rfl) (Reps.one (show Kd.M Kd.string _ _ _ (⟨#[105,109,103]⟩:ByteArray) [.string (⟨#[105,109,103]⟩:ByteArray)] from rfl) (Reps.one (show Kd.M Kd.string _ _ _ (⟨#[105,110,112,117,116]⟩:ByteArray) [.string (⟨#[105,110,112,117,116]⟩:ByteArray)] from rfl) (Reps.one (show Kd.M Kd.string _ _ _ (⟨#[109,101,116,97]⟩:ByteArray) [.string (⟨#[109,101,116,97]⟩:ByteArray)] from rfl) (Reps.one (show Kd.M Kd.string _ _ _ (⟨#[108,105,110,107]⟩:ByteArray) [.string (⟨#[108,105,110,107]⟩:ByteArray)] from rfl) (Reps.one (show Kd.M Kd.string _ _ _ (⟨#[98,97,115,101]⟩:ByteArray) [.string (⟨#[98,97,115,101]⟩:ByteArray)] from rfl) (Reps.one (show Kd.M Kd.string _ _ _ (⟨#[101,109,98,101,100]⟩:ByteArray) [.string (⟨#[101,109,98,101,100]⟩:ByteArray)] from rfl) (Reps.none _ _))))))))));intro v272 w3 ho4 hb hg_ hnew_;clear hg_ hnew_;(first|rw [←Ny271.out] at ho4|(simp only [Int.reduceToNat] at ho4;rw [←Ny271.out] at ho4));have n0_:=A_ (Kd.R_lower ho4 (bz_ (by repeat (first|(with_reducible first|exact HB.out|apply ba_|apply pd_|apply b1_)|exact HB.out))));have n1_:=A_ (bp_ (by repeat (first|(with_reducible first|exact HB.out|apply ba_|apply pd_|apply b1_)|exact HB.out)) hb);clear HB;have HO273:=n0_;have HB:=n1_;clear n0_ n1_;clear hb ho4;obtain ⟨Ao5,co5,eo5⟩:=Kd.R_slice HO273.out;subst eo5)|((with_reducible refine gate_callee (f:=82) rfl ?_);refine goesL_ (some 5) rfl rfl Try.func82 (by kernel_rfl) rfl #[.slice Ao5 y271.length co5,.string a0] rfl (by (try simp only [List.map_toArray,List.map_cons,List.map_nil]);first|done|rfl|(simp only [ld_,lt_];rfl)) ?_;(with_reducible refine (slices_Contains_string_string.calls k _ _ y271 a0 t274 _ ?side1 ?side2 A2.out).mono ?_);(case side1=>repeat (first|exact (Kd.R_reads' HO273.out).2.2|(with_reducible refine ca_ ?_ _)|(with_reducible refine cn_ ?_ _)|(with_reducible refine cd_ ?_)));(case side2=>exact (Kd.R_reads' HO273.out).2.1);rintro e w' ⟨rfl,⟨nd,rfl⟩⟩;refine ⟨_,rfl,?_⟩))
 go_ret
 exact ⟨by first|rfl|(simp [errW_none,errW_some] <;> rfl)|(simp [*,errW_none,errW_some] <;> rfl),by repeat (first|(with_reducible first|exact HB.out|apply ba_|apply pd_|apply b1_)|exact HB.out)⟩
/-! ### impl_Node_isVoid: function 66 -/
def impl_Node_isVoid.f (k:Nat) (a0_0:Int) (a0_1:Int) (a0_2:ByteArray) (a0_3:ByteArray) (l0_4:List (S71)) (l0_5:List (S28)):Option (Bool):=if a0_0=1 then (if a0_1=0 then ((impl_IsVoid.f k a0_2).bind fun t276=>(some t276)) else (some false)) else (some false)
theorem impl_Node_isVoid.mono:∀ a0 a1 a2 a3 a4 a5 k,LeO (impl_Node_isVoid.f k a0 a1 a2 a3 a4 a5) (impl_Node_isVoid.f (k+1) a0 a1 a2 a3 a4 a5):=by
 intro a0 a1 a2 a3 a4 a5 k
 unfold impl_Node_isVoid.f
 repeat' first
  | (with_reducible exact impl_IsVoid.mono _ _)
  | (with_reducible exact LeO.refl _)
  | (with_reducible exact LeO.none _)
  | (with_reducible refine LeO.ite ?_ ?_)
  | (with_reducible refine LeO.bind ?_ (fun _=>?_))
  | exact impl_IsVoid.mono _ _
  | exact LeO.none _
  | refine LeO.ite ?_ ?_
  | refine LeO.bind ?_ (fun _=>?_)
set_option maxHeartbeats 8000000 in
set_option maxRecDepth 100000 in
theorem impl_Node_isVoid.calls (k:Nat) (a0_0:Int) (a0_1:Int) (a0_2:ByteArray) (a0_3:ByteArray) (A0_4:Option Addr) (c0_4:Nat) (l0_4:List (S71)) (A0_5:Option Addr) (c0_5:Nat) (l0_5:List (S28)) (r:Bool) (w:World) (hr0_4:Kd.C k71 w A0_4 l0_4.length l0_4) (hc0_4:l0_4.length≤c0_4) (hr0_5:Kd.C k28 w A0_5 l0_5.length l0_5) (hc0_5:l0_5.length≤c0_5) (h:impl_Node_isVoid.f k a0_0 a0_1 a0_2 a0_3 l0_4 l0_5=some r) :
 Calls Try.prog 66 #[.agg #[.int .i64 a0_0,.int .i64 a0_1,.string a0_2,.string a0_3,.slice A0_4 l0_4.length c0_4,.slice A0_5 l0_5.length c0_5]] w fun e w'=>e=.returned (.bool r)∧Below w.heap.size w w':=by
 have hu28:=Try.underlying28
 have HR0_4:=A_ hr0_4
 have HC0_4:=A_ hc0_4
 clear hr0_4 hc0_4
 have HR0_5:=A_ hr0_5
 have HC0_5:=A_ hc0_5
 clear hr0_5 hc0_5
 have HB:=A_ (Below.refl w.heap.size w)
 have H:(if a0_0=1 then (if a0_1=0 then ((impl_IsVoid.f k a0_2).bind fun t276=>(some t276)) else (some false)) else (some false))=some r:=h
 clear h
 by_cases c2:a0_0=1
 ·rw [if_pos c2] at H
  have c2b0:(a0_0 == 1)=true:=beq_iff_eq.mpr c2
  have c2b1:(a0_0 != 1)=false:=bne_eq_false_iff_eq.mpr c2
  clear c2
  by_cases c3:a0_1=0
  ·rw [if_pos c3] at H
   have c3b0:(a0_1 == 0)=true:=beq_iff_eq.mpr c3
   have c3b1:(a0_1 != 0)=false:=bne_eq_false_iff_eq.mpr c3
   clear c3
   replace H:=ob_ H
   obtain ⟨t276,A40,H⟩:=H
   replace H:(some t276)=some r:=H
   have A4:=A_ A40
   clear A40
   obtain rfl:=oi_ H
   go_enter Try.func66,Try.ntmps66
   go_wp2_with (first|((with_reducible refine gate_dst (N:=1) rfl ?_);refine box_event ?hg (N:=1) ?hd (cs:=#[.int .i64 a0_0,.int .i64 a0_1,.string a0_2,.string a0_3,.slice A0_4 l0_4.length c0_4,.slice A0_5 l0_5.length c0_5]) (t:=28) ?hr ?_;(case hd=>rfl);(case hg=>rfl);(case hr=>first|(go_simp;done)|(go_simp;rfl));intro gb275 hg w5 hbox hb;have n0_:=A_ (bp_ (by repeat (first|(with_reducible first|exact HB.out|apply ba_|apply pd_|apply b1_)|exact HB.out)) hb);have n1_:=A_ (hbox);have n2_:=A_ ((by rw [hg];exact (bz_ (by repeat (first|(with_reducible first|exact HB.out|apply ba_|apply pd_|apply b1_)|exact HB.out))):w.heap.size≤gb275));have n3_:=A_ ((by rw [hg];exact (bz_ (by repeat (first|(with_reducible first|exact HB.out|apply ba_|apply pd_|apply b1_)|exact HB.out))):w.heap.size≤gb275));clear HB;have HB:=n0_;have BK275:=n1_;have GW275:=n2_;have GE275:=n3_;clear n0_ n1_ n2_ n3_;clear hb hbox hg;have hcz6_0:w5.cell? ⟨gb275,0,none⟩=some (.int .i64 a0_0):=(bc_ BK275.out 0).trans rfl;have hcz6_1:w5.cell? ⟨gb275,1,none⟩=some (.int .i64 a0_1):=(bc_ BK275.out 1).trans rfl;have hcz6_2:w5.cell? ⟨gb275,2,none⟩=some (.string a0_2):=(bc_ BK275.out 2).trans rfl;have hcz6_3:w5.cell? ⟨gb275,3,none⟩=some (.string a0_3):=(bc_ BK275.out 3).trans rfl;have hcz6_4:w5.cell? ⟨gb275,4,none⟩=some (.slice A0_4 l0_4.length c0_4):=(bc_ BK275.out 4).trans rfl;have hcz6_5:w5.cell? ⟨gb275,5,none⟩=some (.slice A0_5 l0_5.length c0_5):=(bc_ BK275.out 5).trans rfl;have hfz6_0:=bf_ BK275.out 0;have hfz6_1:=bf_ BK275.out 1;have hfz6_2:=bf_ BK275.out 2;have hfz6_3:=bf_ BK275.out 3;have hfz6_4:=bf_ BK275.out 4;have hfz6_5:=bf_ BK275.out 5)|(go_at_call 73;(with_reducible refine (impl_IsVoid.calls k a0_2 t276 _ A4.out).mono ?_);rintro e w7 ⟨rfl,hb⟩;have n0_:=A_ (kb_ (g:=gb275) (o:=.cells #[.int .i64 a0_0,.int .i64 a0_1,.string a0_2,.string a0_3,.slice A0_4 l0_4.length c0_4,.slice A0_5 l0_5.length c0_5] 28 (0,0)) (by (with_reducible repeat (first|refine kn_ ?_ _|refine kd_ ?_|refine ka_ ?_ _));exact BK275.out) hb);have n1_:=A_ (bp_ (by repeat (first|(with_reducible first|exact HB.out|apply ba_|apply pd_|apply b1_|refine bs_ ?_ GE275.out)|exact HB.out)) hb);clear BK275;clear HB;have BK275:=n0_;have HB:=n1_;clear n0_ n1_;(try clear hb);(try clear hb2);(try clear hk);(try clear hi)))
   go_ret
   exact ⟨by first|rfl|(simp [errW_none,errW_some] <;> rfl)|(simp [*,errW_none,errW_some] <;> rfl),by repeat (first|(with_reducible first|exact HB.out|apply ba_|apply pd_|apply b1_|refine bs_ ?_ GE275.out)|exact HB.out)⟩
  ·rw [if_neg c3] at H
   have c3b0:(a0_1 == 0)=false:=beq_eq_false_iff_ne.mpr c3
   have c3b1:(a0_1 != 0)=true:=bne_iff_ne.mpr c3
   obtain rfl:=oi_ H
   go_enter Try.func66,Try.ntmps66
   go_wp2_with (first|((with_reducible refine gate_dst (N:=1) rfl ?_);refine box_event ?hg (N:=1) ?hd (cs:=#[.int .i64 a0_0,.int .i64 a0_1,.string a0_2,.string a0_3,.slice A0_4 l0_4.length c0_4,.slice A0_5 l0_5.length c0_5]) (t:=28) ?hr ?_;(case hd=>rfl);(case hg=>rfl);(case hr=>first|(go_simp;done)|(go_simp;rfl));intro gb275 hg w8 hbox hb;have n0_:=A_ (bp_ (by repeat (first|(with_reducible first|exact HB.out|apply ba_|apply pd_|apply b1_)|exact HB.out)) hb);have n1_:=A_ (hbox);have n2_:=A_ ((by rw [hg];exact (bz_ (by repeat (first|(with_reducible first|exact HB.out|apply ba_|apply pd_|apply b1_)|exact HB.out))):w.heap.size≤gb275));have n3_:=A_ ((by rw [hg];exact (bz_ (by repeat (first|(with_reducible first|exact HB.out|apply ba_|apply pd_|apply b1_)|exact HB.out))):w.heap.size≤gb275));clear HB;have HB:=n0_;have BK275:=n1_;have GW275:=n2_;have GE275:=n3_;clear n0_ n1_ n2_ n3_;clear hb hbox hg;have hcz9_0:w8.cell? ⟨gb275,0,none⟩=some (.int .i64 a0_0):=(bc_ BK275.out 0).trans rfl;have hcz9_1:w8.cell? ⟨gb275,1,none⟩=some (.int .i64 a0_1):=(bc_ BK275.out 1).trans rfl;have hcz9_2:w8.cell? ⟨gb275,2,none⟩=some (.string a0_2):=(bc_ BK275.out 2).trans rfl;have hcz9_3:w8.cell? ⟨gb275,3,none⟩=some (.string a0_3):=(bc_ BK275.out 3).trans rfl;have hcz9_4:w8.cell? ⟨gb275,4,none⟩=some (.slice A0_4 l0_4.length c0_4):=(bc_ BK275.out 4).trans rfl;have hcz9_5:w8.cell? ⟨gb275,5,none⟩=some (.slice A0_5 l0_5.length c0_5):=(bc_ BK275.out 5).trans rfl;have hfz9_0:=bf_ BK275.out 0;have hfz9_1:=bf_ BK275.out 1;have hfz9_2:=bf_ BK275.out 2;have hfz9_3:=bf_ BK275.out 3;have hfz9_4:=bf_ BK275.out 4;have hfz9_5:=bf_ BK275.out 5))
   go_ret
   exact ⟨by first|rfl|(simp [errW_none,errW_some] <;> rfl)|(simp [*,errW_none,errW_some] <;> rfl),by repeat (first|(with_reducible first|exact HB.out|apply ba_|apply pd_|apply b1_|refine bs_ ?_ GE275.out)|exact HB.out)⟩
 ·rw [if_neg c2] at H
  have c2b0:(a0_0 == 1)=false:=beq_eq_false_iff_ne.mpr c2
  have c2b1:(a0_0 != 1)=true:=bne_iff_ne.mpr c2
  obtain rfl:=oi_ H
  go_enter Try.func66,Try.ntmps66
  go_wp2_with (first|((with_reducible refine gate_dst (N:=1) rfl ?_);refine box_event ?hg (N:=1) ?hd (cs:=#[.int .i64 a0_0,.int .i64 a0_1,.string a0_2,.string a0_3,.slice A0_4 l0_4.length c0_4,.slice A0_5 l0_5.length c0_5]) (t:=28) ?hr ?_;(case hd=>rfl);(case hg=>rfl);(case hr=>first|(go_simp;done)|(go_simp;rfl));intro gb275 hg w10 hbox hb;have n0_:=A_ (bp_ (by repeat (first|(with_reducible first|exact HB.out|apply ba_|apply pd_|apply b1_)|exact HB.out)) hb);have n1_:=A_ (hbox);have n2_:=A_ ((by rw [hg];exact (bz_ (by repeat (first|(with_reducible first|exact HB.out|apply ba_|apply pd_|apply b1_)|exact HB.out))):w.heap.size≤gb275));have n3_:=A_ ((by rw [hg];exact (bz_ (by repeat (first|(with_reducible first|exact HB.out|apply ba_|apply pd_|apply b1_)|exact HB.out))):w.heap.size≤gb275));clear HB;have HB:=n0_;have BK275:=n1_;have GW275:=n2_;have GE275:=n3_;clear n0_ n1_ n2_ n3_;clear hb hbox hg;have hcz11_0:w10.cell? ⟨gb275,0,none⟩=some (.int .i64 a0_0):=(bc_ BK275.out 0).trans rfl;have hcz11_1:w10.cell? ⟨gb275,1,none⟩=some (.int .i64 a0_1):=(bc_ BK275.out 1).trans rfl;have hcz11_2:w10.cell? ⟨gb275,2,none⟩=some (.string a0_2):=(bc_ BK275.out 2).trans rfl;have hcz11_3:w10.cell? ⟨gb275,3,none⟩=some (.string a0_3):=(bc_ BK275.out 3).trans rfl;have hcz11_4:w10.cell? ⟨gb275,4,none⟩=some (.slice A0_4 l0_4.length c0_4):=(bc_ BK275.out 4).trans rfl;have hcz11_5:w10.cell? ⟨gb275,5,none⟩=some (.slice A0_5 l0_5.length c0_5):=(bc_ BK275.out 5).trans rfl;have hfz11_0:=bf_ BK275.out 0;have hfz11_1:=bf_ BK275.out 1;have hfz11_2:=bf_ BK275.out 2;have hfz11_3:=bf_ BK275.out 3;have hfz11_4:=bf_ BK275.out 4;have hfz11_5:=bf_ BK275.out 5))
  go_ret
  exact ⟨by first|rfl|(simp [errW_none,errW_some] <;> rfl)|(simp [*,errW_none,errW_some] <;> rfl),by repeat (first|(with_reducible first|exact HB.out|apply ba_|apply pd_|apply b1_|refine bs_ ?_ GE275.out)|exact HB.out)⟩
def voidL:List ByteArray:=[⟨#[98,114]⟩,⟨#[104,114]⟩,⟨#[105,109,103]⟩,⟨#[105,110,112,117,116]⟩,⟨#[109,101,116,97]⟩,⟨#[108,105,110,107]⟩,⟨#[98,97,115,101]⟩,⟨#[101,109,98,101,100]⟩]
theorem ev_IsVoid (a:ByteArray):Ev (fun k=>impl_IsVoid.f k a) (Kit.hasT voidL a):=Ev.bind (ev_slices_Contains _ a (by decide)) (Ev.now _)
def voidB (x:S28):Bool:=if x.f0=1 then (if x.f1=0 then Kit.hasT voidL x.f2 else false) else false
theorem ev_isVoidN (x:S28):Ev (fun k=>impl_Node_isVoid.f k x.f0 x.f1 x.f2 x.f3 x.f4 x.f5) (voidB x):=by
 unfold impl_Node_isVoid.f voidB
 refine Kit.ev_if (fun h=>?_) (fun h=>?_)
 case refine_2=>rw [if_neg h];exact Ev.now _
 case refine_1 =>
  rw [if_pos h]
  refine Kit.ev_if (fun h=>?_) (fun h=>?_)
  case refine_2=>rw [if_neg h];exact Ev.now _
  case refine_1=>rw [if_pos h];exact Ev.bind (ev_IsVoid x.f2) (Ev.now _)
theorem impl_Node_isVoid.pure (x:S28) (A4:Option Addr) (c4:Nat) (A5:Option Addr) (c5:Nat) (W:World) (h4:Kd.C k71 W A4 x.f4.length x.f4) (l4:x.f4.length≤c4) (h5:Kd.C k28 W A5 x.f5.length x.f5) (l5:x.f5.length≤c5):Calls Try.prog 66 #[.agg #[.int .i64 x.f0,.int .i64 x.f1,.string x.f2,.string x.f3,.slice A4 x.f4.length c4,.slice A5 x.f5.length c5]] W fun e w'=>e=.returned (.bool (voidB x))∧Below W.heap.size W w':=by
 obtain ⟨K,hK⟩:=ev_isVoidN x
 exact impl_Node_isVoid.calls K x.f0 x.f1 x.f2 x.f3 A4 c4 x.f4 A5 c5 x.f5 _ W h4 l4 h5 l5 (hK K (Nat.le_refl _))
/-! ### impl_IsRaw: function 74 -/
def impl_IsRaw.f (k:Nat) (a0:ByteArray):Option (Bool):=(slices_Contains_string_string.f k (([(⟨#[115,116,121,108,101]⟩:ByteArray),(⟨#[115,99,114,105,112,116]⟩:ByteArray),(⟨#[120,109,112]⟩:ByteArray),(⟨#[105,102,114,97,109,101]⟩:ByteArray)]:List ByteArray)) a0).bind fun t280=>(some t280)
theorem impl_IsRaw.mono:∀ a0 k,LeO (impl_IsRaw.f k a0) (impl_IsRaw.f (k+1) a0):=by
 intro a0 k
 unfold impl_IsRaw.f
 repeat' first
  | (with_reducible exact slices_Contains_string_string.mono _ _ _)
  | (with_reducible exact LeO.refl _)
  | (with_reducible exact LeO.none _)
  | (with_reducible refine LeO.ite ?_ ?_)
  | (with_reducible refine LeO.bind ?_ (fun _=>?_))
  | exact slices_Contains_string_string.mono _ _ _
  | exact LeO.none _
  | refine LeO.ite ?_ ?_
  | refine LeO.bind ?_ (fun _=>?_)
set_option maxHeartbeats 8000000 in
set_option maxRecDepth 100000 in
theorem impl_IsRaw.calls (k:Nat) (a0:ByteArray) (r:Bool) (w:World) (h:impl_IsRaw.f k a0=some r) :
 Calls Try.prog 74 #[.string a0] w fun e w'=>e=.returned (.bool r)∧Below w.heap.size w w':=by
 have HB:=A_ (Below.refl w.heap.size w)
 have H:((slices_Contains_string_string.f k (([(⟨#[115,116,121,108,101]⟩:ByteArray),(⟨#[115,99,114,105,112,116]⟩:ByteArray),(⟨#[120,109,112]⟩:ByteArray),(⟨#[105,102,114,97,109,101]⟩:ByteArray)]:List ByteArray)) a0).bind fun t280=>(some t280))=some r:=h
 clear h
 obtain ⟨y277,hy277⟩:∃ y_:List ByteArray,y_=(([(⟨#[115,116,121,108,101]⟩:ByteArray),(⟨#[115,99,114,105,112,116]⟩:ByteArray),(⟨#[120,109,112]⟩:ByteArray),(⟨#[105,102,114,97,109,101]⟩:ByteArray)]:List ByteArray)):=⟨_,rfl⟩
 replace H:((slices_Contains_string_string.f k y277 a0).bind fun t280=>(some t280))=some r:=by first|(rw [hy277];with_reducible exact H)|(have H2_:=(Option.bind_some _ _).symm.trans H;rw [hy277];with_reducible exact H2_)|(have H2_:=(Option.bind_some _ _).symm.trans H;with_reducible exact H2_)|with_reducible exact H|(rw [hy277];exact H)|exact H
 have Ny277:=A_ hy277
 clear hy277
 replace H:=ob_ H
 obtain ⟨t280,A20,H⟩:=H
 replace H:(some t280)=some r:=H
 have A2:=A_ A20
 clear A20
 obtain rfl:=oi_ H
 go_enter Try.func74,Try.ntmps74
 go_wp2_with (first|((with_reducible refine gate_dst (N:=3) rfl ?_);refine Kd.R_lit Kd.string _ 9 ?hg (N:=3) ?hd (xs:=([(⟨#[115,116,121,108,101]⟩:ByteArray),(⟨#[115,99,114,105,112,116]⟩:ByteArray),(⟨#[120,109,112]⟩:ByteArray),(⟨#[105,102,114,97,109,101]⟩:ByteArray)]:List ByteArray)) (inner:=[.string (⟨#[115,116,121,108,101]⟩:ByteArray),.string (⟨#[115,99,114,105,112,116]⟩:ByteArray),.string (⟨#[120,109,112]⟩:ByteArray),.string (⟨#[105,102,114,97,109,101]⟩:ByteArray)]) (ok:=fun _=>True) (okp:=fun _=>True) ?hr ?hp (fun _ hk=>hk) trivial (Below.refl _ _) (Nat.le_refl _) (by simp) ?_;(case hd=>rfl);(case hg=>rfl);(case hr=>first|(go_simp;done)|(go_simp;rfl)|(first|(go_simp;done)|(go_simp;rfl)));(case hp=>exact (Reps.one (show Kd.M Kd.string _ _ _ (⟨#[115,116,121,108,101]⟩:ByteArray) [.string (⟨#[115,116,121,108,101]⟩:ByteArray)] from rfl) (Reps.one (show Kd.M Kd.string _ _ _ (⟨#[115,99,114,105,112,116]⟩:ByteArray) [.string (⟨#[115,99,114,105,112,116]⟩:ByteArray)] from rfl) (Reps.one (show Kd.M Kd.string _ _ _ (⟨#[120,109,112]⟩:ByteArray) [.string (⟨#[120,109,112]⟩:ByteArray)] from rfl) (Reps.one (show Kd.M Kd.string _ _ _ (⟨#[105,102,114,97,109,101]⟩:ByteArray) [.string (⟨#[105,102,114,97,109,101]⟩:ByteArray)] from rfl) (Reps.none _ _))))));intro v278 w3 ho4 hb hg_ hnew_;clear hg_ hnew_;(first|rw [←Ny277.out] at ho4|(simp only [Int.reduceToNat] at ho4;rw [←Ny277.out] at ho4));have n0_:=A_ (Kd.R_lower ho4 (bz_ (by repeat (first|(with_reducible first|exact HB.out|apply ba_|apply pd_|apply b1_)|exact HB.out))));have n1_:=A_ (bp_ (by repeat (first|(with_reducible first|exact HB.out|apply ba_|apply pd_|apply b1_)|exact HB.out)) hb);clear HB;have HO279:=n0_;have HB:=n1_;clear n0_ n1_;clear hb ho4;obtain ⟨Ao5,co5,eo5⟩:=Kd.R_slice HO279.out;subst eo5)|((with_reducible refine gate_callee (f:=82) rfl ?_);refine goesL_ (some 5) rfl rfl Try.func82 (by kernel_rfl) rfl #[.slice Ao5 y277.length co5,.string a0] rfl (by (try simp only [List.map_toArray,List.map_cons,List.map_nil]);first|done|rfl|(simp only [ld_,lt_];rfl)) ?_;(with_reducible refine (slices_Contains_string_string.calls k _ _ y277 a0 t280 _ ?side1 ?side2 A2.out).mono ?_);(case side1=>repeat (first|exact (Kd.R_reads' HO279.out).2.2|(with_reducible refine ca_ ?_ _)|(with_reducible refine cn_ ?_ _)|(with_reducible refine cd_ ?_)));(case side2=>exact (Kd.R_reads' HO279.out).2.1);rintro e w' ⟨rfl,⟨nd,rfl⟩⟩;refine ⟨_,rfl,?_⟩))
 go_ret
 exact ⟨by first|rfl|(simp [errW_none,errW_some] <;> rfl)|(simp [*,errW_none,errW_some] <;> rfl),by repeat (first|(with_reducible first|exact HB.out|apply ba_|apply pd_|apply b1_)|exact HB.out)⟩
/-! ### impl_Node_isRaw: function 67 -/
def impl_Node_isRaw.f (k:Nat) (a0_0:Int) (a0_1:Int) (a0_2:ByteArray) (a0_3:ByteArray) (l0_4:List (S71)) (l0_5:List (S28)):Option (Bool):=if a0_0=1 then (if a0_1=0 then ((impl_IsRaw.f k a0_2).bind fun t282=>(some t282)) else (some false)) else (some false)
theorem impl_Node_isRaw.mono:∀ a0 a1 a2 a3 a4 a5 k,LeO (impl_Node_isRaw.f k a0 a1 a2 a3 a4 a5) (impl_Node_isRaw.f (k+1) a0 a1 a2 a3 a4 a5):=by
 intro a0 a1 a2 a3 a4 a5 k
 unfold impl_Node_isRaw.f
 repeat' first
  | (with_reducible exact impl_IsRaw.mono _ _)
  | (with_reducible exact LeO.refl _)
  | (with_reducible exact LeO.none _)
  | (with_reducible refine LeO.ite ?_ ?_)
  | (with_reducible refine LeO.bind ?_ (fun _=>?_))
  | exact impl_IsRaw.mono _ _
  | exact LeO.none _
  | refine LeO.ite ?_ ?_
  | refine LeO.bind ?_ (fun _=>?_)
set_option maxHeartbeats 8000000 in
set_option maxRecDepth 100000 in
theorem impl_Node_isRaw.calls (k:Nat) (a0_0:Int) (a0_1:Int) (a0_2:ByteArray) (a0_3:ByteArray) (A0_4:Option Addr) (c0_4:Nat) (l0_4:List (S71)) (A0_5:Option Addr) (c0_5:Nat) (l0_5:List (S28)) (r:Bool) (w:World) (hr0_4:Kd.C k71 w A0_4 l0_4.length l0_4) (hc0_4:l0_4.length≤c0_4) (hr0_5:Kd.C k28 w A0_5 l0_5.length l0_5) (hc0_5:l0_5.length≤c0_5) (h:impl_Node_isRaw.f k a0_0 a0_1 a0_2 a0_3 l0_4 l0_5=some r) :
 Calls Try.prog 67 #[.agg #[.int .i64 a0_0,.int .i64 a0_1,.string a0_2,.string a0_3,.slice A0_4 l0_4.length c0_4,.slice A0_5 l0_5.length c0_5]] w fun e w'=>e=.returned (.bool r)∧Below w.heap.size w w':=by
 have hu28:=Try.underlying28
 have HR0_4:=A_ hr0_4
 have HC0_4:=A_ hc0_4
 clear hr0_4 hc0_4
 have HR0_5:=A_ hr0_5
 have HC0_5:=A_ hc0_5
 clear hr0_5 hc0_5
 have HB:=A_ (Below.refl w.heap.size w)
 have H:(if a0_0=1 then (if a0_1=0 then ((impl_IsRaw.f k a0_2).bind fun t282=>(some t282)) else (some false)) else (some false))=some r:=h
 clear h
 by_cases c2:a0_0=1
 ·rw [if_pos c2] at H
  have c2b0:(a0_0 == 1)=true:=beq_iff_eq.mpr c2
  have c2b1:(a0_0 != 1)=false:=bne_eq_false_iff_eq.mpr c2
  clear c2
  by_cases c3:a0_1=0
  ·rw [if_pos c3] at H
   have c3b0:(a0_1 == 0)=true:=beq_iff_eq.mpr c3
   have c3b1:(a0_1 != 0)=false:=bne_eq_false_iff_eq.mpr c3
   clear c3
   replace H:=ob_ H
   obtain ⟨t282,A40,H⟩:=H
   replace H:(some t282)=some r:=H
   have A4:=A_ A40
   clear A40
   obtain rfl:=oi_ H
   go_enter Try.func67,Try.ntmps67
   go_wp2_with (first|((with_reducible refine gate_dst (N:=1) rfl ?_);refine box_event ?hg (N:=1) ?hd (cs:=#[.int .i64 a0_0,.int .i64 a0_1,.string a0_2,.string a0_3,.slice A0_4 l0_4.length c0_4,.slice A0_5 l0_5.length c0_5]) (t:=28) ?hr ?_;(case hd=>rfl);(case hg=>rfl);(case hr=>first|(go_simp;done)|(go_simp;rfl));intro gb281 hg w5 hbox hb;have n0_:=A_ (bp_ (by repeat (first|(with_reducible first|exact HB.out|apply ba_|apply pd_|apply b1_)|exact HB.out)) hb);have n1_:=A_ (hbox);have n2_:=A_ ((by rw [hg];exact (bz_ (by repeat (first|(with_reducible first|exact HB.out|apply ba_|apply pd_|apply b1_)|exact HB.out))):w.heap.size≤gb281));have n3_:=A_ ((by rw [hg];exact (bz_ (by repeat (first|(with_reducible first|exact HB.out|apply ba_|apply pd_|apply b1_)|exact HB.out))):w.heap.size≤gb281));clear HB;have HB:=n0_;have BK281:=n1_;have GW281:=n2_;have GE281:=n3_;clear n0_ n1_ n2_ n3_;clear hb hbox hg;have hcz6_0:w5.cell? ⟨gb281,0,none⟩=some (.int .i64 a0_0):=(bc_ BK281.out 0).trans rfl;have hcz6_1:w5.cell? ⟨gb281,1,none⟩=some (.int .i64 a0_1):=(bc_ BK281.out 1).trans rfl;have hcz6_2:w5.cell? ⟨gb281,2,none⟩=some (.string a0_2):=(bc_ BK281.out 2).trans rfl;have hcz6_3:w5.cell? ⟨gb281,3,none⟩=some (.string a0_3):=(bc_ BK281.out 3).trans rfl;have hcz6_4:w5.cell? ⟨gb281,4,none⟩=some (.slice A0_4 l0_4.length c0_4):=(bc_ BK281.out 4).trans rfl;have hcz6_5:w5.cell? ⟨gb281,5,none⟩=some (.slice A0_5 l0_5.length c0_5):=(bc_ BK281.out 5).trans rfl;have hfz6_0:=bf_ BK281.out 0;have hfz6_1:=bf_ BK281.out 1;have hfz6_2:=bf_ BK281.out 2;have hfz6_3:=bf_ BK281.out 3;have hfz6_4:=bf_ BK281.out 4;have hfz6_5:=bf_ BK281.out 5)|(go_at_call 74;(with_reducible refine (impl_IsRaw.calls k a0_2 t282 _ A4.out).mono ?_);rintro e w7 ⟨rfl,hb⟩;have n0_:=A_ (kb_ (g:=gb281) (o:=.cells #[.int .i64 a0_0,.int .i64 a0_1,.string a0_2,.string a0_3,.slice A0_4 l0_4.length c0_4,.slice A0_5 l0_5.length c0_5] 28 (0,0)) (by (with_reducible repeat (first|refine kn_ ?_ _|refine kd_ ?_|refine ka_ ?_ _));exact BK281.out) hb);have n1_:=A_ (bp_ (by repeat (first|(with_reducible first|exact HB.out|apply ba_|apply pd_|apply b1_|refine bs_ ?_ GE281.out)|exact HB.out)) hb);clear BK281;clear HB;have BK281:=n0_;have HB:=n1_;clear n0_ n1_;(try clear hb);(try clear hb2);(try clear hk);(try clear hi)))
   go_ret
   exact ⟨by first|rfl|(simp [errW_none,errW_some] <;> rfl)|(simp [*,errW_none,errW_some] <;> rfl),by repeat (first|(with_reducible first|exact HB.out|apply ba_|apply pd_|apply b1_|refine bs_ ?_ GE281.out)|exact HB.out)⟩
  ·rw [if_neg c3] at H
   have c3b0:(a0_1 == 0)=false:=beq_eq_false_iff_ne.mpr c3
   have c3b1:(a0_1 != 0)=true:=bne_iff_ne.mpr c3
   obtain rfl:=oi_ H
   go_enter Try.func67,Try.ntmps67
   go_wp2_with (first|((with_reducible refine gate_dst (N:=1) rfl ?_);refine box_event ?hg (N:=1) ?hd (cs:=#[.int .i64 a0_0,.int .i64 a0_1,.string a0_2,.string a0_3,.slice A0_4 l0_4.length c0_4,.slice A0_5 l0_5.length c0_5]) (t:=28) ?hr ?_;(case hd=>rfl);(case hg=>rfl);(case hr=>first|(go_simp;done)|(go_simp;rfl));intro gb281 hg w8 hbox hb;have n0_:=A_ (bp_ (by repeat (first|(with_reducible first|exact HB.out|apply ba_|apply pd_|apply b1_)|exact HB.out)) hb);have n1_:=A_ (hbox);have n2_:=A_ ((by rw [hg];exact (bz_ (by repeat (first|(with_reducible first|exact HB.out|apply ba_|apply pd_|apply b1_)|exact HB.out))):w.heap.size≤gb281));have n3_:=A_ ((by rw [hg];exact (bz_ (by repeat (first|(with_reducible first|exact HB.out|apply ba_|apply pd_|apply b1_)|exact HB.out))):w.heap.size≤gb281));clear HB;have HB:=n0_;have BK281:=n1_;have GW281:=n2_;have GE281:=n3_;clear n0_ n1_ n2_ n3_;clear hb hbox hg;have hcz9_0:w8.cell? ⟨gb281,0,none⟩=some (.int .i64 a0_0):=(bc_ BK281.out 0).trans rfl;have hcz9_1:w8.cell? ⟨gb281,1,none⟩=some (.int .i64 a0_1):=(bc_ BK281.out 1).trans rfl;have hcz9_2:w8.cell? ⟨gb281,2,none⟩=some (.string a0_2):=(bc_ BK281.out 2).trans rfl;have hcz9_3:w8.cell? ⟨gb281,3,none⟩=some (.string a0_3):=(bc_ BK281.out 3).trans rfl;have hcz9_4:w8.cell? ⟨gb281,4,none⟩=some (.slice A0_4 l0_4.length c0_4):=(bc_ BK281.out 4).trans rfl;have hcz9_5:w8.cell? ⟨gb281,5,none⟩=some (.slice A0_5 l0_5.length c0_5):=(bc_ BK281.out 5).trans rfl;have hfz9_0:=bf_ BK281.out 0;have hfz9_1:=bf_ BK281.out 1;have hfz9_2:=bf_ BK281.out 2;have hfz9_3:=bf_ BK281.out 3;have hfz9_4:=bf_ BK281.out 4;have hfz9_5:=bf_ BK281.out 5))
   go_ret
   exact ⟨by first|rfl|(simp [errW_none,errW_some] <;> rfl)|(simp [*,errW_none,errW_some] <;> rfl),by repeat (first|(with_reducible first|exact HB.out|apply ba_|apply pd_|apply b1_|refine bs_ ?_ GE281.out)|exact HB.out)⟩
 ·rw [if_neg c2] at H
  have c2b0:(a0_0 == 1)=false:=beq_eq_false_iff_ne.mpr c2
  have c2b1:(a0_0 != 1)=true:=bne_iff_ne.mpr c2
  obtain rfl:=oi_ H
  go_enter Try.func67,Try.ntmps67
  go_wp2_with (first|((with_reducible refine gate_dst (N:=1) rfl ?_);refine box_event ?hg (N:=1) ?hd (cs:=#[.int .i64 a0_0,.int .i64 a0_1,.string a0_2,.string a0_3,.slice A0_4 l0_4.length c0_4,.slice A0_5 l0_5.length c0_5]) (t:=28) ?hr ?_;(case hd=>rfl);(case hg=>rfl);(case hr=>first|(go_simp;done)|(go_simp;rfl));intro gb281 hg w10 hbox hb;have n0_:=A_ (bp_ (by repeat (first|(with_reducible first|exact HB.out|apply ba_|apply pd_|apply b1_)|exact HB.out)) hb);have n1_:=A_ (hbox);have n2_:=A_ ((by rw [hg];exact (bz_ (by repeat (first|(with_reducible first|exact HB.out|apply ba_|apply pd_|apply b1_)|exact HB.out))):w.heap.size≤gb281));have n3_:=A_ ((by rw [hg];exact (bz_ (by repeat (first|(with_reducible first|exact HB.out|apply ba_|apply pd_|apply b1_)|exact HB.out))):w.heap.size≤gb281));clear HB;have HB:=n0_;have BK281:=n1_;have GW281:=n2_;have GE281:=n3_;clear n0_ n1_ n2_ n3_;clear hb hbox hg;have hcz11_0:w10.cell? ⟨gb281,0,none⟩=some (.int .i64 a0_0):=(bc_ BK281.out 0).trans rfl;have hcz11_1:w10.cell? ⟨gb281,1,none⟩=some (.int .i64 a0_1):=(bc_ BK281.out 1).trans rfl;have hcz11_2:w10.cell? ⟨gb281,2,none⟩=some (.string a0_2):=(bc_ BK281.out 2).trans rfl;have hcz11_3:w10.cell? ⟨gb281,3,none⟩=some (.string a0_3):=(bc_ BK281.out 3).trans rfl;have hcz11_4:w10.cell? ⟨gb281,4,none⟩=some (.slice A0_4 l0_4.length c0_4):=(bc_ BK281.out 4).trans rfl;have hcz11_5:w10.cell? ⟨gb281,5,none⟩=some (.slice A0_5 l0_5.length c0_5):=(bc_ BK281.out 5).trans rfl;have hfz11_0:=bf_ BK281.out 0;have hfz11_1:=bf_ BK281.out 1;have hfz11_2:=bf_ BK281.out 2;have hfz11_3:=bf_ BK281.out 3;have hfz11_4:=bf_ BK281.out 4;have hfz11_5:=bf_ BK281.out 5))
  go_ret
  exact ⟨by first|rfl|(simp [errW_none,errW_some] <;> rfl)|(simp [*,errW_none,errW_some] <;> rfl),by repeat (first|(with_reducible first|exact HB.out|apply ba_|apply pd_|apply b1_|refine bs_ ?_ GE281.out)|exact HB.out)⟩
def rawL:List ByteArray:=[⟨#[115,116,121,108,101]⟩,⟨#[115,99,114,105,112,116]⟩,⟨#[120,109,112]⟩,⟨#[105,102,114,97,109,101]⟩]
theorem ev_IsRaw (a:ByteArray):Ev (fun k=>impl_IsRaw.f k a) (Kit.hasT rawL a):=Ev.bind (ev_slices_Contains _ a (by decide)) (Ev.now _)
def rawB (x:S28):Bool:=if x.f0=1 then (if x.f1=0 then Kit.hasT rawL x.f2 else false) else false
theorem ev_isRawN (x:S28):Ev (fun k=>impl_Node_isRaw.f k x.f0 x.f1 x.f2 x.f3 x.f4 x.f5) (rawB x):=by
 unfold impl_Node_isRaw.f rawB
 refine Kit.ev_if (fun h=>?_) (fun h=>?_)
 case refine_2=>rw [if_neg h];exact Ev.now _
 case refine_1 =>
  rw [if_pos h]
  refine Kit.ev_if (fun h=>?_) (fun h=>?_)
  case refine_2=>rw [if_neg h];exact Ev.now _
  case refine_1=>rw [if_pos h];exact Ev.bind (ev_IsRaw x.f2) (Ev.now _)
theorem impl_Node_isRaw.pure (x:S28) (A4:Option Addr) (c4:Nat) (A5:Option Addr) (c5:Nat) (W:World) (h4:Kd.C k71 W A4 x.f4.length x.f4) (l4:x.f4.length≤c4) (h5:Kd.C k28 W A5 x.f5.length x.f5) (l5:x.f5.length≤c5):Calls Try.prog 67 #[.agg #[.int .i64 x.f0,.int .i64 x.f1,.string x.f2,.string x.f3,.slice A4 x.f4.length c4,.slice A5 x.f5.length c5]] W fun e w'=>e=.returned (.bool (rawB x))∧Below W.heap.size W w':=by
 obtain ⟨K,hK⟩:=ev_isRawN x
 exact impl_Node_isRaw.calls K x.f0 x.f1 x.f2 x.f3 A4 c4 x.f4 A5 c5 x.f5 _ W h4 l4 h5 l5 (hK K (Nat.le_refl _))
/-! ### IndexFunc_Node: function 83, by hand -/
set_option maxHeartbeats 1000000 in
/-- slices.IndexFunc at this type, whatever the predicate: the first place at which it holds. -/
theorem IndexFunc_Node.holds (A:Option Addr) (n c:Nat) (v:Nat→List Value) (p:Nat→Bool) (g:Nat) (lb:Array Value) (eg:∀ args w,(callFunc g args).run Try.prog w=.ok (.enter g args) w) (w:World)
 (hp:∀ j,j<n→∀ W,Below w.heap.size w W→Calls Try.prog g (#[.agg (v j).toArray]++lb) W fun e w'=>e=.returned (.bool (p j))∧Below w.heap.size w w')
 (hbig:n≤9223372036854775807) (hc:∀ j,j<n→∃ ad,A=some ad∧(v j).length=6∧∀ i u,(v j)[i]? = some u→w.cell? (ad.add (j * 6+i))=some u) :
 Calls Try.prog 83 #[.slice A n c,.func (.func g) #[] lb] w fun e w'=>e=.returned (.int .i64 (Mach.idxP p n))∧Below w.heap.size w w':=by
 have HC:=A_ hc
 have HP:=A_ hp
 clear hc hp
 go_enter Try.func83,Try.ntmps83
 go_wp2
 go_loopg [5,8] n (fun gg _ s8 wr=>∃ kk:Nat,kk≤n∧n - kk≤gg∧s8=.int .i64 kk∧Aside0 (Below w.heap.size w wr)∧Aside0 (∀ j,j<kk→p j=false))
 case atStart=>exact ⟨0,Nat.zero_le _,by omega,rfl,⟨Below.refl _ w⟩,⟨fun j hj=>absurd hj (Nat.not_lt_zero _)⟩⟩
 case round =>
  obtain ⟨kk,hkk,hg,rfl,BW,AA⟩:=hrel
  by_cases hlt:kk<n
  ·have hltz:(kk:Int)<(n:Int):=by omega
   obtain ⟨ad,e,hl,l1⟩:=HC.out kk hlt
   cases e
   obtain ⟨x0,x1,x2,x3,x4,x5,hv⟩:∃ x0 x1 x2 x3 x4 x5,v kk=[x0,x1,x2,x3,x4,x5]:=by
    match v kk,hl with
    | [x0,x1,x2,x3,x4,x5],_=>exact ⟨x0,x1,x2,x3,x4,x5,rfl⟩
   have m0:=pc_ BW.out (l1 0 x0 (by rw [hv];rfl))
   rw [Nat.add_zero] at m0
   have m1:=pc_ BW.out (l1 1 x1 (by rw [hv];rfl))
   rw [add_field _ _ 1 (by omega)] at m1
   have m2:=pc_ BW.out (l1 2 x2 (by rw [hv];rfl))
   rw [add_field _ _ 2 (by omega)] at m2
   have m3:=pc_ BW.out (l1 3 x3 (by rw [hv];rfl))
   rw [add_field _ _ 3 (by omega)] at m3
   have m4:=pc_ BW.out (l1 4 x4 (by rw [hv];rfl))
   rw [add_field _ _ 4 (by omega)] at m4
   have m5:=pc_ BW.out (l1 5 x5 (by rw [hv];rfl))
   rw [add_field _ _ 5 (by omega)] at m5
   clear l1
   have hcall:=HP.out kk hlt wr BW.out
   rw [hv] at hcall
   clear hv
   cases hq:p kk with
   | true =>
    rw [hq] at hcall
    go_wp2_with ((with_reducible refine hcall.mono ?_);rintro e w' ⟨rfl,hb'⟩)
    go_ret
    refine ⟨?_,hb'⟩
    rw [Mach.idxP_hit p n kk hlt hq AA.out]
    rfl
   | false =>
    rw [hq] at hcall
    go_wp2_with ((with_reducible refine hcall.mono ?_);rintro e w' ⟨rfl,hb'⟩)
    go_roundg (n - (kk+1))
    case measure=>omega
    case rel =>
     refine ⟨kk+1,by omega,by omega,by go_num,⟨hb'⟩,⟨fun j hj=>?_⟩⟩
     by_cases e:j=kk
     ·subst e;exact hq
     ·exact AA.out j (by omega)
  ·have hltz:¬ (kk:Int)<(n:Int):=by omega
   have:kk=n:=by omega
   subst this
   go_wp2
   go_ret
   refine ⟨?_,BW.out⟩
   rw [Mach.idxP_miss p kk AA.out]
   rfl
/-! ### ContainsFunc_Node: function 75, by hand -/
/-- slices.ContainsFunc at this type, whatever the predicate. -/
theorem ContainsFunc_Node.holds (A:Option Addr) (n c:Nat) (v:Nat→List Value) (p:Nat→Bool) (g:Nat) (lb:Array Value) (eg:∀ args w,(callFunc g args).run Try.prog w=.ok (.enter g args) w) (w:World)
 (hp:∀ j,j<n→∀ W,Below w.heap.size w W→Calls Try.prog g (#[.agg (v j).toArray]++lb) W fun e w'=>e=.returned (.bool (p j))∧Below w.heap.size w w')
 (hbig:n≤9223372036854775807) (hc:∀ j,j<n→∃ ad,A=some ad∧(v j).length=6∧∀ i u,(v j)[i]? = some u→w.cell? (ad.add (j * 6+i))=some u) :
 Calls Try.prog 75 #[.slice A n c,.func (.func g) #[] lb] w fun e w'=>e=.returned (.bool (Mach.anyP p n))∧Below w.heap.size w w':=by
 rw [←Mach.idxP_any]
 have hcall:=IndexFunc_Node.holds A n c v p g lb eg w hp hbig hc
 clear hc hp
 go_enter Try.func75,Try.ntmps75
 go_wp2_with (go_at_call 83;refine hcall.mono ?_;rintro e w' ⟨rfl,hb'⟩)
 go_ret
 exact ⟨rfl,hb'⟩
/-! ### impl_isTexts: function 68, by hand -/
def noText (x:S28):Bool:=x.f0 != 2
def impl_isTexts.f (l0:List S28):Option Bool:=some (!l0.any noText)
theorem impl_isTexts.lit (x:S28) (A4 A5:Option Addr) (c4 c5:Nat) (w:World):Calls Try.prog 76 #[.agg #[.int .i64 x.f0,.int .i64 x.f1,.string x.f2,.string x.f3,.slice A4 x.f4.length c4,.slice A5 x.f5.length c5]] w fun e w'=>e=.returned (.bool (noText x))∧Below w.heap.size w w':=by
 go_enter Try.func76,Try.ntmps76
 go_wp2
 go_ret
 exact ⟨rfl,ba_ (Below.refl _ _) _⟩
theorem impl_isTexts.calls (A0:Option Addr) (c0:Nat) (l0:List S28) (r:Bool) (w:World) (hr0:Kd.C k28 w A0 l0.length l0) (hc0:l0.length≤c0) (h:impl_isTexts.f l0=some r) :
 Calls Try.prog 68 #[.slice A0 l0.length c0] w fun e w'=>e=.returned (.bool r)∧Below w.heap.size w w':=by
 obtain rfl:=oi_ h
 have hcells:∀ j,j<l0.length→∃ (A4 A5:Option Addr) (c4 c5:Nat) (ad:Addr),A0=some ad∧∀ i u,([.int .i64 (l0.getD j z28).f0,.int .i64 (l0.getD j z28).f1,.string (l0.getD j z28).f2,.string (l0.getD j z28).f3,.slice A4 (l0.getD j z28).f4.length c4,.slice A5 (l0.getD j z28).f5.length c5]:List Value)[i]? = some u→w.cell? (ad.add (j * 6+i))=some u:=by
  intro j hj
  obtain ⟨ad,c,e,hcl,hK,hc⟩:=Kd.C_get hr0 z28 (j:Int) (by omega) (by omega)
  rw [Int.toNat_natCast] at hK hc
  obtain ⟨A4,c4,A5,c5,rfl,_,_,_,_⟩:=k28_open hK
  exact ⟨A4,A5,c4,c5,ad,e,hc⟩
 have hch:∃ F:Nat→Option Addr × Option Addr × Nat × Nat,∀ j,j<l0.length→∃ ad,A0=some ad∧∀ i u,([.int .i64 (l0.getD j z28).f0,.int .i64 (l0.getD j z28).f1,.string (l0.getD j z28).f2,.string (l0.getD j z28).f3,.slice (F j).1 (l0.getD j z28).f4.length (F j).2.2.1,.slice (F j).2.1 (l0.getD j z28).f5.length (F j).2.2.2]:List Value)[i]? = some u→w.cell? (ad.add (j * 6+i))=some u:=by
  refine ⟨fun j=>if hj:j<l0.length then ⟨(hcells j hj).choose,(hcells j hj).choose_spec.choose,(hcells j hj).choose_spec.choose_spec.choose,(hcells j hj).choose_spec.choose_spec.choose_spec.choose⟩ else ⟨none,none,0,0⟩,fun j hj=>?_⟩
  simp only [dif_pos hj]
  exact (hcells j hj).choose_spec.choose_spec.choose_spec.choose_spec
 obtain ⟨F,hF⟩:=hch
 have hcall:=ContainsFunc_Node.holds A0 l0.length c0 (fun j=>[.int .i64 (l0.getD j z28).f0,.int .i64 (l0.getD j z28).f1,.string (l0.getD j z28).f2,.string (l0.getD j z28).f3,.slice (F j).1 (l0.getD j z28).f4.length (F j).2.2.1,.slice (F j).2.1 (l0.getD j z28).f5.length (F j).2.2.2]) (fun j=>noText (l0.getD j z28)) 76 #[] (Mach.enters_of Try.func76 (by kernel_rfl) rfl) w
  (fun j hj W hb=>(impl_isTexts.lit (l0.getD j z28) (F j).1 (F j).2.1 (F j).2.2.1 (F j).2.2.2 W).mono fun e w' ⟨he,hb'⟩=>⟨he,hb.trans (hb'.mono hb.size)⟩) hr0.2.1
  (fun j hj=>by
   obtain ⟨ad,e,hc⟩:=hF j hj
   exact ⟨ad,e,rfl,hc⟩)
 rw [Mach.anyP_list noText] at hcall
 clear hr0 hcells hF
 generalize l0.any noText=b at *
 go_enter Try.func68,Try.ntmps68
 go_wp2_with (go_at_call 75;(with_reducible refine hcall.mono ?_);rintro e w' ⟨rfl,hb'⟩)
 go_ret
 exact ⟨rfl,hb'⟩
end Go.Proofs.Ytbeplhbkoaopgaa.PFnExactSetWords
