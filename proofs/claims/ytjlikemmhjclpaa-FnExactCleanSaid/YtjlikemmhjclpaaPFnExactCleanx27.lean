/- By a program of this session, out of the kit's print and contracts made by hand: the machine side of a law; Lean checks it. No conditions. -/
import Derived.Test.YtjlikemmhjclpaaPFnExactCleanx0
import Derived.Test.YtjlikemmhjclpaaPFnExactCleanx18
import Derived.Test.YtjlikemmhjclpaaPFnExactCleanx19
import Derived.Test.YtjlikemmhjclpaaPFnExactCleanx24
import Derived.Test.YtjlikemmhjclpaaPFnExactCleanx25
import Derived.Test.YtjlikemmhjclpaaPFnExactCleanx26
namespace Go.Proofs.Ytjlikemmhjclpaa.PFnExactClean
open Go.RowKit Go.Proofs.YtjlikemmhjclpaaW.PrintWords Go.Proofs.YtjlikemmhjclpaaW.PrintLast Go.Proofs.YtjlikemmhjclpaaW.PrintMore
attribute [local go_sem] max2_int min2_int max_two min_two max_three min_three max_four min_four
set_option linter.unusedVariables false
set_option linter.unusedSimpArgs false
/-! ### impl_Attr_isHarm: function 102 -/
def impl_Attr_isHarm.f (k:Nat) (a0_0:ByteArray) (a0_1:ByteArray):Option (Bool):=(impl_IsHandler.f a0_0).bind fun t258=>(if t258=true then (some true) else ((impl_IsLink.f k a0_0).bind fun t259=>(if t259=true then ((impl_BadLink.f k a0_1).bind fun t260=>(some t260)) else (some false))))
theorem impl_Attr_isHarm.mono:∀ a0 a1 k,LeO (impl_Attr_isHarm.f k a0 a1) (impl_Attr_isHarm.f (k+1) a0 a1):=by
 intro a0 a1 k
 unfold impl_Attr_isHarm.f
 repeat' first
  | (with_reducible exact impl_BadLink.mono _ _)
  | (with_reducible exact impl_IsLink.mono _ _)
  | (with_reducible exact LeO.refl _)
  | (with_reducible exact LeO.none _)
  | (with_reducible refine LeO.ite ?_ ?_)
  | (with_reducible refine LeO.bind ?_ (fun _=>?_))
  | exact impl_BadLink.mono _ _
  | exact impl_IsLink.mono _ _
  | exact LeO.none _
  | refine LeO.ite ?_ ?_
  | refine LeO.bind ?_ (fun _=>?_)
set_option maxHeartbeats 8000000 in
set_option maxRecDepth 100000 in
theorem impl_Attr_isHarm.calls (k:Nat) (a0_0:ByteArray) (a0_1:ByteArray) (r:Bool) (w:World) (h:impl_Attr_isHarm.f k a0_0 a0_1=some r) :
 Calls Try.prog 102 #[.agg #[.string a0_0,.string a0_1]] w fun e w'=>e=.returned (.bool r)∧Below w.heap.size w w':=by
 have hu75:=Try.underlying75
 have HB:=A_ (Below.refl w.heap.size w)
 have H:((impl_IsHandler.f a0_0).bind fun t258=>(if t258=true then (some true) else ((impl_IsLink.f k a0_0).bind fun t259=>(if t259=true then ((impl_BadLink.f k a0_1).bind fun t260=>(some t260)) else (some false)))))=some r:=h
 clear h
 replace H:=ob_ H
 obtain ⟨t258,A20,H⟩:=H
 replace H:(if t258=true then (some true) else ((impl_IsLink.f k a0_0).bind fun t259=>(if t259=true then ((impl_BadLink.f k a0_1).bind fun t260=>(some t260)) else (some false))))=some r:=H
 have A2:=A_ A20
 clear A20
 by_cases c3:t258=true
 ·subst c3
  have H1:(some true)=some r:=by rw [if_pos rfl] at H;exact H
  clear H
  have H:=H1
  clear H1
  obtain rfl:=oi_ H
  go_enter Try.func102,Try.ntmps102
  go_wp2_with (first|((with_reducible refine gate_dst (N:=1) rfl ?_);refine box_event ?hg (N:=1) ?hd (cs:=#[.string a0_0,.string a0_1]) (t:=75) ?hr ?_;(case hd=>rfl);(case hg=>rfl);(case hr=>first|(go_simp;done)|(go_simp;rfl));intro gb257 hg w4 hbox hb;have n0_:=A_ (bp_ (by repeat (first|(with_reducible first|exact HB.out|apply ba_|apply pd_|apply b1_)|exact HB.out)) hb);have n1_:=A_ (hbox);have n2_:=A_ ((by rw [hg];exact (bz_ (by repeat (first|(with_reducible first|exact HB.out|apply ba_|apply pd_|apply b1_)|exact HB.out))):w.heap.size≤gb257));have n3_:=A_ ((by rw [hg];exact (bz_ (by repeat (first|(with_reducible first|exact HB.out|apply ba_|apply pd_|apply b1_)|exact HB.out))):w.heap.size≤gb257));clear HB;have HB:=n0_;have BK257:=n1_;have GW257:=n2_;have GE257:=n3_;clear n0_ n1_ n2_ n3_;clear hb hbox hg;have hcz5_0:w4.cell? ⟨gb257,0,none⟩=some (.string a0_0):=(bc_ BK257.out 0).trans rfl;have hcz5_1:w4.cell? ⟨gb257,1,none⟩=some (.string a0_1):=(bc_ BK257.out 1).trans rfl;have hfz5_0:=bf_ BK257.out 0;have hfz5_1:=bf_ BK257.out 1)|((with_reducible refine gate_callee (f:=116) rfl ?_);refine goesL_ (some 5) rfl rfl Try.func116 (by kernel_rfl) rfl #[.string a0_0] rfl (by (try simp only [List.map_toArray,List.map_cons,List.map_nil]);first|done|rfl|(simp only [ld_,lt_];rfl)) ?_;(with_reducible refine (impl_IsHandler.calls a0_0 true _ A2.out).mono ?_);rintro e w6 ⟨rfl,hb⟩;refine ⟨_,rfl,?_⟩;have n0_:=A_ (kb_ (g:=gb257) (o:=.cells #[.string a0_0,.string a0_1] 75 (0,0)) (by (with_reducible repeat (first|refine kn_ ?_ _|refine kd_ ?_|refine ka_ ?_ _));exact BK257.out) hb);have n1_:=A_ (bp_ (by repeat (first|(with_reducible first|exact HB.out|apply ba_|apply pd_|apply b1_|refine bs_ ?_ GE257.out)|exact HB.out)) hb);clear BK257;clear HB;have BK257:=n0_;have HB:=n1_;clear n0_ n1_;(try clear hb);(try clear hb2);(try clear hk);(try clear hi)))
  go_ret
  exact ⟨by first|rfl|(simp [errW_none,errW_some] <;> rfl)|(simp [*,errW_none,errW_some] <;> rfl),by repeat (first|(with_reducible first|exact HB.out|apply ba_|apply pd_|apply b1_|refine bs_ ?_ GE257.out)|exact HB.out)⟩
 ·replace c3:=bm_ c3
  subst c3
  have H1:((impl_IsLink.f k a0_0).bind fun t259=>(if t259=true then ((impl_BadLink.f k a0_1).bind fun t260=>(some t260)) else (some false)))=some r:=by rw [if_neg (show ¬ (false=true) by decide)] at H;exact H
  clear H
  have H:=H1
  clear H1
  replace H:=ob_ H
  obtain ⟨t259,A70,H⟩:=H
  replace H:(if t259=true then ((impl_BadLink.f k a0_1).bind fun t260=>(some t260)) else (some false))=some r:=H
  have A7:=A_ A70
  clear A70
  by_cases c8:t259=true
  ·subst c8
   have H1:((impl_BadLink.f k a0_1).bind fun t260=>(some t260))=some r:=by rw [if_pos rfl] at H;exact H
   clear H
   have H:=H1
   clear H1
   replace H:=ob_ H
   obtain ⟨t260,A90,H⟩:=H
   replace H:(some t260)=some r:=H
   have A9:=A_ A90
   clear A90
   obtain rfl:=oi_ H
   go_enter Try.func102,Try.ntmps102
   go_wp2_with (first|((with_reducible refine gate_dst (N:=1) rfl ?_);refine box_event ?hg (N:=1) ?hd (cs:=#[.string a0_0,.string a0_1]) (t:=75) ?hr ?_;(case hd=>rfl);(case hg=>rfl);(case hr=>first|(go_simp;done)|(go_simp;rfl));intro gb257 hg w10 hbox hb;have n0_:=A_ (bp_ (by repeat (first|(with_reducible first|exact HB.out|apply ba_|apply pd_|apply b1_)|exact HB.out)) hb);have n1_:=A_ (hbox);have n2_:=A_ ((by rw [hg];exact (bz_ (by repeat (first|(with_reducible first|exact HB.out|apply ba_|apply pd_|apply b1_)|exact HB.out))):w.heap.size≤gb257));have n3_:=A_ ((by rw [hg];exact (bz_ (by repeat (first|(with_reducible first|exact HB.out|apply ba_|apply pd_|apply b1_)|exact HB.out))):w.heap.size≤gb257));clear HB;have HB:=n0_;have BK257:=n1_;have GW257:=n2_;have GE257:=n3_;clear n0_ n1_ n2_ n3_;clear hb hbox hg;have hcz11_0:w10.cell? ⟨gb257,0,none⟩=some (.string a0_0):=(bc_ BK257.out 0).trans rfl;have hcz11_1:w10.cell? ⟨gb257,1,none⟩=some (.string a0_1):=(bc_ BK257.out 1).trans rfl;have hfz11_0:=bf_ BK257.out 0;have hfz11_1:=bf_ BK257.out 1)|((with_reducible refine gate_callee (f:=116) rfl ?_);refine goesL_ (some 5) rfl rfl Try.func116 (by kernel_rfl) rfl #[.string a0_0] rfl (by (try simp only [List.map_toArray,List.map_cons,List.map_nil]);first|done|rfl|(simp only [ld_,lt_];rfl)) ?_;(with_reducible refine (impl_IsHandler.calls a0_0 false _ A2.out).mono ?_);rintro e w12 ⟨rfl,hb⟩;refine ⟨_,rfl,?_⟩;have n0_:=A_ (kb_ (g:=gb257) (o:=.cells #[.string a0_0,.string a0_1] 75 (0,0)) (by (with_reducible repeat (first|refine kn_ ?_ _|refine kd_ ?_|refine ka_ ?_ _));exact BK257.out) hb);have n1_:=A_ (bp_ (by repeat (first|(with_reducible first|exact HB.out|apply ba_|apply pd_|apply b1_|refine bs_ ?_ GE257.out)|exact HB.out)) hb);clear BK257;clear HB;have BK257:=n0_;have HB:=n1_;clear n0_ n1_;(try clear hb);(try clear hb2);(try clear hk);(try clear hi);have hcz13_0:w12.cell? ⟨gb257,0,none⟩=some (.string a0_0):=(bc_ BK257.out 0).trans rfl;have hcz13_1:w12.cell? ⟨gb257,1,none⟩=some (.string a0_1):=(bc_ BK257.out 1).trans rfl;have hfz13_0:=bf_ BK257.out 0;have hfz13_1:=bf_ BK257.out 1)|(go_at_call 117;(with_reducible refine (impl_IsLink.calls k a0_0 true _ A7.out).mono ?_);rintro e w14 ⟨rfl,hb⟩;have n0_:=A_ (kb_ (g:=gb257) (o:=.cells #[.string a0_0,.string a0_1] 75 (0,0)) (by (with_reducible repeat (first|refine kn_ ?_ _|refine kd_ ?_|refine ka_ ?_ _));exact BK257.out) hb);have n1_:=A_ (bp_ (by repeat (first|(with_reducible first|exact HB.out|apply ba_|apply pd_|apply b1_|refine bs_ ?_ GE257.out)|exact HB.out)) hb);clear BK257;clear HB;have BK257:=n0_;have HB:=n1_;clear n0_ n1_;(try clear hb);(try clear hb2);(try clear hk);(try clear hi);have hcz15_0:w14.cell? ⟨gb257,0,none⟩=some (.string a0_0):=(bc_ BK257.out 0).trans rfl;have hcz15_1:w14.cell? ⟨gb257,1,none⟩=some (.string a0_1):=(bc_ BK257.out 1).trans rfl;have hfz15_0:=bf_ BK257.out 0;have hfz15_1:=bf_ BK257.out 1)|(go_at_call 118;(with_reducible refine (impl_BadLink.calls k a0_1 t260 _ A9.out).mono ?_);rintro e w16 ⟨rfl,hb⟩;have n0_:=A_ (kb_ (g:=gb257) (o:=.cells #[.string a0_0,.string a0_1] 75 (0,0)) (by (with_reducible repeat (first|refine kn_ ?_ _|refine kd_ ?_|refine ka_ ?_ _));exact BK257.out) hb);have n1_:=A_ (bp_ (by repeat (first|(with_reducible first|exact HB.out|apply ba_|apply pd_|apply b1_|refine bs_ ?_ GE257.out)|exact HB.out)) hb);clear BK257;clear HB;have BK257:=n0_;have HB:=n1_;clear n0_ n1_;(try clear hb);(try clear hb2);(try clear hk);(try clear hi)))
   go_ret
   exact ⟨by first|rfl|(simp [errW_none,errW_some] <;> rfl)|(simp [*,errW_none,errW_some] <;> rfl),by repeat (first|(with_reducible first|exact HB.out|apply ba_|apply pd_|apply b1_|refine bs_ ?_ GE257.out)|exact HB.out)⟩
  ·replace c8:=bm_ c8
   subst c8
   have H1:(some false)=some r:=by rw [if_neg (show ¬ (false=true) by decide)] at H;exact H
   clear H
   have H:=H1
   clear H1
   obtain rfl:=oi_ H
   go_enter Try.func102,Try.ntmps102
   go_wp2_with (first|((with_reducible refine gate_dst (N:=1) rfl ?_);refine box_event ?hg (N:=1) ?hd (cs:=#[.string a0_0,.string a0_1]) (t:=75) ?hr ?_;(case hd=>rfl);(case hg=>rfl);(case hr=>first|(go_simp;done)|(go_simp;rfl));intro gb257 hg w17 hbox hb;have n0_:=A_ (bp_ (by repeat (first|(with_reducible first|exact HB.out|apply ba_|apply pd_|apply b1_)|exact HB.out)) hb);have n1_:=A_ (hbox);have n2_:=A_ ((by rw [hg];exact (bz_ (by repeat (first|(with_reducible first|exact HB.out|apply ba_|apply pd_|apply b1_)|exact HB.out))):w.heap.size≤gb257));have n3_:=A_ ((by rw [hg];exact (bz_ (by repeat (first|(with_reducible first|exact HB.out|apply ba_|apply pd_|apply b1_)|exact HB.out))):w.heap.size≤gb257));clear HB;have HB:=n0_;have BK257:=n1_;have GW257:=n2_;have GE257:=n3_;clear n0_ n1_ n2_ n3_;clear hb hbox hg;have hcz18_0:w17.cell? ⟨gb257,0,none⟩=some (.string a0_0):=(bc_ BK257.out 0).trans rfl;have hcz18_1:w17.cell? ⟨gb257,1,none⟩=some (.string a0_1):=(bc_ BK257.out 1).trans rfl;have hfz18_0:=bf_ BK257.out 0;have hfz18_1:=bf_ BK257.out 1)|((with_reducible refine gate_callee (f:=116) rfl ?_);refine goesL_ (some 5) rfl rfl Try.func116 (by kernel_rfl) rfl #[.string a0_0] rfl (by (try simp only [List.map_toArray,List.map_cons,List.map_nil]);first|done|rfl|(simp only [ld_,lt_];rfl)) ?_;(with_reducible refine (impl_IsHandler.calls a0_0 false _ A2.out).mono ?_);rintro e w19 ⟨rfl,hb⟩;refine ⟨_,rfl,?_⟩;have n0_:=A_ (kb_ (g:=gb257) (o:=.cells #[.string a0_0,.string a0_1] 75 (0,0)) (by (with_reducible repeat (first|refine kn_ ?_ _|refine kd_ ?_|refine ka_ ?_ _));exact BK257.out) hb);have n1_:=A_ (bp_ (by repeat (first|(with_reducible first|exact HB.out|apply ba_|apply pd_|apply b1_|refine bs_ ?_ GE257.out)|exact HB.out)) hb);clear BK257;clear HB;have BK257:=n0_;have HB:=n1_;clear n0_ n1_;(try clear hb);(try clear hb2);(try clear hk);(try clear hi);have hcz20_0:w19.cell? ⟨gb257,0,none⟩=some (.string a0_0):=(bc_ BK257.out 0).trans rfl;have hcz20_1:w19.cell? ⟨gb257,1,none⟩=some (.string a0_1):=(bc_ BK257.out 1).trans rfl;have hfz20_0:=bf_ BK257.out 0;have hfz20_1:=bf_ BK257.out 1)|(go_at_call 117;(with_reducible refine (impl_IsLink.calls k a0_0 false _ A7.out).mono ?_);rintro e w21 ⟨rfl,hb⟩;have n0_:=A_ (kb_ (g:=gb257) (o:=.cells #[.string a0_0,.string a0_1] 75 (0,0)) (by (with_reducible repeat (first|refine kn_ ?_ _|refine kd_ ?_|refine ka_ ?_ _));exact BK257.out) hb);have n1_:=A_ (bp_ (by repeat (first|(with_reducible first|exact HB.out|apply ba_|apply pd_|apply b1_|refine bs_ ?_ GE257.out)|exact HB.out)) hb);clear BK257;clear HB;have BK257:=n0_;have HB:=n1_;clear n0_ n1_;(try clear hb);(try clear hb2);(try clear hk);(try clear hi)))
   go_ret
   exact ⟨by first|rfl|(simp [errW_none,errW_some] <;> rfl)|(simp [*,errW_none,errW_some] <;> rfl),by repeat (first|(with_reducible first|exact HB.out|apply ba_|apply pd_|apply b1_|refine bs_ ?_ GE257.out)|exact HB.out)⟩
/-! ### impl_IsBanned: function 100 -/
def impl_IsBanned.f (k:Nat) (a0:ByteArray):Option (Bool):=(slices_Contains_string_string.f k (([(⟨#[115,99,114,105,112,116]⟩:ByteArray),(⟨#[105,102,114,97,109,101]⟩:ByteArray),(⟨#[111,98,106,101,99,116]⟩:ByteArray),(⟨#[101,109,98,101,100]⟩:ByteArray),(⟨#[102,114,97,109,101]⟩:ByteArray),(⟨#[98,97,115,101]⟩:ByteArray),(⟨#[117,115,101]⟩:ByteArray)]:List ByteArray)) a0).bind fun t264=>(some t264)
theorem impl_IsBanned.mono:∀ a0 k,LeO (impl_IsBanned.f k a0) (impl_IsBanned.f (k+1) a0):=by
 intro a0 k
 unfold impl_IsBanned.f
 repeat' first
  | (with_reducible exact slices_Contains_string_string.mono _ _ _)
  | (with_reducible exact LeO.refl _)
  | (with_reducible exact LeO.none _)
  | (with_reducible refine LeO.ite ?_ ?_)
  | (with_reducible refine LeO.bind ?_ (fun _=>?_))
  | exact slices_Contains_string_string.mono _ _ _
  | exact LeO.none _
  | refine LeO.ite ?_ ?_
  | refine LeO.bind ?_ (fun _=>?_)
set_option maxHeartbeats 8000000 in
set_option maxRecDepth 100000 in
theorem impl_IsBanned.calls (k:Nat) (a0:ByteArray) (r:Bool) (w:World) (h:impl_IsBanned.f k a0=some r) :
 Calls Try.prog 100 #[.string a0] w fun e w'=>e=.returned (.bool r)∧Below w.heap.size w w':=by
 have HB:=A_ (Below.refl w.heap.size w)
 have H:((slices_Contains_string_string.f k (([(⟨#[115,99,114,105,112,116]⟩:ByteArray),(⟨#[105,102,114,97,109,101]⟩:ByteArray),(⟨#[111,98,106,101,99,116]⟩:ByteArray),(⟨#[101,109,98,101,100]⟩:ByteArray),(⟨#[102,114,97,109,101]⟩:ByteArray),(⟨#[98,97,115,101]⟩:ByteArray),(⟨#[117,115,101]⟩:ByteArray)]:List ByteArray)) a0).bind fun t264=>(some t264))=some r:=h
 clear h
 obtain ⟨y261,hy261⟩:∃ y_:List ByteArray,y_=(([(⟨#[115,99,114,105,112,116]⟩:ByteArray),(⟨#[105,102,114,97,109,101]⟩:ByteArray),(⟨#[111,98,106,101,99,116]⟩:ByteArray),(⟨#[101,109,98,101,100]⟩:ByteArray),(⟨#[102,114,97,109,101]⟩:ByteArray),(⟨#[98,97,115,101]⟩:ByteArray),(⟨#[117,115,101]⟩:ByteArray)]:List ByteArray)):=⟨_,rfl⟩
 replace H:((slices_Contains_string_string.f k y261 a0).bind fun t264=>(some t264))=some r:=by first|(rw [hy261];with_reducible exact H)|(have H2_:=(Option.bind_some _ _).symm.trans H;rw [hy261];with_reducible exact H2_)|(have H2_:=(Option.bind_some _ _).symm.trans H;with_reducible exact H2_)|with_reducible exact H|(rw [hy261];exact H)|exact H
 have Ny261:=A_ hy261
 clear hy261
 replace H:=ob_ H
 obtain ⟨t264,A20,H⟩:=H
 replace H:(some t264)=some r:=H
 have A2:=A_ A20
 clear A20
 obtain rfl:=oi_ H
 go_enter Try.func100,Try.ntmps100
 go_wp2_with (first|((with_reducible refine gate_dst (N:=3) rfl ?_);refine Kd.R_lit Kd.string _ 9 ?hg (N:=3) ?hd (xs:=([(⟨#[115,99,114,105,112,116]⟩:ByteArray),(⟨#[105,102,114,97,109,101]⟩:ByteArray),(⟨#[111,98,106,101,99,116]⟩:ByteArray),(⟨#[101,109,98,101,100]⟩:ByteArray),(⟨#[102,114,97,109,101]⟩:ByteArray),(⟨#[98,97,115,101]⟩:ByteArray),(⟨#[117,115,101]⟩:ByteArray)]:List ByteArray)) (inner:=[.string (⟨#[115,99,114,105,112,116]⟩:ByteArray),.string (⟨#[105,102,114,97,109,101]⟩:ByteArray),.string (⟨#[111,98,106,101,99,116]⟩:ByteArray),.string (⟨#[101,109,98,101,100]⟩:ByteArray),.string (⟨#[102,114,97,109,101]⟩:ByteArray),.string (⟨#[98,97,115,101]⟩:ByteArray),.string (⟨#[117,115,101]⟩:ByteArray)]) (ok:=fun _=>True) (okp:=fun _=>True) ?hr ?hp (fun _ hk=>hk) trivial (Below.refl _ _) (Nat.le_refl _) (by simp) ?_;(case hd=>rfl);(case hg=>rfl);(case hr=>first|(go_simp;done)|(go_simp;rfl)|(first|(go_simp;done)|(go_simp;rfl)));(case hp=>exact (Reps.one (show Kd.M Kd.string _ _ _ (⟨#[115,99,114,105,112,116]⟩:ByteArray) [.string (⟨#[115,99,114,105,112,116]⟩:ByteArray)] from rfl) (Reps.one (show Kd.M Kd.string _ _ _ (⟨#[105,102,114,97,109,101]⟩:ByteArray) [.string (⟨#[105,102,114,97,109,101]⟩:ByteArray)] from rfl) (Reps.one (show Kd.M Kd.string _ _ _ (⟨#[111,98,106,101,99,116]⟩:ByteArray) [.string (⟨#[111,98,106,101,99,116]⟩:ByteArray)] from rfl) (Reps.one (show Kd.M Kd.string _ _ _ (⟨#[101,109,98,101,100]⟩:ByteArray) [.string (⟨#[101,109,98,101,100]⟩:ByteArray)] from rfl) (Reps.one (show Kd.M Kd.string _ _ _ (⟨#[102,114,97,109,101]⟩:ByteArray) [.string (⟨#[102,114,97,109,101]⟩:ByteArray)] from rfl) (Reps.one (show Kd.M Kd.string _ _ _ (⟨#[98,97,115,101]⟩:ByteArray) [.string (⟨#[98,97,115,101]⟩:ByteArray)] from rfl) (Reps.one (show Kd.M Kd.string _ _ _ (⟨#[117,115,101]⟩:ByteArray) [.string (⟨#[117,115,101]⟩:ByteArray)] from rfl) (Reps.none _ _)))))))));intro v262 w3 ho4 hb hg_ hnew_;clear hg_ hnew_;(first|rw [←Ny261.out] at ho4|(simp only [Int.reduceToNat] at ho4;rw [←Ny261.out] at ho4));have n0_:=A_ (Kd.R_lower ho4 (bz_ (by repeat (first|(with_reducible first|exact HB.out|apply ba_|apply pd_|apply b1_)|exact HB.out))));have n1_:=A_ (bp_ (by repeat (first|(with_reducible first|exact HB.out|apply ba_|apply pd_|apply b1_)|exact HB.out)) hb);clear HB;have HO263:=n0_;have HB:=n1_;clear n0_ n1_;clear hb ho4;obtain ⟨Ao5,co5,eo5⟩:=Kd.R_slice HO263.out;subst eo5)|((with_reducible refine gate_callee (f:=90) rfl ?_);refine goesL_ (some 5) rfl rfl Try.func90 (by kernel_rfl) rfl #[.slice Ao5 y261.length co5,.string a0] rfl (by (try simp only [List.map_toArray,List.map_cons,List.map_nil]);first|done|rfl|(simp only [ld_,lt_];rfl)) ?_;(with_reducible refine (slices_Contains_string_string.calls k _ _ y261 a0 t264 _ ?side1 ?side2 A2.out).mono ?_);(case side1=>repeat (first|exact (Kd.R_reads' HO263.out).2.2|(with_reducible refine ca_ ?_ _)|(with_reducible refine cn_ ?_ _)|(with_reducible refine cd_ ?_)));(case side2=>exact (Kd.R_reads' HO263.out).2.1);rintro e w' ⟨rfl,⟨nd,rfl⟩⟩;refine ⟨_,rfl,?_⟩))
 go_ret
 exact ⟨by first|rfl|(simp [errW_none,errW_some] <;> rfl)|(simp [*,errW_none,errW_some] <;> rfl),by repeat (first|(with_reducible first|exact HB.out|apply ba_|apply pd_|apply b1_)|exact HB.out)⟩
/-! ### impl_firstHarmP: function 53, by hand -/
theorem isLong1 (a:ByteArray):impl_isLong.f [a]=some (decide (65536<(a.size:Int))):=by
 unfold impl_isLong.f
 rw [if_pos (by simp)]
 simp
theorem hasPrefix_eq (a b:ByteArray):strings_HasPrefix.f a b=some (decide (a.size≥b.size) && ((a.extract 0 b.size).toList == b.toList)):=by
 unfold strings_HasPrefix.f stringslite_HasPrefix.f
 by_cases h:(a.size:Int)≥(b.size:Int)
 ·rw [if_pos h,if_pos (by omega),if_pos h,dt_ (p:=a.size≥b.size) (by omega)]
  rfl
 ·rw [if_neg h,df_ (p:=a.size≥b.size) (by omega)]
  rfl
open Go.Proofs.Ytjlikemmhjclpaa.Kit (small digit big pos_eq neg_eq tagB isTag nameB isName lowC lowS lowS_bytes handler wantJ wantJ_eq keepC badL badFrom badFrom_zero badFrom_full badFrom_nil badFrom_skip badFrom_take indexByte_any markB namesAt namesOK)
theorem lower_eq (s:ByteArray) (h:s.size≤9223372036854775807):impl_lower.f s=some (lowS s):=if_pos h
open Go.Proofs.Ytjlikemmhjclpaa.Kit (small digit big pos_eq neg_eq tagB isTag nameB isName lowC lowS lowS_bytes handler wantJ wantJ_eq keepC badL badFrom badFrom_zero badFrom_full badFrom_nil badFrom_skip badFrom_take indexByte_any markB namesAt namesOK)
theorem ev_BadLink_l1 (s:ByteArray) (hn:s.size≤140737488351232):Ev (fun k=>impl_BadLink.l1 k s ([]:List Int) s.size 0) (wantJ.isPrefixOf (((bytesOf s).filter keepC).map lowC)):=by
 have key:∀ i:Nat,i≤s.size→∀ acc:List Int,acc=((bytesOf s).take i).filter keepC→Ev (fun k=>impl_BadLink.l1 k s acc s.size i) (wantJ.isPrefixOf (((bytesOf s).filter keepC).map lowC)):=by
  refine Kit.down ?_ ?_
  ·intro acc ha
   rw [List.take_of_length_le (by rw [bytesOf_length];exact Nat.le_refl _)] at ha
   have hlen:acc.length≤s.size:=by rw [ha,←bytesOf_length s];exact List.length_filter_le _ _
   refine Ev.step (fun k=>by rw [impl_BadLink.l1]) (Kit.ev_neg (by omega) (Kit.ev_const ?_))
   rw [lower_eq _ (by rw [strOfNums_size];omega),Option.bind_some,hasPrefix_eq,Option.bind_some]
   congr 1
   have hb:bytesOf (strOfNums acc)=acc:=Kit.bytesOf_strOf (fun x hx=>by rw [ha] at hx;exact Kit.bytesOf_mem ((List.mem_filter.1 hx).1))
   rw [Kit.toList_beq,Kit.bytesOf_extract,lowS_bytes,hb,wantJ_eq,←ha]
   have:=Kit.isPrefix_take wantJ (acc.map lowC)
   rw [←this]
   have e1:(lowS (strOfNums acc)).size=(acc.map lowC).length:=by rw [Kit.size_eq,lowS_bytes,hb]
   rw [e1]
   rfl
  ·intro i hi ih acc ha
   have hl:acc.length<140737488355328:=by
    have h1:acc.length≤i:=by
     rw [ha]
     refine Nat.le_trans (List.length_filter_le _ _) ?_
     rw [lt_];omega
    omega
   have ht:(bytesOf s).take (i+1)=(bytesOf s).take i++[bt s (i:Int)]:=by
    rw [List.take_add_one,Kit.bt_rd]
    have:i<(bytesOf s).length:=by rw [bytesOf_length];exact hi
    simp [List.getD,this]
   have hskip:keepC (bt s (i:Int))=false→Ev (fun k=>impl_BadLink.l1 k s acc s.size (wrap64 ((i:Int)+1))) (wantJ.isPrefixOf (((bytesOf s).filter keepC).map lowC)):=by
    intro h
    rw [Kit.wrap_nat hi (by omega)]
    refine ih _ ?_
    rw [ha,ht,List.filter_append,List.filter_cons,if_neg (by rw [h];decide),List.filter_nil,List.append_nil]
   refine Ev.step (fun k=>by rw [impl_BadLink.l1]) (Kit.ev_pos (by omega) (Kit.ev_pos (by omega) (Kit.ev_pos (by omega) ?_)))
   refine Kit.ev_if (fun h=>hskip (by simp [keepC,h])) (fun h9=>Kit.ev_if (fun h=>hskip (by simp [keepC,h])) (fun h10=>Kit.ev_if (fun h=>hskip (by simp [keepC,h])) (fun h13=>Kit.ev_pos hl ?_)))
   rw [Kit.wrap_nat hi (by omega)]
   refine ih _ ?_
   have:keepC (bt s (i:Int))=true:=by simp [keepC,h9,h10,h13]
   rw [ha,ht,List.filter_append,List.filter_cons,if_pos this,List.filter_nil]
 exact key 0 (by omega) [] (by simp)
theorem ev_BadLink_l0:∀ (n:Nat) (s:ByteArray),s.size=n→s.size≤140737488351232→Ev (fun k=>impl_BadLink.l0 k s) (badL (bytesOf s)):=by
 intro n
 induction n with
 | zero =>
  intro s hs hn
  have he:bytesOf s=[]:=List.eq_nil_of_length_eq_zero (by rw [bytesOf_length];exact hs)
  refine Ev.step (fun k=>by rw [impl_BadLink.l0]) (Kit.ev_pos ((Kit.toList_nil s).2 he) ?_)
  refine Ev.step (fun k=>by rw [impl_BadLink.j1]) ?_
  have:=ev_BadLink_l1 s hn
  rw [he] at this ⊢
  exact this
 | succ n ih =>
  intro s hs hn
  have hd:bytesOf s=bt s 0 :: (bytesOf s).drop 1:=Kit.bytesOf_drop s 0 (by omega)
  refine Ev.step (fun k=>by rw [impl_BadLink.l0]) (Kit.ev_neg (fun h=>?_) (Kit.ev_pos (by omega) (Kit.ev_if (fun h=>?_) (fun h=>?_))))
  ·rw [(Kit.toList_nil s).1 h] at hd;cases hd
  ·refine Kit.ev_pos (by omega) ?_
   have hx:bytesOf (s.extract 1 s.size)=(bytesOf s).drop 1:=Kit.bytesOf_tail s 1
   have hz:(s.extract 1 s.size).size=n:=by rw [Kit.size_eq,hx,ld_,bytesOf_length];omega
   have:=ih (s.extract 1 s.size) hz (by omega)
   rw [hx] at this
   have e:badL (bytesOf s)=badL ((bytesOf s).drop 1):=by
    rw [←badFrom_zero,hd,badFrom_skip 0 _ _ (.inr (.inr (.inr ⟨rfl,h⟩))),badFrom_zero]
    rfl
   rw [e]
   exact this
  ·refine Ev.step (fun k=>by rw [impl_BadLink.j1]) ?_
   have:=ev_BadLink_l1 s hn
   have e:badL (bytesOf s)=wantJ.isPrefixOf (((bytesOf s).filter keepC).map lowC):=by
    unfold badL
    have h2:(bytesOf s).dropWhile (fun c=>decide (c≤32))=bytesOf s:=by
     rw [hd,List.dropWhile_cons,if_neg (by simpa using h)]
    rw [h2]
   rw [e]
   exact this
theorem ev_BadLink_impl (a:ByteArray) (ha:a.size≤140737488351232):Ev (fun k=>impl_BadLink.f k a) (!decide (65536<(a.size:Int)) && badL (bytesOf a)):=by
 unfold impl_BadLink.f
 refine Kit.ev_some (isLong1 a) (Kit.ev_if (fun h=>?_) (fun h=>?_))
 ·rw [h];exact Ev.now _
 ·rw [Bool.eq_false_iff.2 h];exact ev_BadLink_l0 a.size a rfl ha
open Go.Proofs.Ytjlikemmhjclpaa.Kit (handler)
theorem IsHandler_eq (a:ByteArray):impl_IsHandler.f a=some (!decide (65536<(a.size:Int)) && handler a):=by
 unfold impl_IsHandler.f handler
 rw [isLong1,Option.bind_some]
 by_cases h:65536<(a.size:Int)
 ·rw [if_pos (dt_ h),dt_ h];rfl
 ·rw [if_neg (by simpa using h),df_ h]
  by_cases h2:(a.size:Int)>2
  ·rw [if_pos h2,hasPrefix_eq,Option.bind_some,dt_ h2]
   have h3:a.size≥(⟨#[111,110]⟩:ByteArray).size:=by show a.size≥2;omega
   rw [dt_ h3,Kit.lit_toList #[111,110]]
   rfl
  ·rw [if_neg h2,df_ h2];rfl
def bannedL:List ByteArray:=[⟨#[115,99,114,105,112,116]⟩,⟨#[105,102,114,97,109,101]⟩,⟨#[111,98,106,101,99,116]⟩,⟨#[101,109,98,101,100]⟩,⟨#[102,114,97,109,101]⟩,⟨#[98,97,115,101]⟩,⟨#[117,115,101]⟩]
theorem ev_IsBanned (a:ByteArray):Ev (fun k=>impl_IsBanned.f k a) (Kit.hasT bannedL a):=Ev.bind (ev_slices_Contains _ a (by decide)) (Ev.now _)
def linkL:List ByteArray:=([(⟨#[104,114,101,102]⟩:ByteArray),(⟨#[115,114,99]⟩:ByteArray),(⟨#[97,99,116,105,111,110]⟩:ByteArray),(⟨#[102,111,114,109,97,99,116,105,111,110]⟩:ByteArray),(⟨#[120,108,105,110,107,45,104,114,101,102]⟩:ByteArray)]:List ByteArray)
theorem ev_IsLink (a:ByteArray):Ev (fun k=>impl_IsLink.f k a) (Kit.hasT linkL a):=Ev.bind (ev_slices_Contains _ a (by decide)) (Ev.now _)
/-- An attribute may do harm. -/
def attrHarm (a:S75):Bool:=if handler a.f0=true then true else if Kit.hasT linkL a.f0=true then badL (bytesOf a.f1) else false
theorem ev_attrHarm (a:S75) (ha:a.f0.size≤65536) (hv:a.f1.size≤65536):Ev (fun k=>impl_Attr_isHarm.f k a.f0 a.f1) (attrHarm a):=by
 have hh:impl_IsHandler.f a.f0=some (handler a.f0):=by rw [IsHandler_eq,df_ (show ¬ (65536:Int)<(a.f0.size:Int) by omega),Bool.not_false,Bool.true_and]
 have hb:Ev (fun k=>impl_BadLink.f k a.f1) (badL (bytesOf a.f1)):=by
  have:=ev_BadLink_impl a.f1 (by omega)
  rwa [df_ (show ¬ (65536:Int)<(a.f1.size:Int) by omega),Bool.not_false,Bool.true_and] at this
 unfold impl_Attr_isHarm.f attrHarm
 refine Kit.ev_some hh (Kit.ev_if (fun h=>?_) (fun h=>?_))
 ·rw [if_pos h];exact Ev.now _
 ·rw [if_neg h]
  refine Ev.bind (ev_IsLink a.f0) (Kit.ev_if (fun h2=>?_) (fun h2=>?_))
  ·rw [if_pos h2];exact Ev.bind hb (Ev.now _)
  ·rw [if_neg h2];exact Ev.now _
/-- A node may do harm of its own. -/
def harmN (x:S44):Bool:=(x.f0 == 1) && (Kit.hasT bannedL x.f2 || x.f4.any attrHarm)
def FitH (x:S44):Prop:=∀ a∈x.f4,a.f0.size≤65536∧a.f1.size≤65536
def fitHB (x:S44):Bool:=x.f4.all fun a=>decide (a.f0.size≤65536) && decide (a.f1.size≤65536)
def goodB:Nat→S44→Bool
 | 0,_=>false
 | n+1,x=>fitHB x && x.f5.all (goodB n)
theorem goodB_iff (n:Nat):∀ x:S44,goodB n x=true ↔ goodE FitH n x:=by
 induction n with
 | zero=>intro x;exact ⟨fun h=>(by cases h),fun h=>h.elim⟩
 | succ n ih =>
  intro x
  rw [goodB,goodE,Bool.and_eq_true,List.all_eq_true]
  have h1:fitHB x=true ↔ FitH x:=by
   unfold fitHB FitH
   rw [List.all_eq_true]
   simp only [Bool.and_eq_true,decide_eq_true_eq]
  rw [h1]
  exact ⟨fun h=>⟨h.1,fun y hy=>(ih y).1 (h.2 y hy)⟩,fun h=>⟨h.1,fun y hy=>(ih y).2 (h.2 y hy)⟩⟩
set_option maxHeartbeats 4000000 in
theorem nodeHarm (x:S44) (hf:FitH x) (A4:Option Addr) (c4:Nat) (A5:Option Addr) (c5:Nat) (W:World) (hr:Kd.C k75 W A4 x.f4.length x.f4):Calls Try.prog 83 #[.agg #[.int .i64 x.f0,.int .i64 x.f1,.string x.f2,.string x.f3,.slice A4 x.f4.length c4,.slice A5 x.f5.length c5]] W fun e w'=>e=.returned (.bool (harmN x))∧Below W.heap.size W w':=by
 have QC:Aside0 (∀ V,Below W.heap.size W V→Calls Try.prog 101 #[.slice A4 x.f4.length c4,.func (.func 102) #[] #[]] V fun e w'=>e=.returned (.bool (x.f4.any attrHarm))∧Below V.heap.size V w'):=⟨fun V hV=>by
  have hr':=cb_ hr hV
  have h:=ContainsFunc_Attr.holds A4 x.f4.length c4 (fun j=>[.string (x.f4.getD j z75).f0,.string (x.f4.getD j z75).f1]) (fun j=>attrHarm (x.f4.getD j z75)) 102 #[] (Mach.enters_of Try.func102 (by kernel_rfl) rfl) V
   (fun j hj W' hb=>by
    have hm:=hf _ (Kit.getD_mem z75 hj)
    obtain ⟨K,hK⟩:=ev_attrHarm (x.f4.getD j z75) hm.1 hm.2
    exact (impl_Attr_isHarm.calls K _ _ _ W' (hK K (Nat.le_refl _))).mono fun e w' ⟨he,hb'⟩=>⟨he,hb.trans (hb'.mono hb.size)⟩) hr'.2.1
   (fun j hj=>by
    obtain ⟨ad,c,e,hcl,hK,hc⟩:=Kd.C_get hr' z75 (j:Int) (by omega) (by omega)
    rw [Int.toNat_natCast] at hK hc
    obtain rfl:=k75_open hK
    exact ⟨ad,e,rfl,hc⟩)
  rw [Mach.anyP_list attrHarm] at h
  exact h⟩
 obtain ⟨K,hK⟩:=ev_IsBanned x.f2
 have QB:Aside0 (∀ V,Calls Try.prog 100 #[.string x.f2] V fun e w'=>e=.returned (.bool (Kit.hasT bannedL x.f2))∧Below V.heap.size V w'):=⟨fun V=>impl_IsBanned.calls K x.f2 _ V (hK K (Nat.le_refl _))⟩
 have HBX:=A_ (ba_ (Below.refl W.heap.size W) (.cells #[.int .i64 x.f0,.int .i64 x.f1,.string x.f2,.string x.f3,.slice A4 x.f4.length c4,.slice A5 x.f5.length c5] 44))
 have b0:Aside0 ((W.alloc (.cells #[.int .i64 x.f0,.int .i64 x.f1,.string x.f2,.string x.f3,.slice A4 x.f4.length c4,.slice A5 x.f5.length c5] 44)).cell? ⟨W.heap.size,0,none⟩=some (.int .i64 x.f0)):=⟨Mach.new_cell W _ _ 0 _ rfl⟩
 have b1:Aside0 ((W.alloc (.cells #[.int .i64 x.f0,.int .i64 x.f1,.string x.f2,.string x.f3,.slice A4 x.f4.length c4,.slice A5 x.f5.length c5] 44)).cell? ⟨W.heap.size,1,none⟩=some (.int .i64 x.f1)):=⟨Mach.new_cell W _ _ 1 _ rfl⟩
 have b2:Aside0 ((W.alloc (.cells #[.int .i64 x.f0,.int .i64 x.f1,.string x.f2,.string x.f3,.slice A4 x.f4.length c4,.slice A5 x.f5.length c5] 44)).cell? ⟨W.heap.size,2,none⟩=some (.string x.f2)):=⟨Mach.new_cell W _ _ 2 _ rfl⟩
 have b3:Aside0 ((W.alloc (.cells #[.int .i64 x.f0,.int .i64 x.f1,.string x.f2,.string x.f3,.slice A4 x.f4.length c4,.slice A5 x.f5.length c5] 44)).cell? ⟨W.heap.size,3,none⟩=some (.string x.f3)):=⟨Mach.new_cell W _ _ 3 _ rfl⟩
 have b4:Aside0 ((W.alloc (.cells #[.int .i64 x.f0,.int .i64 x.f1,.string x.f2,.string x.f3,.slice A4 x.f4.length c4,.slice A5 x.f5.length c5] 44)).cell? ⟨W.heap.size,4,none⟩=some (.slice A4 x.f4.length c4)):=⟨Mach.new_cell W _ _ 4 _ rfl⟩
 have b5:Aside0 ((W.alloc (.cells #[.int .i64 x.f0,.int .i64 x.f1,.string x.f2,.string x.f3,.slice A4 x.f4.length c4,.slice A5 x.f5.length c5] 44)).cell? ⟨W.heap.size,5,none⟩=some (.slice A5 x.f5.length c5)):=⟨Mach.new_cell W _ _ 5 _ rfl⟩
 have HH:Aside0 (harmN x=((x.f0 == 1) && (Kit.hasT bannedL x.f2 || x.f4.any attrHarm))):=⟨rfl⟩
 clear hr hK hf
 generalize Kit.hasT bannedL x.f2=qb at *
 generalize x.f4.any attrHarm=qc at *
 generalize x.f4.length=n4 at *
 generalize x.f5.length=n5 at *
 cases hk:x.f0 == 1 with
 | false =>
  rw [HH.out,hk,Bool.false_and]
  go_enter Try.func83,Try.ntmps83
  go_wp2
  go_ret
  exact ⟨rfl,HBX.out⟩
 | true =>
  rw [HH.out,hk,Bool.true_and]
  cases qb with
  | true =>
   go_enter Try.func83,Try.ntmps83
   go_wp2_with (first|(go_at_call 100;(with_reducible refine (QB.out _).mono ?_);rintro e w1 ⟨rfl,hb1⟩;have HB1:=A_ (HBX.out.trans (hb1.mono HBX.out.size));have d4:=pc_ hb1 b4.out;clear hb1))
   go_ret
   exact ⟨rfl,HB1.out⟩
  | false =>
   go_enter Try.func83,Try.ntmps83
   go_wp2_with (first|(go_at_call 100;(with_reducible refine (QB.out _).mono ?_);rintro e w1 ⟨rfl,hb1⟩;have HB1:=A_ (HBX.out.trans (hb1.mono HBX.out.size));have d4:=pc_ hb1 b4.out;clear hb1)|(go_at_call 101;(with_reducible refine (QC.out _ HB1.out).mono ?_);rintro e w2 ⟨rfl,hb2⟩;have HB2:=A_ (HB1.out.trans (hb2.mono HB1.out.size));clear hb2))
   go_ret
   exact ⟨by simp,HB2.out⟩
theorem nil_no (w:World) (ad:Addr) (n c:Nat):(binOp .eql 23 (.slice (some ad) n c) (.slice none 0 0)).run Try.prog w=.ok (.bool false) w:=Lib.run_eql_slice_nil w 23 3 (some ad) n c 0 0 Try.underlying23
theorem nil_yes (w:World):(binOp .eql 23 (.slice none 0 0) (.slice none 0 0)).run Try.prog w=.ok (.bool true) w:=Lib.run_eql_slice_nil w 23 3 none 0 0 0 0 Try.underlying23
def stepHP (x:S44) (ps:List Int) (s:Option (List Int)):Option (List Int):=match s with
 | some q=>some q
 | none=>if harmN x=true then some ps else none
/-- The box of 'out': nil, or a row of one's own that reads the path. -/
def harmSt (w0:World) (g:Nat) (s:Option (List Int)) (W:World):Prop:=w0.heap.size≤g∧match s with
 | none=>W.heap[g]? = some (.cells #[.slice none 0 0] 23 (0,0))
 | some ps=>∃ a c,0<ps.length∧W.heap[g]? = some (.cells #[.slice (some a) ps.length c] 23 (0,0))∧Kd.R (Kd.int .i64) 3 W w0.heap.size (fun k=>k≠g) (.slice (some a) ps.length c) ps
theorem harmSt_below (w0:World) (g:Nat) (s:Option (List Int)) (W W':World) (hb:Below W.heap.size W W') (h:harmSt w0 g s W):harmSt w0 g s W':=by
 cases s with
 | none=>exact ⟨h.1,kb_ h.2 hb⟩
 | some ps =>
  obtain ⟨h0,a,c,h1,h2,h3⟩:=h
  exact ⟨h0,a,c,h1,kb_ h2 hb,Kd.R_below h3 hb⟩
theorem harmSt_in (w0:World) (g:Nat) (s:Option (List Int)) (W:World) (h:harmSt w0 g s W):g<W.heap.size:=by
 cases s with
 | none=>exact blk_lt h.2
 | some ps =>
  obtain ⟨h0,a,c,h1,h2,h3⟩:=h
  exact blk_lt h2
set_option maxHeartbeats 8000000 in
theorem harm_lit (w0:World) (g:Nat) (x:S44) (ps:List Int) (s:Option (List Int)) (A4:Option Addr) (c4:Nat) (A5:Option Addr) (c5:Nat) (ap:Addr) (n c:Nat) (W:World) (hn:n=ps.length) (hf:FitH x) (hr:Kd.C k75 w0 A4 x.f4.length x.f4) (hp:PathIs g W ps (.slice (some ap) n c)) (hB:Below w0.heap.size w0 W) (hs:harmSt w0 g s W) :
 Calls Try.prog 82 #[.agg #[.int .i64 x.f0,.int .i64 x.f1,.string x.f2,.string x.f3,.slice A4 x.f4.length c4,.slice A5 x.f5.length c5],.slice (some ap) n c,.pointer (some ⟨g,0,none⟩)] W fun e w'=>e=.returned (.tuple #[])∧harmSt w0 g (stepHP x ps s) w'∧Lib.OthersKept 23 (some g) W w'∧Below w0.heap.size w0 w':=by
 have hB1:=ba_ hB (.cells #[.int .i64 x.f0,.int .i64 x.f1,.string x.f2,.string x.f3,.slice A4 x.f4.length c4,.slice A5 x.f5.length c5] 44 (0,0))
 have hk1:Lib.OthersKept 23 (some g) W (W.alloc (.cells #[.int .i64 x.f0,.int .i64 x.f1,.string x.f2,.string x.f3,.slice A4 x.f4.length c4,.slice A5 x.f5.length c5] 44 (0,0))):=ok_below (ba_ (Below.refl _ _) _)
 have hg0:w0.heap.size≤g:=hs.1
 have hgl:=harmSt_in w0 g s W hs
 have hne:W.heap.size≠g:=by omega
 have hst:harmSt w0 g s (W.alloc (.cells #[.int .i64 x.f0,.int .i64 x.f1,.string x.f2,.string x.f3,.slice A4 x.f4.length c4,.slice A5 x.f5.length c5] 44 (0,0))):=harmSt_below w0 g s W _ (ba_ (Below.refl _ _) _) hs
 have b0:Aside0 ((W.alloc (.cells #[.int .i64 x.f0,.int .i64 x.f1,.string x.f2,.string x.f3,.slice A4 x.f4.length c4,.slice A5 x.f5.length c5] 44 (0,0))).cell? ⟨W.heap.size,0,none⟩=some (.int .i64 x.f0)):=⟨Mach.new_cell W _ _ 0 _ rfl⟩
 have b1:Aside0 ((W.alloc (.cells #[.int .i64 x.f0,.int .i64 x.f1,.string x.f2,.string x.f3,.slice A4 x.f4.length c4,.slice A5 x.f5.length c5] 44 (0,0))).cell? ⟨W.heap.size,1,none⟩=some (.int .i64 x.f1)):=⟨Mach.new_cell W _ _ 1 _ rfl⟩
 have b2:Aside0 ((W.alloc (.cells #[.int .i64 x.f0,.int .i64 x.f1,.string x.f2,.string x.f3,.slice A4 x.f4.length c4,.slice A5 x.f5.length c5] 44 (0,0))).cell? ⟨W.heap.size,2,none⟩=some (.string x.f2)):=⟨Mach.new_cell W _ _ 2 _ rfl⟩
 have b3:Aside0 ((W.alloc (.cells #[.int .i64 x.f0,.int .i64 x.f1,.string x.f2,.string x.f3,.slice A4 x.f4.length c4,.slice A5 x.f5.length c5] 44 (0,0))).cell? ⟨W.heap.size,3,none⟩=some (.string x.f3)):=⟨Mach.new_cell W _ _ 3 _ rfl⟩
 have b4:Aside0 ((W.alloc (.cells #[.int .i64 x.f0,.int .i64 x.f1,.string x.f2,.string x.f3,.slice A4 x.f4.length c4,.slice A5 x.f5.length c5] 44 (0,0))).cell? ⟨W.heap.size,4,none⟩=some (.slice A4 x.f4.length c4)):=⟨Mach.new_cell W _ _ 4 _ rfl⟩
 have b5:Aside0 ((W.alloc (.cells #[.int .i64 x.f0,.int .i64 x.f1,.string x.f2,.string x.f3,.slice A4 x.f4.length c4,.slice A5 x.f5.length c5] 44 (0,0))).cell? ⟨W.heap.size,5,none⟩=some (.slice A5 x.f5.length c5)):=⟨Mach.new_cell W _ _ 5 _ rfl⟩
 have QN:=A_ (nodeHarm x hf A4 c4 A5 c5 (W.alloc (.cells #[.int .i64 x.f0,.int .i64 x.f1,.string x.f2,.string x.f3,.slice A4 x.f4.length c4,.slice A5 x.f5.length c5] 44 (0,0))) (cb_ hr hB1))
 have HS:=A_ hst
 have HB:=A_ hB1
 have HK:=A_ hk1
 have HP:=A_ (hp.keepO (te:=23) (by decide) hk1)
 have HN:=A_ hn
 cases s with
 | some q =>
  obtain ⟨_,a,c9,hq1,hq2,hq3⟩:=hst
  have hnil:∀ w:World,(binOp .eql 23 (.slice (some a) q.length c9) (.slice none 0 0)).run Try.prog w=.ok (.bool false) w:=fun w=>nil_no w a q.length c9
  have hx0:(W.alloc (.cells #[.int .i64 x.f0,.int .i64 x.f1,.string x.f2,.string x.f3,.slice A4 x.f4.length c4,.slice A5 x.f5.length c5] 44 (0,0))).cell? ⟨g,0,none⟩=some (.slice (some a) q.length c9):=(bc_ hq2 0).trans rfl
  clear hB hs hr hf QN hp hn hq1 hq2 hq3 hB1 hk1 HP HN
  generalize x.f4.length=n4 at *
  generalize x.f5.length=n5 at *
  generalize q.length=nq at *
  go_enter Try.func82,Try.ntmps82
  go_wp2
  go_end0
  exact ⟨rfl,HS.out,HK.out,HB.out⟩
 | none =>
  have hnil:∀ w:World,(binOp .eql 23 (.slice none 0 0) (.slice none 0 0)).run Try.prog w=.ok (.bool true) w:=nil_yes
  have hx0:(W.alloc (.cells #[.int .i64 x.f0,.int .i64 x.f1,.string x.f2,.string x.f3,.slice A4 x.f4.length c4,.slice A5 x.f5.length c5] 44 (0,0))).cell? ⟨g,0,none⟩=some (.slice none 0 0):=(bc_ hst.2 0).trans rfl
  have HST:Aside0 (stepHP x ps none=if harmN x=true then some ps else none):=⟨rfl⟩
  rw [HST.out]
  clear hB hs hr hf hst hp hn hB1 hk1 HST
  generalize harmN x=bh at *
  generalize x.f4.length=n4 at *
  generalize x.f5.length=n5 at *
  cases bh with
  | false =>
   rw [if_neg Bool.false_ne_true]
   go_enter Try.func82,Try.ntmps82
   go_wp2_with (first|(go_at_call 83;(with_reducible refine QN.out.mono ?_);rintro e w1 ⟨rfl,hb1⟩;(have HS2:=A_ (harmSt_below w0 g _ _ _ hb1 HS.out));(have HK2:=A_ (HK.out.trans (ok_below hb1)));(have HB2:=A_ (HB.out.trans (hb1.mono HB.out.size)));clear hb1))
   go_end0
   exact ⟨rfl,HS2.out,HK2.out,HB2.out⟩
  | true =>
   rw [if_pos rfl]
   go_enter Try.func82,Try.ntmps82
   go_wp2_with (first|(go_at_call 83;(with_reducible refine QN.out.mono ?_);rintro e w1 ⟨rfl,hb1⟩;(have HS2:=A_ (harmSt_below w0 g _ _ _ hb1 HS.out));(have HK2:=A_ (HK.out.trans (ok_below hb1)));(have HB2:=A_ (HB.out.trans (hb1.mono HB.out.size)));(have HP2:=A_ (HP.out.keepO (te:=23) (by decide) (ok_below hb1)));(have HF2:=bf_ HS2.out.2 0);(have HX2:w1.cell? ⟨g,0,none⟩=some (.slice none 0 0):=(bc_ HS2.out.2 0).trans rfl);clear hb1))
   go_end0
   obtain rfl:=HN.out
   rcases HP2.out with ⟨h1,_⟩|⟨base,h1,h2,h3⟩
   ·cases h1
   ·exact ⟨rfl,⟨hg0,ap,c,h2,blk_set HS2.out.2 0 _,Kd.R_far (p:=⟨g,0,none⟩) (Kd.R_lower h1 (Nat.le_trans hg0 h3)) (fun k hk=>hk) _⟩,Lib.OthersKept.setCell HK2.out ⟨g,0,none⟩ rfl _,bs_ (j:=0) HB2.out hg0⟩
/-- What firstHarm hands back. -/
def harmRes (w:World) (base:Nat) (v:Value):Option (List Int)→Prop
 | none=>v=.slice none 0 0
 | some ps=>∃ a c,v=.slice (some a) ps.length c∧0<ps.length∧Kd.R (Kd.int .i64) 3 w base (fun _=>True) v ps
set_option maxHeartbeats 8000000 in
theorem impl_firstHarm.calls (A0:Option Addr) (c0:Nat) (l0:List S44) (w:World) (hr0:Kd.C k44 w A0 l0.length l0) (hd:∀ y∈l0,goodE FitH 10 y) :
 Calls Try.prog 53 #[.slice A0 l0.length c0] w fun e w'=>∃ v,e=.returned v∧harmRes w' w.heap.size v (eachP stepHP 10 l0 [] none)∧Below w.heap.size w w':=by
 have q:=each_holdsP 23 (by decide) (by decide) (fun s W=>harmSt w w.heap.size s W) (fun _=>True) FitH stepHP w w.heap.size 82 #[.pointer (some ⟨w.heap.size,0,none⟩)] (Mach.enters_of Try.func82 (by kernel_rfl) rfl) (harmSt_below w w.heap.size) (harmSt_in w w.heap.size) (fun _ _ _ _=>trivial)
  (fun x ps s A4 c4 A5 c5 ap n c W hn hP _ h4 _ _ hp hB hs _=>harm_lit w w.heap.size x ps s A4 c4 A5 c5 ap n c W hn hP h4 hp hB hs) 10 A0 c0 l0 [] (.slice none 0 0) none (w.alloc (.cells #[.slice none 0 0] 23)) (by decide) hd hr0 (.inl ⟨rfl,rfl⟩) (ba_ (Below.refl _ _) _) ⟨Nat.le_refl _,blk_new w _⟩ trivial
 have Q:=A_ q
 clear q hr0 hd
 generalize eachP stepHP 10 l0 [] none=R at *
 generalize l0.length=n0 at *
 cases R with
 | none =>
  go_enter Try.func53,Try.ntmps53
  go_wp2_with (go_at_call 35;(with_reducible refine Q.out.mono ?_);rintro e w' ⟨rfl,⟨_,hg⟩,_,hb⟩;(have hx:w'.cell? ⟨w.heap.size,0,none⟩=some (.slice none 0 0):=(bc_ hg 0).trans rfl);(have HB:=A_ hb);clear hg hb)
  go_ret
  exact ⟨_,rfl,rfl,HB.out⟩
 | some ps =>
  go_enter Try.func53,Try.ntmps53
  go_wp2_with (go_at_call 35;(with_reducible refine Q.out.mono ?_);rintro e w' ⟨rfl,⟨_,a,c,h0,hg,hR⟩,_,hb⟩;(have hx:w'.cell? ⟨w.heap.size,0,none⟩=some (.slice (some a) ps.length c):=(bc_ hg 0).trans rfl);(have HB:=A_ hb);(have HR:=A_ hR);(have H0:=A_ h0);clear hg hb hR h0)
  go_ret
  exact ⟨_,rfl,⟨a,c,rfl,H0.out,Kd.R_mono HR.out (fun _ _=>trivial)⟩,HB.out⟩
end Go.Proofs.Ytjlikemmhjclpaa.PFnExactClean
