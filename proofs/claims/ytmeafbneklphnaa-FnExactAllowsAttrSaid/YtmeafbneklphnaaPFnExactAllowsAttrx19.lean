/- By a program of this session, out of the kit's print and contracts made by hand: the machine side of a law; Lean checks it. No conditions. -/
import Derived.Test.YtmeafbneklphnaaPFnExactAllowsAttrx0
import Derived.Test.YtmeafbneklphnaaPFnExactAllowsAttrx2
import Derived.Test.YtmeafbneklphnaaPFnExactAllowsAttrx3
import Derived.Test.YtmeafbneklphnaaPFnExactAllowsAttrx12
import Derived.Test.YtmeafbneklphnaaPFnExactAllowsAttrx18
namespace Go.Proofs.Ytmeafbneklphnaa.PFnExactAllowsAttr
open Go.RowKit Go.Proofs.YtmeafbneklphnaaW.PrintWords Go.Proofs.YtmeafbneklphnaaW.PrintLast Go.Proofs.YtmeafbneklphnaaW.PrintMore
attribute [local go_sem] max2_int min2_int max_two min_two max_three min_three max_four min_four
set_option linter.unusedVariables false
set_option linter.unusedSimpArgs false
/-! ### laws_FnExactAllowsAttr: function 5 -/
def laws_FnExactAllowsAttr.j0:Nat→Bool→Bool→Bool→List (S94)→List (S94)→List (S94)→List ByteArray→List ByteArray→Bool→Bool→Bool→Bool→List (S56)→List (S56)→List (S56)→List ByteArray→List ByteArray→Bool→Bool→Option (Bool)
 | 0,_,_,_,_,_,_,_,_,_,_,_,_,_,_,_,_,_,_,_=>none
 | k+1,x56,x273000,x273001,x273002,x273003,x273004,x273005,x273006,x273007,x273008,x319000,x319001,x319002,x319003,x319004,x319005,x319006,x319007,x319008=>if x56=true then (some false) else ((laws_toConfig.f k x273000 x273001 x273002 x273003 x273004 x273005 x273006 x273007 x273008).bind fun bt323=>((laws_eqConfig.f k x319000 x319001 x319002 x319003 x319004 x319005 x319006 x319007 x319008 bt323.1 bt323.2.1 bt323.2.2.1 bt323.2.2.2.1 bt323.2.2.2.2.1 bt323.2.2.2.2.2.1 bt323.2.2.2.2.2.2.1 bt323.2.2.2.2.2.2.2.1 bt323.2.2.2.2.2.2.2.2).bind fun t342=>(if t342=true then (some true) else (some false))))
def laws_FnExactAllowsAttr.f (k:Nat) (a0_0:Bool) (a0_1:Bool) (l0_2:List (S94)) (l0_3:List (S94)) (l0_4:List (S94)) (l0_5:List ByteArray) (l0_6:List ByteArray) (a0_7:Bool) (a0_8:Bool) (a1:Int) (a2:ByteArray) (a3_0:ByteArray) (a3_1:ByteArray):Option (Bool):=if (a2.size:Int)>1048576 then (some true) else ((laws_szConfig.f k a0_0 a0_1 l0_2 l0_3 l0_4 l0_5 l0_6 a0_7 a0_8 1048576).bind fun t274=>(if t274<0 then (some true) else ((laws_szAttr.f a3_0 a3_1 t274).bind fun t275=>(if t275<0 then (some true) else ((laws_toConfig.f k a0_0 a0_1 l0_2 l0_3 l0_4 l0_5 l0_6 a0_7 a0_8).bind fun bt276=>((laws_toAttr.f a3_0 a3_1).bind fun bt295=>((spec_AllowsAttr.f k bt276.1 bt276.2.1 bt276.2.2.1 bt276.2.2.2.1 bt276.2.2.2.2.1 bt276.2.2.2.2.2.1 bt276.2.2.2.2.2.2.1 bt276.2.2.2.2.2.2.2.1 bt276.2.2.2.2.2.2.2.2 a1 a2 bt295.1 bt295.2).bind fun bt297=>((laws_toConfig.f k a0_0 a0_1 l0_2 l0_3 l0_4 l0_5 l0_6 a0_7 a0_8).bind fun bt299=>((laws_toAttr.f a3_0 a3_1).bind fun bt319=>((impl_AllowsAttr.f k bt299.1 bt299.2.1 bt299.2.2.1 bt299.2.2.2.1 bt299.2.2.2.2.1 bt299.2.2.2.2.2.1 bt299.2.2.2.2.2.2.1 bt299.2.2.2.2.2.2.2.1 bt299.2.2.2.2.2.2.2.2 a1 a2 bt319.1 bt319.2).bind fun bt321=>(if (bt321.1 != bt297.1)=true then (laws_FnExactAllowsAttr.j0 k true a0_0 a0_1 l0_2 l0_3 l0_4 l0_5 l0_6 a0_7 a0_8 bt299.1 bt299.2.1 bt299.2.2.1 bt299.2.2.2.1 bt299.2.2.2.2.1 bt299.2.2.2.2.2.1 bt299.2.2.2.2.2.2.1 bt299.2.2.2.2.2.2.2.1 bt299.2.2.2.2.2.2.2.2) else (laws_FnExactAllowsAttr.j0 k (bt321.2 != bt297.2) a0_0 a0_1 l0_2 l0_3 l0_4 l0_5 l0_6 a0_7 a0_8 bt299.1 bt299.2.1 bt299.2.2.1 bt299.2.2.2.1 bt299.2.2.2.2.1 bt299.2.2.2.2.2.1 bt299.2.2.2.2.2.2.1 bt299.2.2.2.2.2.2.2.1 bt299.2.2.2.2.2.2.2.2))))))))))))
theorem laws_FnExactAllowsAttr.mono_l:∀ k,(∀ y0 y1 y2 y3 y4 y5 y6 y7 y8 y9 y10 y11 y12 y13 y14 y15 y16 y17 y18,LeO (laws_FnExactAllowsAttr.j0 k y0 y1 y2 y3 y4 y5 y6 y7 y8 y9 y10 y11 y12 y13 y14 y15 y16 y17 y18) (laws_FnExactAllowsAttr.j0 (k+1) y0 y1 y2 y3 y4 y5 y6 y7 y8 y9 y10 y11 y12 y13 y14 y15 y16 y17 y18))
 | 0=>fun _ _ _ _ _ _ _ _ _ _ _ _ _ _ _ _ _ _ _ r h=>by simp [laws_FnExactAllowsAttr.j0] at h
 | k+1=>by
  have ih0:=laws_FnExactAllowsAttr.mono_l k
  ·intro y0 y1 y2 y3 y4 y5 y6 y7 y8 y9 y10 y11 y12 y13 y14 y15 y16 y17 y18
   unfold laws_FnExactAllowsAttr.j0
   repeat' first
   | (with_reducible exact ih0 _ _ _ _ _ _ _ _ _ _ _ _ _ _ _ _ _ _ _)
   | (with_reducible exact impl_AllowsAttr.mono _ _ _ _ _ _ _ _ _ _ _ _ _ _)
   | (with_reducible exact laws_eqConfig.mono _ _ _ _ _ _ _ _ _ _ _ _ _ _ _ _ _ _ _)
   | (with_reducible exact laws_szConfig.mono _ _ _ _ _ _ _ _ _ _ _)
   | (with_reducible exact laws_toConfig.mono _ _ _ _ _ _ _ _ _ _)
   | (with_reducible exact spec_AllowsAttr.mono _ _ _ _ _ _ _ _ _ _ _ _ _ _)
   | (with_reducible exact LeO.refl _)
   | (with_reducible exact LeO.none _)
   | (with_reducible refine LeO.ite ?_ ?_)
   | (with_reducible refine LeO.bind ?_ (fun _=>?_))
   | exact ih0 _ _ _ _ _ _ _ _ _ _ _ _ _ _ _ _ _ _ _
   | exact impl_AllowsAttr.mono _ _ _ _ _ _ _ _ _ _ _ _ _ _
   | exact laws_eqConfig.mono _ _ _ _ _ _ _ _ _ _ _ _ _ _ _ _ _ _ _
   | exact laws_szConfig.mono _ _ _ _ _ _ _ _ _ _ _
   | exact laws_toConfig.mono _ _ _ _ _ _ _ _ _ _
   | exact spec_AllowsAttr.mono _ _ _ _ _ _ _ _ _ _ _ _ _ _
   | exact LeO.none _
   | refine LeO.ite ?_ ?_
   | refine LeO.bind ?_ (fun _=>?_)
theorem laws_FnExactAllowsAttr.mono:∀ a0 a1 a2 a3 a4 a5 a6 a7 a8 a9 a10 a11 a12 k,LeO (laws_FnExactAllowsAttr.f k a0 a1 a2 a3 a4 a5 a6 a7 a8 a9 a10 a11 a12) (laws_FnExactAllowsAttr.f (k+1) a0 a1 a2 a3 a4 a5 a6 a7 a8 a9 a10 a11 a12):=by
 intro a0 a1 a2 a3 a4 a5 a6 a7 a8 a9 a10 a11 a12 k
 have ih0:=laws_FnExactAllowsAttr.mono_l k
 unfold laws_FnExactAllowsAttr.f
 repeat' first
  | (with_reducible exact ih0 _ _ _ _ _ _ _ _ _ _ _ _ _ _ _ _ _ _ _)
  | (with_reducible exact impl_AllowsAttr.mono _ _ _ _ _ _ _ _ _ _ _ _ _ _)
  | (with_reducible exact laws_eqConfig.mono _ _ _ _ _ _ _ _ _ _ _ _ _ _ _ _ _ _ _)
  | (with_reducible exact laws_szConfig.mono _ _ _ _ _ _ _ _ _ _ _)
  | (with_reducible exact laws_toConfig.mono _ _ _ _ _ _ _ _ _ _)
  | (with_reducible exact spec_AllowsAttr.mono _ _ _ _ _ _ _ _ _ _ _ _ _ _)
  | (with_reducible exact LeO.refl _)
  | (with_reducible exact LeO.none _)
  | (with_reducible refine LeO.ite ?_ ?_)
  | (with_reducible refine LeO.bind ?_ (fun _=>?_))
  | exact ih0 _ _ _ _ _ _ _ _ _ _ _ _ _ _ _ _ _ _ _
  | exact impl_AllowsAttr.mono _ _ _ _ _ _ _ _ _ _ _ _ _ _
  | exact laws_eqConfig.mono _ _ _ _ _ _ _ _ _ _ _ _ _ _ _ _ _ _ _
  | exact laws_szConfig.mono _ _ _ _ _ _ _ _ _ _ _
  | exact laws_toConfig.mono _ _ _ _ _ _ _ _ _ _
  | exact spec_AllowsAttr.mono _ _ _ _ _ _ _ _ _ _ _ _ _ _
  | exact LeO.none _
  | refine LeO.ite ?_ ?_
  | refine LeO.bind ?_ (fun _=>?_)
def laws_FnExactAllowsAttr.T10:Bool × List (List Nat × List Nat):=(true,[([],[]),([0],[0]),([],[]),([],[]),([],[]),([4,1],[4]),([1,2,3,5,5],[1,2,3,5]),([6],[6]),([7],[7]),([7],[7]),([8,6,0,1,2,3,4,5,6,7,8],[8]),([9,10,0,1,2,3,4,5,6,7,8,9,10],[9])])
def laws_FnExactAllowsAttr.B10:List Nat:=[0,1,0,0,0,19,63,127,255,255,511,2047]
theorem laws_FnExactAllowsAttr.tab10:rtab .any (opsOf Try.f5 10)=laws_FnExactAllowsAttr.T10:=by kernel_rfl
theorem laws_FnExactAllowsAttr.bits10:waitsOk laws_FnExactAllowsAttr.T10.2 laws_FnExactAllowsAttr.B10=true:=by kernel_rfl
def laws_FnExactAllowsAttr.T12:Bool × List (List Nat × List Nat):=(true,[([],[]),([],[]),([],[]),([],[]),([3],[3]),([0,1,2,4,4],[0,1,2,4]),([5],[5]),([6],[6]),([6],[6]),([7,5,0,1,2,3,4,5,6,7],[7]),([8,9,0,1,2,3,4,5,6,7,8,9],[8])])
def laws_FnExactAllowsAttr.B12:List Nat:=[0,0,0,0,8,31,63,127,127,255,1023]
theorem laws_FnExactAllowsAttr.tab12:rtab .any (opsOf Try.f5 12)=laws_FnExactAllowsAttr.T12:=by kernel_rfl
theorem laws_FnExactAllowsAttr.bits12:waitsOk laws_FnExactAllowsAttr.T12.2 laws_FnExactAllowsAttr.B12=true:=by kernel_rfl
set_option maxHeartbeats 8000000 in
set_option maxRecDepth 100000 in
theorem laws_FnExactAllowsAttr.calls (k:Nat) (a0_0:Bool) (a0_1:Bool) (A0_2:Option Addr) (c0_2:Nat) (l0_2:List (S94)) (A0_3:Option Addr) (c0_3:Nat) (l0_3:List (S94)) (A0_4:Option Addr) (c0_4:Nat) (l0_4:List (S94)) (A0_5:Option Addr) (c0_5:Nat) (l0_5:List ByteArray) (A0_6:Option Addr) (c0_6:Nat) (l0_6:List ByteArray) (a0_7:Bool) (a0_8:Bool) (a1:Int) (a2:ByteArray) (a3_0:ByteArray) (a3_1:ByteArray) (r:Bool) (w:World) (hr0_2:Kd.C k94 w A0_2 l0_2.length l0_2) (hc0_2:l0_2.length≤c0_2) (hr0_3:Kd.C k94 w A0_3 l0_3.length l0_3) (hc0_3:l0_3.length≤c0_3) (hr0_4:Kd.C k94 w A0_4 l0_4.length l0_4) (hc0_4:l0_4.length≤c0_4) (hr0_5:Kd.C Kd.string w A0_5 l0_5.length l0_5) (hc0_5:l0_5.length≤c0_5) (hr0_6:Kd.C Kd.string w A0_6 l0_6.length l0_6) (hc0_6:l0_6.length≤c0_6) (h:laws_FnExactAllowsAttr.f k a0_0 a0_1 l0_2 l0_3 l0_4 l0_5 l0_6 a0_7 a0_8 a1 a2 a3_0 a3_1=some r) (HRT:Aside0 (r=true)) :
 Calls Try.prog 5 #[.agg #[.bool a0_0,.bool a0_1,.slice A0_2 l0_2.length c0_2,.slice A0_3 l0_3.length c0_3,.slice A0_4 l0_4.length c0_4,.slice A0_5 l0_5.length c0_5,.slice A0_6 l0_6.length c0_6,.bool a0_7,.bool a0_8],.int .i64 a1,.string a2,.agg #[.string a3_0,.string a3_1]] w fun e w'=>e=.returned (.bool r)∧Below w.heap.size w w':=by
 have hu43:=Try.underlying43
 have hu45:=Try.underlying45
 have hu25:=Try.underlying25
 have HR0_2:=A_ hr0_2
 have HC0_2:=A_ hc0_2
 clear hr0_2 hc0_2
 have HR0_3:=A_ hr0_3
 have HC0_3:=A_ hc0_3
 clear hr0_3 hc0_3
 have HR0_4:=A_ hr0_4
 have HC0_4:=A_ hc0_4
 clear hr0_4 hc0_4
 have HR0_5:=A_ hr0_5
 have HC0_5:=A_ hc0_5
 clear hr0_5 hc0_5
 have HR0_6:=A_ hr0_6
 have HC0_6:=A_ hc0_6
 clear hr0_6 hc0_6
 have HB:=A_ (Below.refl w.heap.size w)
 have H:(if (a2.size:Int)>1048576 then (some true) else ((laws_szConfig.f k a0_0 a0_1 l0_2 l0_3 l0_4 l0_5 l0_6 a0_7 a0_8 1048576).bind fun t274=>(if t274<0 then (some true) else ((laws_szAttr.f a3_0 a3_1 t274).bind fun t275=>(if t275<0 then (some true) else ((laws_toConfig.f k a0_0 a0_1 l0_2 l0_3 l0_4 l0_5 l0_6 a0_7 a0_8).bind fun bt276=>((laws_toAttr.f a3_0 a3_1).bind fun bt295=>((spec_AllowsAttr.f k bt276.1 bt276.2.1 bt276.2.2.1 bt276.2.2.2.1 bt276.2.2.2.2.1 bt276.2.2.2.2.2.1 bt276.2.2.2.2.2.2.1 bt276.2.2.2.2.2.2.2.1 bt276.2.2.2.2.2.2.2.2 a1 a2 bt295.1 bt295.2).bind fun bt297=>((laws_toConfig.f k a0_0 a0_1 l0_2 l0_3 l0_4 l0_5 l0_6 a0_7 a0_8).bind fun bt299=>((laws_toAttr.f a3_0 a3_1).bind fun bt319=>((impl_AllowsAttr.f k bt299.1 bt299.2.1 bt299.2.2.1 bt299.2.2.2.1 bt299.2.2.2.2.1 bt299.2.2.2.2.2.1 bt299.2.2.2.2.2.2.1 bt299.2.2.2.2.2.2.2.1 bt299.2.2.2.2.2.2.2.2 a1 a2 bt319.1 bt319.2).bind fun bt321=>(if (bt321.1 != bt297.1)=true then (laws_FnExactAllowsAttr.j0 k true a0_0 a0_1 l0_2 l0_3 l0_4 l0_5 l0_6 a0_7 a0_8 bt299.1 bt299.2.1 bt299.2.2.1 bt299.2.2.2.1 bt299.2.2.2.2.1 bt299.2.2.2.2.2.1 bt299.2.2.2.2.2.2.1 bt299.2.2.2.2.2.2.2.1 bt299.2.2.2.2.2.2.2.2) else (laws_FnExactAllowsAttr.j0 k (bt321.2 != bt297.2) a0_0 a0_1 l0_2 l0_3 l0_4 l0_5 l0_6 a0_7 a0_8 bt299.1 bt299.2.1 bt299.2.2.1 bt299.2.2.2.1 bt299.2.2.2.2.1 bt299.2.2.2.2.2.1 bt299.2.2.2.2.2.2.1 bt299.2.2.2.2.2.2.2.1 bt299.2.2.2.2.2.2.2.2)))))))))))))=some r:=h
 clear h
 by_cases c5:(a2.size:Int)>1048576
 ·rw [if_pos c5] at H
  have c5b0:decide (1048576<(a2.size:Int))=true:=dt_ c5
  have c5b1:decide (1048576<a2.size)=true:=dt_ (by omega)
  clear c5
  obtain rfl:=oi_ H
  go_enter Try.func5,Try.ntmps5
  go_wp2_with (first|((with_reducible refine gate_dst (N:=4) rfl ?_);refine box_event ?hg (N:=4) ?hd (cs:=#[.bool a0_0,.bool a0_1,.slice A0_2 l0_2.length c0_2,.slice A0_3 l0_3.length c0_3,.slice A0_4 l0_4.length c0_4,.slice A0_5 l0_5.length c0_5,.slice A0_6 l0_6.length c0_6,.bool a0_7,.bool a0_8]) (t:=43) ?hr ?_;(case hd=>rfl);(case hg=>rfl);(case hr=>first|(go_simp;done)|(go_simp;rfl)|(first|(go_simp;done)|(go_simp;rfl)));intro gb272 hg w6 hbox hb;have n0_:=A_ (bp_ (by repeat (first|(with_reducible first|exact HB.out|apply ba_|apply pd_|apply b1_)|exact HB.out)) hb);have n1_:=A_ (hbox);have n2_:=A_ ((by rw [hg];exact (bz_ (by repeat (first|(with_reducible first|exact HB.out|apply ba_|apply pd_|apply b1_)|exact HB.out))):w.heap.size≤gb272));have n3_:=A_ ((by rw [hg];exact (bz_ (by repeat (first|(with_reducible first|exact HB.out|apply ba_|apply pd_|apply b1_)|exact HB.out))):w.heap.size≤gb272));clear HB;have HB:=n0_;have BK272:=n1_;have GW272:=n2_;have GE272:=n3_;clear n0_ n1_ n2_ n3_;clear hb hbox hg)|((with_reducible refine gate_dst (N:=7) rfl ?_);refine box_event ?hg (N:=7) ?hd (cs:=#[.string a3_0,.string a3_1]) (t:=45) ?hr ?_;(case hd=>rfl);(case hg=>rfl);(case hr=>first|(go_simp;done)|(go_simp;rfl)|(first|(go_simp;done)|(go_simp;rfl)));intro gb273 hg w7 hbox hb;have n0_:=A_ (kb_ (g:=gb272) (o:=.cells #[.bool a0_0,.bool a0_1,.slice A0_2 l0_2.length c0_2,.slice A0_3 l0_3.length c0_3,.slice A0_4 l0_4.length c0_4,.slice A0_5 l0_5.length c0_5,.slice A0_6 l0_6.length c0_6,.bool a0_7,.bool a0_8] 43 (0,0)) (by (with_reducible repeat (first|refine kn_ ?_ _|refine kd_ ?_|refine ka_ ?_ _));exact BK272.out) hb);have n1_:=A_ (bp_ (by repeat (first|(with_reducible first|exact HB.out|apply ba_|apply pd_|apply b1_|refine bs_ ?_ GE272.out)|exact HB.out)) hb);have n2_:=A_ (hbox);have n3_:=A_ ((by rw [hg];exact (bz_ (by repeat (first|(with_reducible first|exact HB.out|apply ba_|apply pd_|apply b1_|refine bs_ ?_ GE272.out)|exact HB.out))):w.heap.size≤gb273));have n4_:=A_ ((by rw [hg];exact (bz_ (by repeat (first|(with_reducible first|exact HB.out|apply ba_|apply pd_|apply b1_|refine bs_ ?_ GE272.out)|exact HB.out))):w.heap.size≤gb273));have n5_:=A_ ((by rw [hg];exact Nat.ne_of_lt (blk_lt (g:=gb272) (o:=.cells #[.bool a0_0,.bool a0_1,.slice A0_2 l0_2.length c0_2,.slice A0_3 l0_3.length c0_3,.slice A0_4 l0_4.length c0_4,.slice A0_5 l0_5.length c0_5,.slice A0_6 l0_6.length c0_6,.bool a0_7,.bool a0_8] 43 (0,0)) (by (with_reducible repeat (first|refine kn_ ?_ _|refine kd_ ?_|refine ka_ ?_ _));exact BK272.out)):gb272≠gb273));have n6_:=A_ ((by rw [hg];exact Nat.ne_of_gt (blk_lt (g:=gb272) (o:=.cells #[.bool a0_0,.bool a0_1,.slice A0_2 l0_2.length c0_2,.slice A0_3 l0_3.length c0_3,.slice A0_4 l0_4.length c0_4,.slice A0_5 l0_5.length c0_5,.slice A0_6 l0_6.length c0_6,.bool a0_7,.bool a0_8] 43 (0,0)) (by (with_reducible repeat (first|refine kn_ ?_ _|refine kd_ ?_|refine ka_ ?_ _));exact BK272.out)):gb273≠gb272));clear BK272;clear HB;have BK272:=n0_;have HB:=n1_;have BK273:=n2_;have GW273:=n3_;have GE273:=n4_;have NB272_273:=n5_;have NB273_272:=n6_;clear n0_ n1_ n2_ n3_ n4_ n5_ n6_;clear hb hbox hg))
  go_ret
  exact ⟨by first|rfl|(simp [errW_none,errW_some] <;> rfl)|(simp [*,errW_none,errW_some] <;> rfl),by repeat (first|(with_reducible first|exact HB.out|apply ba_|apply pd_|apply b1_|refine bs_ ?_ GE272.out|refine bs_ ?_ GE273.out)|exact HB.out)⟩
 ·rw [if_neg c5] at H
  have c5b0:decide (1048576<(a2.size:Int))=false:=df_ c5
  have c5b1:decide (1048576<a2.size)=false:=df_ (by omega)
  clear c5
  replace H:=ob_ H
  obtain ⟨t274,A80,H⟩:=H
  replace H:(if t274<0 then (some true) else ((laws_szAttr.f a3_0 a3_1 t274).bind fun t275=>(if t275<0 then (some true) else ((laws_toConfig.f k a0_0 a0_1 l0_2 l0_3 l0_4 l0_5 l0_6 a0_7 a0_8).bind fun bt276=>((laws_toAttr.f a3_0 a3_1).bind fun bt295=>((spec_AllowsAttr.f k bt276.1 bt276.2.1 bt276.2.2.1 bt276.2.2.2.1 bt276.2.2.2.2.1 bt276.2.2.2.2.2.1 bt276.2.2.2.2.2.2.1 bt276.2.2.2.2.2.2.2.1 bt276.2.2.2.2.2.2.2.2 a1 a2 bt295.1 bt295.2).bind fun bt297=>((laws_toConfig.f k a0_0 a0_1 l0_2 l0_3 l0_4 l0_5 l0_6 a0_7 a0_8).bind fun bt299=>((laws_toAttr.f a3_0 a3_1).bind fun bt319=>((impl_AllowsAttr.f k bt299.1 bt299.2.1 bt299.2.2.1 bt299.2.2.2.1 bt299.2.2.2.2.1 bt299.2.2.2.2.2.1 bt299.2.2.2.2.2.2.1 bt299.2.2.2.2.2.2.2.1 bt299.2.2.2.2.2.2.2.2 a1 a2 bt319.1 bt319.2).bind fun bt321=>(if (bt321.1 != bt297.1)=true then (laws_FnExactAllowsAttr.j0 k true a0_0 a0_1 l0_2 l0_3 l0_4 l0_5 l0_6 a0_7 a0_8 bt299.1 bt299.2.1 bt299.2.2.1 bt299.2.2.2.1 bt299.2.2.2.2.1 bt299.2.2.2.2.2.1 bt299.2.2.2.2.2.2.1 bt299.2.2.2.2.2.2.2.1 bt299.2.2.2.2.2.2.2.2) else (laws_FnExactAllowsAttr.j0 k (bt321.2 != bt297.2) a0_0 a0_1 l0_2 l0_3 l0_4 l0_5 l0_6 a0_7 a0_8 bt299.1 bt299.2.1 bt299.2.2.1 bt299.2.2.2.1 bt299.2.2.2.2.1 bt299.2.2.2.2.2.1 bt299.2.2.2.2.2.2.1 bt299.2.2.2.2.2.2.2.1 bt299.2.2.2.2.2.2.2.2)))))))))))=some r:=H
  have A8:=A_ A80
  clear A80
  by_cases c9:t274<0
  ·rw [if_pos c9] at H
   have c9b0:decide (t274<0)=true:=dt_ c9
   clear c9
   obtain rfl:=oi_ H
   go_enter Try.func5,Try.ntmps5
   go_wp2_with (first|((with_reducible refine gate_dst (N:=4) rfl ?_);refine box_event ?hg (N:=4) ?hd (cs:=#[.bool a0_0,.bool a0_1,.slice A0_2 l0_2.length c0_2,.slice A0_3 l0_3.length c0_3,.slice A0_4 l0_4.length c0_4,.slice A0_5 l0_5.length c0_5,.slice A0_6 l0_6.length c0_6,.bool a0_7,.bool a0_8]) (t:=43) ?hr ?_;(case hd=>rfl);(case hg=>rfl);(case hr=>first|(go_simp;done)|(go_simp;rfl)|(first|(go_simp;done)|(go_simp;rfl)));intro gb272 hg w10 hbox hb;have n0_:=A_ (bp_ (by repeat (first|(with_reducible first|exact HB.out|apply ba_|apply pd_|apply b1_)|exact HB.out)) hb);have n1_:=A_ (hbox);have n2_:=A_ ((by rw [hg];exact (bz_ (by repeat (first|(with_reducible first|exact HB.out|apply ba_|apply pd_|apply b1_)|exact HB.out))):w.heap.size≤gb272));have n3_:=A_ ((by rw [hg];exact (bz_ (by repeat (first|(with_reducible first|exact HB.out|apply ba_|apply pd_|apply b1_)|exact HB.out))):w.heap.size≤gb272));clear HB;have HB:=n0_;have BK272:=n1_;have GW272:=n2_;have GE272:=n3_;clear n0_ n1_ n2_ n3_;clear hb hbox hg)|((with_reducible refine gate_dst (N:=7) rfl ?_);refine box_event ?hg (N:=7) ?hd (cs:=#[.string a3_0,.string a3_1]) (t:=45) ?hr ?_;(case hd=>rfl);(case hg=>rfl);(case hr=>first|(go_simp;done)|(go_simp;rfl)|(first|(go_simp;done)|(go_simp;rfl)));intro gb273 hg w11 hbox hb;have n0_:=A_ (kb_ (g:=gb272) (o:=.cells #[.bool a0_0,.bool a0_1,.slice A0_2 l0_2.length c0_2,.slice A0_3 l0_3.length c0_3,.slice A0_4 l0_4.length c0_4,.slice A0_5 l0_5.length c0_5,.slice A0_6 l0_6.length c0_6,.bool a0_7,.bool a0_8] 43 (0,0)) (by (with_reducible repeat (first|refine kn_ ?_ _|refine kd_ ?_|refine ka_ ?_ _));exact BK272.out) hb);have n1_:=A_ (bp_ (by repeat (first|(with_reducible first|exact HB.out|apply ba_|apply pd_|apply b1_|refine bs_ ?_ GE272.out)|exact HB.out)) hb);have n2_:=A_ (hbox);have n3_:=A_ ((by rw [hg];exact (bz_ (by repeat (first|(with_reducible first|exact HB.out|apply ba_|apply pd_|apply b1_|refine bs_ ?_ GE272.out)|exact HB.out))):w.heap.size≤gb273));have n4_:=A_ ((by rw [hg];exact (bz_ (by repeat (first|(with_reducible first|exact HB.out|apply ba_|apply pd_|apply b1_|refine bs_ ?_ GE272.out)|exact HB.out))):w.heap.size≤gb273));have n5_:=A_ ((by rw [hg];exact Nat.ne_of_lt (blk_lt (g:=gb272) (o:=.cells #[.bool a0_0,.bool a0_1,.slice A0_2 l0_2.length c0_2,.slice A0_3 l0_3.length c0_3,.slice A0_4 l0_4.length c0_4,.slice A0_5 l0_5.length c0_5,.slice A0_6 l0_6.length c0_6,.bool a0_7,.bool a0_8] 43 (0,0)) (by (with_reducible repeat (first|refine kn_ ?_ _|refine kd_ ?_|refine ka_ ?_ _));exact BK272.out)):gb272≠gb273));have n6_:=A_ ((by rw [hg];exact Nat.ne_of_gt (blk_lt (g:=gb272) (o:=.cells #[.bool a0_0,.bool a0_1,.slice A0_2 l0_2.length c0_2,.slice A0_3 l0_3.length c0_3,.slice A0_4 l0_4.length c0_4,.slice A0_5 l0_5.length c0_5,.slice A0_6 l0_6.length c0_6,.bool a0_7,.bool a0_8] 43 (0,0)) (by (with_reducible repeat (first|refine kn_ ?_ _|refine kd_ ?_|refine ka_ ?_ _));exact BK272.out)):gb273≠gb272));clear BK272;clear HB;have BK272:=n0_;have HB:=n1_;have BK273:=n2_;have GW273:=n3_;have GE273:=n4_;have NB272_273:=n5_;have NB273_272:=n6_;clear n0_ n1_ n2_ n3_ n4_ n5_ n6_;clear hb hbox hg;have hnb12:=NB272_273.out;have hnc12:=NB273_272.out;have hcz13_0:w11.cell? ⟨gb272,0,none⟩=some (.bool a0_0):=(bc_ BK272.out 0).trans rfl;have hcz13_1:w11.cell? ⟨gb272,1,none⟩=some (.bool a0_1):=(bc_ BK272.out 1).trans rfl;have hcz13_2:w11.cell? ⟨gb272,2,none⟩=some (.slice A0_2 l0_2.length c0_2):=(bc_ BK272.out 2).trans rfl;have hcz13_3:w11.cell? ⟨gb272,3,none⟩=some (.slice A0_3 l0_3.length c0_3):=(bc_ BK272.out 3).trans rfl;have hcz13_4:w11.cell? ⟨gb272,4,none⟩=some (.slice A0_4 l0_4.length c0_4):=(bc_ BK272.out 4).trans rfl;have hcz13_5:w11.cell? ⟨gb272,5,none⟩=some (.slice A0_5 l0_5.length c0_5):=(bc_ BK272.out 5).trans rfl;have hcz13_6:w11.cell? ⟨gb272,6,none⟩=some (.slice A0_6 l0_6.length c0_6):=(bc_ BK272.out 6).trans rfl;have hcz13_7:w11.cell? ⟨gb272,7,none⟩=some (.bool a0_7):=(bc_ BK272.out 7).trans rfl;have hcz13_8:w11.cell? ⟨gb272,8,none⟩=some (.bool a0_8):=(bc_ BK272.out 8).trans rfl;have hfz13_0:=bf_ BK272.out 0;have hfz13_1:=bf_ BK272.out 1;have hfz13_2:=bf_ BK272.out 2;have hfz13_3:=bf_ BK272.out 3;have hfz13_4:=bf_ BK272.out 4;have hfz13_5:=bf_ BK272.out 5;have hfz13_6:=bf_ BK272.out 6;have hfz13_7:=bf_ BK272.out 7;have hfz13_8:=bf_ BK272.out 8)|((with_reducible refine gate_callee (f:=19) rfl ?_);refine goesL_ (some 20) rfl rfl Try.func19 (by kernel_rfl) rfl #[.agg #[.bool a0_0,.bool a0_1,.slice A0_2 l0_2.length c0_2,.slice A0_3 l0_3.length c0_3,.slice A0_4 l0_4.length c0_4,.slice A0_5 l0_5.length c0_5,.slice A0_6 l0_6.length c0_6,.bool a0_7,.bool a0_8],.int .i64 1048576] rfl (by (try simp only [List.map_toArray,List.map_cons,List.map_nil]);first|done|rfl|(simp only [ld_,lt_];rfl)) ?_;(with_reducible refine (laws_szConfig.calls k a0_0 a0_1 _ _ l0_2 _ _ l0_3 _ _ l0_4 _ _ l0_5 _ _ l0_6 a0_7 a0_8 1048576 t274 _ ?side1 ?side2 ?side3 ?side4 ?side5 ?side6 ?side7 ?side8 ?side9 ?side10 A8.out).mono ?_);(case side1=>repeat (first|exact (cb_ HR0_2.out HB.out)|(with_reducible refine ca_ ?_ _)|(with_reducible refine cn_ ?_ _)|(with_reducible refine cd_ ?_)));(case side2=>exact HC0_2.out);(case side3=>repeat (first|exact (cb_ HR0_3.out HB.out)|(with_reducible refine ca_ ?_ _)|(with_reducible refine cn_ ?_ _)|(with_reducible refine cd_ ?_)));(case side4=>exact HC0_3.out);(case side5=>repeat (first|exact (cb_ HR0_4.out HB.out)|(with_reducible refine ca_ ?_ _)|(with_reducible refine cn_ ?_ _)|(with_reducible refine cd_ ?_)));(case side6=>exact HC0_4.out);(case side7=>repeat (first|exact (cb_ HR0_5.out HB.out)|(with_reducible refine ca_ ?_ _)|(with_reducible refine cn_ ?_ _)|(with_reducible refine cd_ ?_)));(case side8=>exact HC0_5.out);(case side9=>repeat (first|exact (cb_ HR0_6.out HB.out)|(with_reducible refine ca_ ?_ _)|(with_reducible refine cn_ ?_ _)|(with_reducible refine cd_ ?_)));(case side10=>exact HC0_6.out);rintro e w14 ⟨rfl,hb⟩;refine ⟨_,rfl,?_⟩;have n0_:=A_ (kb_ (g:=gb272) (o:=.cells #[.bool a0_0,.bool a0_1,.slice A0_2 l0_2.length c0_2,.slice A0_3 l0_3.length c0_3,.slice A0_4 l0_4.length c0_4,.slice A0_5 l0_5.length c0_5,.slice A0_6 l0_6.length c0_6,.bool a0_7,.bool a0_8] 43 (0,0)) (by (with_reducible repeat (first|refine kn_ ?_ _|refine kd_ ?_|refine ka_ ?_ _));exact BK272.out) hb);have n1_:=A_ (kb_ (g:=gb273) (o:=.cells #[.string a3_0,.string a3_1] 45 (0,0)) (by (with_reducible repeat (first|refine kn_ ?_ _|refine kd_ ?_|refine ka_ ?_ _));exact BK273.out) hb);have n2_:=A_ (bp_ (by repeat (first|(with_reducible first|exact HB.out|apply ba_|apply pd_|apply b1_|refine bs_ ?_ GE272.out|refine bs_ ?_ GE273.out)|exact HB.out)) hb);clear BK272;clear BK273;clear HB;have BK272:=n0_;have BK273:=n1_;have HB:=n2_;clear n0_ n1_ n2_;(try clear hb);(try clear hb2);(try clear hk);(try clear hi)))
   go_ret
   exact ⟨by first|rfl|(simp [errW_none,errW_some] <;> rfl)|(simp [*,errW_none,errW_some] <;> rfl),by repeat (first|(with_reducible first|exact HB.out|apply ba_|apply pd_|apply b1_|refine bs_ ?_ GE272.out|refine bs_ ?_ GE273.out)|exact HB.out)⟩
  ·rw [if_neg c9] at H
   have c9b0:decide (t274<0)=false:=df_ c9
   clear c9
   replace H:=ob_ H
   obtain ⟨t275,A150,H⟩:=H
   replace H:(if t275<0 then (some true) else ((laws_toConfig.f k a0_0 a0_1 l0_2 l0_3 l0_4 l0_5 l0_6 a0_7 a0_8).bind fun bt276=>((laws_toAttr.f a3_0 a3_1).bind fun bt295=>((spec_AllowsAttr.f k bt276.1 bt276.2.1 bt276.2.2.1 bt276.2.2.2.1 bt276.2.2.2.2.1 bt276.2.2.2.2.2.1 bt276.2.2.2.2.2.2.1 bt276.2.2.2.2.2.2.2.1 bt276.2.2.2.2.2.2.2.2 a1 a2 bt295.1 bt295.2).bind fun bt297=>((laws_toConfig.f k a0_0 a0_1 l0_2 l0_3 l0_4 l0_5 l0_6 a0_7 a0_8).bind fun bt299=>((laws_toAttr.f a3_0 a3_1).bind fun bt319=>((impl_AllowsAttr.f k bt299.1 bt299.2.1 bt299.2.2.1 bt299.2.2.2.1 bt299.2.2.2.2.1 bt299.2.2.2.2.2.1 bt299.2.2.2.2.2.2.1 bt299.2.2.2.2.2.2.2.1 bt299.2.2.2.2.2.2.2.2 a1 a2 bt319.1 bt319.2).bind fun bt321=>(if (bt321.1 != bt297.1)=true then (laws_FnExactAllowsAttr.j0 k true a0_0 a0_1 l0_2 l0_3 l0_4 l0_5 l0_6 a0_7 a0_8 bt299.1 bt299.2.1 bt299.2.2.1 bt299.2.2.2.1 bt299.2.2.2.2.1 bt299.2.2.2.2.2.1 bt299.2.2.2.2.2.2.1 bt299.2.2.2.2.2.2.2.1 bt299.2.2.2.2.2.2.2.2) else (laws_FnExactAllowsAttr.j0 k (bt321.2 != bt297.2) a0_0 a0_1 l0_2 l0_3 l0_4 l0_5 l0_6 a0_7 a0_8 bt299.1 bt299.2.1 bt299.2.2.1 bt299.2.2.2.1 bt299.2.2.2.2.1 bt299.2.2.2.2.2.1 bt299.2.2.2.2.2.2.1 bt299.2.2.2.2.2.2.2.1 bt299.2.2.2.2.2.2.2.2)))))))))=some r:=H
   have A15:=A_ A150
   clear A150
   by_cases c16:t275<0
   ·rw [if_pos c16] at H
    have c16b0:decide (t275<0)=true:=dt_ c16
    clear c16
    obtain rfl:=oi_ H
    go_enter Try.func5,Try.ntmps5
    go_wp2_with (first|((with_reducible refine gate_dst (N:=4) rfl ?_);refine box_event ?hg (N:=4) ?hd (cs:=#[.bool a0_0,.bool a0_1,.slice A0_2 l0_2.length c0_2,.slice A0_3 l0_3.length c0_3,.slice A0_4 l0_4.length c0_4,.slice A0_5 l0_5.length c0_5,.slice A0_6 l0_6.length c0_6,.bool a0_7,.bool a0_8]) (t:=43) ?hr ?_;(case hd=>rfl);(case hg=>rfl);(case hr=>first|(go_simp;done)|(go_simp;rfl)|(first|(go_simp;done)|(go_simp;rfl)));intro gb272 hg w17 hbox hb;have n0_:=A_ (bp_ (by repeat (first|(with_reducible first|exact HB.out|apply ba_|apply pd_|apply b1_)|exact HB.out)) hb);have n1_:=A_ (hbox);have n2_:=A_ ((by rw [hg];exact (bz_ (by repeat (first|(with_reducible first|exact HB.out|apply ba_|apply pd_|apply b1_)|exact HB.out))):w.heap.size≤gb272));have n3_:=A_ ((by rw [hg];exact (bz_ (by repeat (first|(with_reducible first|exact HB.out|apply ba_|apply pd_|apply b1_)|exact HB.out))):w.heap.size≤gb272));clear HB;have HB:=n0_;have BK272:=n1_;have GW272:=n2_;have GE272:=n3_;clear n0_ n1_ n2_ n3_;clear hb hbox hg)|((with_reducible refine gate_dst (N:=7) rfl ?_);refine box_event ?hg (N:=7) ?hd (cs:=#[.string a3_0,.string a3_1]) (t:=45) ?hr ?_;(case hd=>rfl);(case hg=>rfl);(case hr=>first|(go_simp;done)|(go_simp;rfl)|(first|(go_simp;done)|(go_simp;rfl)));intro gb273 hg w18 hbox hb;have n0_:=A_ (kb_ (g:=gb272) (o:=.cells #[.bool a0_0,.bool a0_1,.slice A0_2 l0_2.length c0_2,.slice A0_3 l0_3.length c0_3,.slice A0_4 l0_4.length c0_4,.slice A0_5 l0_5.length c0_5,.slice A0_6 l0_6.length c0_6,.bool a0_7,.bool a0_8] 43 (0,0)) (by (with_reducible repeat (first|refine kn_ ?_ _|refine kd_ ?_|refine ka_ ?_ _));exact BK272.out) hb);have n1_:=A_ (bp_ (by repeat (first|(with_reducible first|exact HB.out|apply ba_|apply pd_|apply b1_|refine bs_ ?_ GE272.out)|exact HB.out)) hb);have n2_:=A_ (hbox);have n3_:=A_ ((by rw [hg];exact (bz_ (by repeat (first|(with_reducible first|exact HB.out|apply ba_|apply pd_|apply b1_|refine bs_ ?_ GE272.out)|exact HB.out))):w.heap.size≤gb273));have n4_:=A_ ((by rw [hg];exact (bz_ (by repeat (first|(with_reducible first|exact HB.out|apply ba_|apply pd_|apply b1_|refine bs_ ?_ GE272.out)|exact HB.out))):w.heap.size≤gb273));have n5_:=A_ ((by rw [hg];exact Nat.ne_of_lt (blk_lt (g:=gb272) (o:=.cells #[.bool a0_0,.bool a0_1,.slice A0_2 l0_2.length c0_2,.slice A0_3 l0_3.length c0_3,.slice A0_4 l0_4.length c0_4,.slice A0_5 l0_5.length c0_5,.slice A0_6 l0_6.length c0_6,.bool a0_7,.bool a0_8] 43 (0,0)) (by (with_reducible repeat (first|refine kn_ ?_ _|refine kd_ ?_|refine ka_ ?_ _));exact BK272.out)):gb272≠gb273));have n6_:=A_ ((by rw [hg];exact Nat.ne_of_gt (blk_lt (g:=gb272) (o:=.cells #[.bool a0_0,.bool a0_1,.slice A0_2 l0_2.length c0_2,.slice A0_3 l0_3.length c0_3,.slice A0_4 l0_4.length c0_4,.slice A0_5 l0_5.length c0_5,.slice A0_6 l0_6.length c0_6,.bool a0_7,.bool a0_8] 43 (0,0)) (by (with_reducible repeat (first|refine kn_ ?_ _|refine kd_ ?_|refine ka_ ?_ _));exact BK272.out)):gb273≠gb272));clear BK272;clear HB;have BK272:=n0_;have HB:=n1_;have BK273:=n2_;have GW273:=n3_;have GE273:=n4_;have NB272_273:=n5_;have NB273_272:=n6_;clear n0_ n1_ n2_ n3_ n4_ n5_ n6_;clear hb hbox hg;have hnb19:=NB272_273.out;have hnc19:=NB273_272.out;have hcz20_0:w18.cell? ⟨gb272,0,none⟩=some (.bool a0_0):=(bc_ BK272.out 0).trans rfl;have hcz20_1:w18.cell? ⟨gb272,1,none⟩=some (.bool a0_1):=(bc_ BK272.out 1).trans rfl;have hcz20_2:w18.cell? ⟨gb272,2,none⟩=some (.slice A0_2 l0_2.length c0_2):=(bc_ BK272.out 2).trans rfl;have hcz20_3:w18.cell? ⟨gb272,3,none⟩=some (.slice A0_3 l0_3.length c0_3):=(bc_ BK272.out 3).trans rfl;have hcz20_4:w18.cell? ⟨gb272,4,none⟩=some (.slice A0_4 l0_4.length c0_4):=(bc_ BK272.out 4).trans rfl;have hcz20_5:w18.cell? ⟨gb272,5,none⟩=some (.slice A0_5 l0_5.length c0_5):=(bc_ BK272.out 5).trans rfl;have hcz20_6:w18.cell? ⟨gb272,6,none⟩=some (.slice A0_6 l0_6.length c0_6):=(bc_ BK272.out 6).trans rfl;have hcz20_7:w18.cell? ⟨gb272,7,none⟩=some (.bool a0_7):=(bc_ BK272.out 7).trans rfl;have hcz20_8:w18.cell? ⟨gb272,8,none⟩=some (.bool a0_8):=(bc_ BK272.out 8).trans rfl;have hfz20_0:=bf_ BK272.out 0;have hfz20_1:=bf_ BK272.out 1;have hfz20_2:=bf_ BK272.out 2;have hfz20_3:=bf_ BK272.out 3;have hfz20_4:=bf_ BK272.out 4;have hfz20_5:=bf_ BK272.out 5;have hfz20_6:=bf_ BK272.out 6;have hfz20_7:=bf_ BK272.out 7;have hfz20_8:=bf_ BK272.out 8)|((with_reducible refine gate_callee (f:=19) rfl ?_);refine goesL_ (some 20) rfl rfl Try.func19 (by kernel_rfl) rfl #[.agg #[.bool a0_0,.bool a0_1,.slice A0_2 l0_2.length c0_2,.slice A0_3 l0_3.length c0_3,.slice A0_4 l0_4.length c0_4,.slice A0_5 l0_5.length c0_5,.slice A0_6 l0_6.length c0_6,.bool a0_7,.bool a0_8],.int .i64 1048576] rfl (by (try simp only [List.map_toArray,List.map_cons,List.map_nil]);first|done|rfl|(simp only [ld_,lt_];rfl)) ?_;(with_reducible refine (laws_szConfig.calls k a0_0 a0_1 _ _ l0_2 _ _ l0_3 _ _ l0_4 _ _ l0_5 _ _ l0_6 a0_7 a0_8 1048576 t274 _ ?side1 ?side2 ?side3 ?side4 ?side5 ?side6 ?side7 ?side8 ?side9 ?side10 A8.out).mono ?_);(case side1=>repeat (first|exact (cb_ HR0_2.out HB.out)|(with_reducible refine ca_ ?_ _)|(with_reducible refine cn_ ?_ _)|(with_reducible refine cd_ ?_)));(case side2=>exact HC0_2.out);(case side3=>repeat (first|exact (cb_ HR0_3.out HB.out)|(with_reducible refine ca_ ?_ _)|(with_reducible refine cn_ ?_ _)|(with_reducible refine cd_ ?_)));(case side4=>exact HC0_3.out);(case side5=>repeat (first|exact (cb_ HR0_4.out HB.out)|(with_reducible refine ca_ ?_ _)|(with_reducible refine cn_ ?_ _)|(with_reducible refine cd_ ?_)));(case side6=>exact HC0_4.out);(case side7=>repeat (first|exact (cb_ HR0_5.out HB.out)|(with_reducible refine ca_ ?_ _)|(with_reducible refine cn_ ?_ _)|(with_reducible refine cd_ ?_)));(case side8=>exact HC0_5.out);(case side9=>repeat (first|exact (cb_ HR0_6.out HB.out)|(with_reducible refine ca_ ?_ _)|(with_reducible refine cn_ ?_ _)|(with_reducible refine cd_ ?_)));(case side10=>exact HC0_6.out);rintro e w21 ⟨rfl,hb⟩;refine ⟨_,rfl,?_⟩;have n0_:=A_ (kb_ (g:=gb272) (o:=.cells #[.bool a0_0,.bool a0_1,.slice A0_2 l0_2.length c0_2,.slice A0_3 l0_3.length c0_3,.slice A0_4 l0_4.length c0_4,.slice A0_5 l0_5.length c0_5,.slice A0_6 l0_6.length c0_6,.bool a0_7,.bool a0_8] 43 (0,0)) (by (with_reducible repeat (first|refine kn_ ?_ _|refine kd_ ?_|refine ka_ ?_ _));exact BK272.out) hb);have n1_:=A_ (kb_ (g:=gb273) (o:=.cells #[.string a3_0,.string a3_1] 45 (0,0)) (by (with_reducible repeat (first|refine kn_ ?_ _|refine kd_ ?_|refine ka_ ?_ _));exact BK273.out) hb);have n2_:=A_ (bp_ (by repeat (first|(with_reducible first|exact HB.out|apply ba_|apply pd_|apply b1_|refine bs_ ?_ GE272.out|refine bs_ ?_ GE273.out)|exact HB.out)) hb);clear BK272;clear BK273;clear HB;have BK272:=n0_;have BK273:=n1_;have HB:=n2_;clear n0_ n1_ n2_;(try clear hb);(try clear hb2);(try clear hk);(try clear hi);have hcz22_0:w21.cell? ⟨gb273,0,none⟩=some (.string a3_0):=(bc_ BK273.out 0).trans rfl;have hcz22_1:w21.cell? ⟨gb273,1,none⟩=some (.string a3_1):=(bc_ BK273.out 1).trans rfl;have hfz22_0:=bf_ BK273.out 0;have hfz22_1:=bf_ BK273.out 1)|((with_reducible refine gate_callee (f:=20) rfl ?_);refine goesL_ (some 25) rfl rfl Try.func20 (by kernel_rfl) rfl #[.agg #[.string a3_0,.string a3_1],.int .i64 t274] rfl (by (try simp only [List.map_toArray,List.map_cons,List.map_nil]);first|done|rfl|(simp only [ld_,lt_];rfl)) ?_;(with_reducible refine (laws_szAttr.calls a3_0 a3_1 t274 t275 _ A15.out).mono ?_);rintro e w23 ⟨rfl,hb⟩;refine ⟨_,rfl,?_⟩;have n0_:=A_ (kb_ (g:=gb272) (o:=.cells #[.bool a0_0,.bool a0_1,.slice A0_2 l0_2.length c0_2,.slice A0_3 l0_3.length c0_3,.slice A0_4 l0_4.length c0_4,.slice A0_5 l0_5.length c0_5,.slice A0_6 l0_6.length c0_6,.bool a0_7,.bool a0_8] 43 (0,0)) (by (with_reducible repeat (first|refine kn_ ?_ _|refine kd_ ?_|refine ka_ ?_ _));exact BK272.out) hb);have n1_:=A_ (kb_ (g:=gb273) (o:=.cells #[.string a3_0,.string a3_1] 45 (0,0)) (by (with_reducible repeat (first|refine kn_ ?_ _|refine kd_ ?_|refine ka_ ?_ _));exact BK273.out) hb);have n2_:=A_ (bp_ (by repeat (first|(with_reducible first|exact HB.out|apply ba_|apply pd_|apply b1_|refine bs_ ?_ GE272.out|refine bs_ ?_ GE273.out)|exact HB.out)) hb);clear BK272;clear BK273;clear HB;have BK272:=n0_;have BK273:=n1_;have HB:=n2_;clear n0_ n1_ n2_;(try clear hb);(try clear hb2);(try clear hk);(try clear hi)))
    go_ret
    exact ⟨by first|rfl|(simp [errW_none,errW_some] <;> rfl)|(simp [*,errW_none,errW_some] <;> rfl),by repeat (first|(with_reducible first|exact HB.out|apply ba_|apply pd_|apply b1_|refine bs_ ?_ GE272.out|refine bs_ ?_ GE273.out)|exact HB.out)⟩
   ·rw [if_neg c16] at H
    have c16b0:decide (t275<0)=false:=df_ c16
    clear c16
    replace H:=ob_ H
    obtain ⟨⟨t276,t277,t278,t281,t284,t287,t290,t293,t294⟩,A240,H⟩:=H
    replace H:((laws_toAttr.f a3_0 a3_1).bind fun bt295=>((spec_AllowsAttr.f k t276 t277 t278 t281 t284 t287 t290 t293 t294 a1 a2 bt295.1 bt295.2).bind fun bt297=>((laws_toConfig.f k a0_0 a0_1 l0_2 l0_3 l0_4 l0_5 l0_6 a0_7 a0_8).bind fun bt299=>((laws_toAttr.f a3_0 a3_1).bind fun bt319=>((impl_AllowsAttr.f k bt299.1 bt299.2.1 bt299.2.2.1 bt299.2.2.2.1 bt299.2.2.2.2.1 bt299.2.2.2.2.2.1 bt299.2.2.2.2.2.2.1 bt299.2.2.2.2.2.2.2.1 bt299.2.2.2.2.2.2.2.2 a1 a2 bt319.1 bt319.2).bind fun bt321=>(if (bt321.1 != bt297.1)=true then (laws_FnExactAllowsAttr.j0 k true a0_0 a0_1 l0_2 l0_3 l0_4 l0_5 l0_6 a0_7 a0_8 bt299.1 bt299.2.1 bt299.2.2.1 bt299.2.2.2.1 bt299.2.2.2.2.1 bt299.2.2.2.2.2.1 bt299.2.2.2.2.2.2.1 bt299.2.2.2.2.2.2.2.1 bt299.2.2.2.2.2.2.2.2) else (laws_FnExactAllowsAttr.j0 k (bt321.2 != bt297.2) a0_0 a0_1 l0_2 l0_3 l0_4 l0_5 l0_6 a0_7 a0_8 bt299.1 bt299.2.1 bt299.2.2.1 bt299.2.2.2.1 bt299.2.2.2.2.1 bt299.2.2.2.2.2.1 bt299.2.2.2.2.2.2.1 bt299.2.2.2.2.2.2.2.1 bt299.2.2.2.2.2.2.2.2)))))))=some r:=H
    have A24:=A_ A240
    clear A240
    replace H:=ob_ H
    obtain ⟨⟨t295,t296⟩,A250,H⟩:=H
    replace H:((spec_AllowsAttr.f k t276 t277 t278 t281 t284 t287 t290 t293 t294 a1 a2 t295 t296).bind fun bt297=>((laws_toConfig.f k a0_0 a0_1 l0_2 l0_3 l0_4 l0_5 l0_6 a0_7 a0_8).bind fun bt299=>((laws_toAttr.f a3_0 a3_1).bind fun bt319=>((impl_AllowsAttr.f k bt299.1 bt299.2.1 bt299.2.2.1 bt299.2.2.2.1 bt299.2.2.2.2.1 bt299.2.2.2.2.2.1 bt299.2.2.2.2.2.2.1 bt299.2.2.2.2.2.2.2.1 bt299.2.2.2.2.2.2.2.2 a1 a2 bt319.1 bt319.2).bind fun bt321=>(if (bt321.1 != bt297.1)=true then (laws_FnExactAllowsAttr.j0 k true a0_0 a0_1 l0_2 l0_3 l0_4 l0_5 l0_6 a0_7 a0_8 bt299.1 bt299.2.1 bt299.2.2.1 bt299.2.2.2.1 bt299.2.2.2.2.1 bt299.2.2.2.2.2.1 bt299.2.2.2.2.2.2.1 bt299.2.2.2.2.2.2.2.1 bt299.2.2.2.2.2.2.2.2) else (laws_FnExactAllowsAttr.j0 k (bt321.2 != bt297.2) a0_0 a0_1 l0_2 l0_3 l0_4 l0_5 l0_6 a0_7 a0_8 bt299.1 bt299.2.1 bt299.2.2.1 bt299.2.2.2.1 bt299.2.2.2.2.1 bt299.2.2.2.2.2.1 bt299.2.2.2.2.2.2.1 bt299.2.2.2.2.2.2.2.1 bt299.2.2.2.2.2.2.2.2))))))=some r:=H
    have A25:=A_ A250
    clear A250
    replace H:=ob_ H
    obtain ⟨⟨t297,t298⟩,A260,H⟩:=H
    replace H:((laws_toConfig.f k a0_0 a0_1 l0_2 l0_3 l0_4 l0_5 l0_6 a0_7 a0_8).bind fun bt299=>((laws_toAttr.f a3_0 a3_1).bind fun bt319=>((impl_AllowsAttr.f k bt299.1 bt299.2.1 bt299.2.2.1 bt299.2.2.2.1 bt299.2.2.2.2.1 bt299.2.2.2.2.2.1 bt299.2.2.2.2.2.2.1 bt299.2.2.2.2.2.2.2.1 bt299.2.2.2.2.2.2.2.2 a1 a2 bt319.1 bt319.2).bind fun bt321=>(if (bt321.1 != t297)=true then (laws_FnExactAllowsAttr.j0 k true a0_0 a0_1 l0_2 l0_3 l0_4 l0_5 l0_6 a0_7 a0_8 bt299.1 bt299.2.1 bt299.2.2.1 bt299.2.2.2.1 bt299.2.2.2.2.1 bt299.2.2.2.2.2.1 bt299.2.2.2.2.2.2.1 bt299.2.2.2.2.2.2.2.1 bt299.2.2.2.2.2.2.2.2) else (laws_FnExactAllowsAttr.j0 k (bt321.2 != t298) a0_0 a0_1 l0_2 l0_3 l0_4 l0_5 l0_6 a0_7 a0_8 bt299.1 bt299.2.1 bt299.2.2.1 bt299.2.2.2.1 bt299.2.2.2.2.1 bt299.2.2.2.2.2.1 bt299.2.2.2.2.2.2.1 bt299.2.2.2.2.2.2.2.1 bt299.2.2.2.2.2.2.2.2)))))=some r:=H
    have A26:=A_ A260
    clear A260
    replace H:=ob_ H
    obtain ⟨⟨t299,t300,t301,t304,t307,t310,t313,t316,t317⟩,A270,H⟩:=H
    replace H:((laws_toAttr.f a3_0 a3_1).bind fun bt319=>((impl_AllowsAttr.f k t299 t300 t301 t304 t307 t310 t313 t316 t317 a1 a2 bt319.1 bt319.2).bind fun bt321=>(if (bt321.1 != t297)=true then (laws_FnExactAllowsAttr.j0 k true a0_0 a0_1 l0_2 l0_3 l0_4 l0_5 l0_6 a0_7 a0_8 t299 t300 t301 t304 t307 t310 t313 t316 t317) else (laws_FnExactAllowsAttr.j0 k (bt321.2 != t298) a0_0 a0_1 l0_2 l0_3 l0_4 l0_5 l0_6 a0_7 a0_8 t299 t300 t301 t304 t307 t310 t313 t316 t317))))=some r:=H
    have A27:=A_ A270
    clear A270
    replace H:=ob_ H
    obtain ⟨⟨t319,t320⟩,A280,H⟩:=H
    replace H:((impl_AllowsAttr.f k t299 t300 t301 t304 t307 t310 t313 t316 t317 a1 a2 t319 t320).bind fun bt321=>(if (bt321.1 != t297)=true then (laws_FnExactAllowsAttr.j0 k true a0_0 a0_1 l0_2 l0_3 l0_4 l0_5 l0_6 a0_7 a0_8 t299 t300 t301 t304 t307 t310 t313 t316 t317) else (laws_FnExactAllowsAttr.j0 k (bt321.2 != t298) a0_0 a0_1 l0_2 l0_3 l0_4 l0_5 l0_6 a0_7 a0_8 t299 t300 t301 t304 t307 t310 t313 t316 t317)))=some r:=H
    have A28:=A_ A280
    clear A280
    replace H:=ob_ H
    obtain ⟨⟨t321,t322⟩,A290,H⟩:=H
    replace H:(if (t321 != t297)=true then (laws_FnExactAllowsAttr.j0 k true a0_0 a0_1 l0_2 l0_3 l0_4 l0_5 l0_6 a0_7 a0_8 t299 t300 t301 t304 t307 t310 t313 t316 t317) else (laws_FnExactAllowsAttr.j0 k (t322 != t298) a0_0 a0_1 l0_2 l0_3 l0_4 l0_5 l0_6 a0_7 a0_8 t299 t300 t301 t304 t307 t310 t313 t316 t317))=some r:=H
    have A29:=A_ A290
    clear A290
    have HC30:=A_ H
    clear H
    go_enter Try.func5,Try.ntmps5
    try go_wp2_with (first|((with_reducible refine gate_dst (N:=4) rfl ?_);refine box_event ?hg (N:=4) ?hd (cs:=#[.bool a0_0,.bool a0_1,.slice A0_2 l0_2.length c0_2,.slice A0_3 l0_3.length c0_3,.slice A0_4 l0_4.length c0_4,.slice A0_5 l0_5.length c0_5,.slice A0_6 l0_6.length c0_6,.bool a0_7,.bool a0_8]) (t:=43) ?hr ?_;(case hd=>rfl);(case hg=>rfl);(case hr=>first|(go_simp;done)|(go_simp;rfl)|(first|(go_simp;done)|(go_simp;rfl)));intro gb272 hg w31 hbox hb;have n0_:=A_ (bp_ (by repeat (first|(with_reducible first|exact HB.out|apply ba_|apply pd_|apply b1_)|exact HB.out)) hb);have n1_:=A_ (hbox);have n2_:=A_ ((by rw [hg];exact (bz_ (by repeat (first|(with_reducible first|exact HB.out|apply ba_|apply pd_|apply b1_)|exact HB.out))):w.heap.size≤gb272));have n3_:=A_ ((by rw [hg];exact (bz_ (by repeat (first|(with_reducible first|exact HB.out|apply ba_|apply pd_|apply b1_)|exact HB.out))):w.heap.size≤gb272));clear HB;have HB:=n0_;have BK272:=n1_;have GW272:=n2_;have GE272:=n3_;clear n0_ n1_ n2_ n3_;clear hb hbox hg)|((with_reducible refine gate_dst (N:=7) rfl ?_);refine box_event ?hg (N:=7) ?hd (cs:=#[.string a3_0,.string a3_1]) (t:=45) ?hr ?_;(case hd=>rfl);(case hg=>rfl);(case hr=>first|(go_simp;done)|(go_simp;rfl)|(first|(go_simp;done)|(go_simp;rfl)));intro gb273 hg w32 hbox hb;have n0_:=A_ (kb_ (g:=gb272) (o:=.cells #[.bool a0_0,.bool a0_1,.slice A0_2 l0_2.length c0_2,.slice A0_3 l0_3.length c0_3,.slice A0_4 l0_4.length c0_4,.slice A0_5 l0_5.length c0_5,.slice A0_6 l0_6.length c0_6,.bool a0_7,.bool a0_8] 43 (0,0)) (by (with_reducible repeat (first|refine kn_ ?_ _|refine kd_ ?_|refine ka_ ?_ _));exact BK272.out) hb);have n1_:=A_ (bp_ (by repeat (first|(with_reducible first|exact HB.out|apply ba_|apply pd_|apply b1_|refine bs_ ?_ GE272.out)|exact HB.out)) hb);have n2_:=A_ (hbox);have n3_:=A_ ((by rw [hg];exact (bz_ (by repeat (first|(with_reducible first|exact HB.out|apply ba_|apply pd_|apply b1_|refine bs_ ?_ GE272.out)|exact HB.out))):w.heap.size≤gb273));have n4_:=A_ ((by rw [hg];exact (bz_ (by repeat (first|(with_reducible first|exact HB.out|apply ba_|apply pd_|apply b1_|refine bs_ ?_ GE272.out)|exact HB.out))):w.heap.size≤gb273));have n5_:=A_ ((by rw [hg];exact Nat.ne_of_lt (blk_lt (g:=gb272) (o:=.cells #[.bool a0_0,.bool a0_1,.slice A0_2 l0_2.length c0_2,.slice A0_3 l0_3.length c0_3,.slice A0_4 l0_4.length c0_4,.slice A0_5 l0_5.length c0_5,.slice A0_6 l0_6.length c0_6,.bool a0_7,.bool a0_8] 43 (0,0)) (by (with_reducible repeat (first|refine kn_ ?_ _|refine kd_ ?_|refine ka_ ?_ _));exact BK272.out)):gb272≠gb273));have n6_:=A_ ((by rw [hg];exact Nat.ne_of_gt (blk_lt (g:=gb272) (o:=.cells #[.bool a0_0,.bool a0_1,.slice A0_2 l0_2.length c0_2,.slice A0_3 l0_3.length c0_3,.slice A0_4 l0_4.length c0_4,.slice A0_5 l0_5.length c0_5,.slice A0_6 l0_6.length c0_6,.bool a0_7,.bool a0_8] 43 (0,0)) (by (with_reducible repeat (first|refine kn_ ?_ _|refine kd_ ?_|refine ka_ ?_ _));exact BK272.out)):gb273≠gb272));clear BK272;clear HB;have BK272:=n0_;have HB:=n1_;have BK273:=n2_;have GW273:=n3_;have GE273:=n4_;have NB272_273:=n5_;have NB273_272:=n6_;clear n0_ n1_ n2_ n3_ n4_ n5_ n6_;clear hb hbox hg;have hnb33:=NB272_273.out;have hnc33:=NB273_272.out;have hcz34_0:w32.cell? ⟨gb272,0,none⟩=some (.bool a0_0):=(bc_ BK272.out 0).trans rfl;have hcz34_1:w32.cell? ⟨gb272,1,none⟩=some (.bool a0_1):=(bc_ BK272.out 1).trans rfl;have hcz34_2:w32.cell? ⟨gb272,2,none⟩=some (.slice A0_2 l0_2.length c0_2):=(bc_ BK272.out 2).trans rfl;have hcz34_3:w32.cell? ⟨gb272,3,none⟩=some (.slice A0_3 l0_3.length c0_3):=(bc_ BK272.out 3).trans rfl;have hcz34_4:w32.cell? ⟨gb272,4,none⟩=some (.slice A0_4 l0_4.length c0_4):=(bc_ BK272.out 4).trans rfl;have hcz34_5:w32.cell? ⟨gb272,5,none⟩=some (.slice A0_5 l0_5.length c0_5):=(bc_ BK272.out 5).trans rfl;have hcz34_6:w32.cell? ⟨gb272,6,none⟩=some (.slice A0_6 l0_6.length c0_6):=(bc_ BK272.out 6).trans rfl;have hcz34_7:w32.cell? ⟨gb272,7,none⟩=some (.bool a0_7):=(bc_ BK272.out 7).trans rfl;have hcz34_8:w32.cell? ⟨gb272,8,none⟩=some (.bool a0_8):=(bc_ BK272.out 8).trans rfl;have hfz34_0:=bf_ BK272.out 0;have hfz34_1:=bf_ BK272.out 1;have hfz34_2:=bf_ BK272.out 2;have hfz34_3:=bf_ BK272.out 3;have hfz34_4:=bf_ BK272.out 4;have hfz34_5:=bf_ BK272.out 5;have hfz34_6:=bf_ BK272.out 6;have hfz34_7:=bf_ BK272.out 7;have hfz34_8:=bf_ BK272.out 8)|((with_reducible refine gate_callee (f:=19) rfl ?_);refine goesL_ (some 20) rfl rfl Try.func19 (by kernel_rfl) rfl #[.agg #[.bool a0_0,.bool a0_1,.slice A0_2 l0_2.length c0_2,.slice A0_3 l0_3.length c0_3,.slice A0_4 l0_4.length c0_4,.slice A0_5 l0_5.length c0_5,.slice A0_6 l0_6.length c0_6,.bool a0_7,.bool a0_8],.int .i64 1048576] rfl (by (try simp only [List.map_toArray,List.map_cons,List.map_nil]);first|done|rfl|(simp only [ld_,lt_];rfl)) ?_;(with_reducible refine (laws_szConfig.calls k a0_0 a0_1 _ _ l0_2 _ _ l0_3 _ _ l0_4 _ _ l0_5 _ _ l0_6 a0_7 a0_8 1048576 t274 _ ?side1 ?side2 ?side3 ?side4 ?side5 ?side6 ?side7 ?side8 ?side9 ?side10 A8.out).mono ?_);(case side1=>repeat (first|exact (cb_ HR0_2.out HB.out)|(with_reducible refine ca_ ?_ _)|(with_reducible refine cn_ ?_ _)|(with_reducible refine cd_ ?_)));(case side2=>exact HC0_2.out);(case side3=>repeat (first|exact (cb_ HR0_3.out HB.out)|(with_reducible refine ca_ ?_ _)|(with_reducible refine cn_ ?_ _)|(with_reducible refine cd_ ?_)));(case side4=>exact HC0_3.out);(case side5=>repeat (first|exact (cb_ HR0_4.out HB.out)|(with_reducible refine ca_ ?_ _)|(with_reducible refine cn_ ?_ _)|(with_reducible refine cd_ ?_)));(case side6=>exact HC0_4.out);(case side7=>repeat (first|exact (cb_ HR0_5.out HB.out)|(with_reducible refine ca_ ?_ _)|(with_reducible refine cn_ ?_ _)|(with_reducible refine cd_ ?_)));(case side8=>exact HC0_5.out);(case side9=>repeat (first|exact (cb_ HR0_6.out HB.out)|(with_reducible refine ca_ ?_ _)|(with_reducible refine cn_ ?_ _)|(with_reducible refine cd_ ?_)));(case side10=>exact HC0_6.out);rintro e w35 ⟨rfl,hb⟩;refine ⟨_,rfl,?_⟩;have n0_:=A_ (kb_ (g:=gb272) (o:=.cells #[.bool a0_0,.bool a0_1,.slice A0_2 l0_2.length c0_2,.slice A0_3 l0_3.length c0_3,.slice A0_4 l0_4.length c0_4,.slice A0_5 l0_5.length c0_5,.slice A0_6 l0_6.length c0_6,.bool a0_7,.bool a0_8] 43 (0,0)) (by (with_reducible repeat (first|refine kn_ ?_ _|refine kd_ ?_|refine ka_ ?_ _));exact BK272.out) hb);have n1_:=A_ (kb_ (g:=gb273) (o:=.cells #[.string a3_0,.string a3_1] 45 (0,0)) (by (with_reducible repeat (first|refine kn_ ?_ _|refine kd_ ?_|refine ka_ ?_ _));exact BK273.out) hb);have n2_:=A_ (bp_ (by repeat (first|(with_reducible first|exact HB.out|apply ba_|apply pd_|apply b1_|refine bs_ ?_ GE272.out|refine bs_ ?_ GE273.out)|exact HB.out)) hb);clear BK272;clear BK273;clear HB;have BK272:=n0_;have BK273:=n1_;have HB:=n2_;clear n0_ n1_ n2_;(try clear hb);(try clear hb2);(try clear hk);(try clear hi);have hcz36_0:w35.cell? ⟨gb273,0,none⟩=some (.string a3_0):=(bc_ BK273.out 0).trans rfl;have hcz36_1:w35.cell? ⟨gb273,1,none⟩=some (.string a3_1):=(bc_ BK273.out 1).trans rfl;have hfz36_0:=bf_ BK273.out 0;have hfz36_1:=bf_ BK273.out 1)|((with_reducible refine gate_callee (f:=20) rfl ?_);refine goesL_ (some 25) rfl rfl Try.func20 (by kernel_rfl) rfl #[.agg #[.string a3_0,.string a3_1],.int .i64 t274] rfl (by (try simp only [List.map_toArray,List.map_cons,List.map_nil]);first|done|rfl|(simp only [ld_,lt_];rfl)) ?_;(with_reducible refine (laws_szAttr.calls a3_0 a3_1 t274 t275 _ A15.out).mono ?_);rintro e w37 ⟨rfl,hb⟩;refine ⟨_,rfl,?_⟩;have n0_:=A_ (kb_ (g:=gb272) (o:=.cells #[.bool a0_0,.bool a0_1,.slice A0_2 l0_2.length c0_2,.slice A0_3 l0_3.length c0_3,.slice A0_4 l0_4.length c0_4,.slice A0_5 l0_5.length c0_5,.slice A0_6 l0_6.length c0_6,.bool a0_7,.bool a0_8] 43 (0,0)) (by (with_reducible repeat (first|refine kn_ ?_ _|refine kd_ ?_|refine ka_ ?_ _));exact BK272.out) hb);have n1_:=A_ (kb_ (g:=gb273) (o:=.cells #[.string a3_0,.string a3_1] 45 (0,0)) (by (with_reducible repeat (first|refine kn_ ?_ _|refine kd_ ?_|refine ka_ ?_ _));exact BK273.out) hb);have n2_:=A_ (bp_ (by repeat (first|(with_reducible first|exact HB.out|apply ba_|apply pd_|apply b1_|refine bs_ ?_ GE272.out|refine bs_ ?_ GE273.out)|exact HB.out)) hb);clear BK272;clear BK273;clear HB;have BK272:=n0_;have BK273:=n1_;have HB:=n2_;clear n0_ n1_ n2_;(try clear hb);(try clear hb2);(try clear hk);(try clear hi)))
    have n0_:=A_ (kd_ BK272.out)
    have n1_:=A_ (kd_ BK273.out)
    have n2_:=A_ (b1_ HB.out)
    clear BK272
    clear BK273
    clear HB
    have BK272:=n0_
    have BK273:=n1_
    have HB:=n2_
    clear n0_ n1_ n2_
    refine start_ (n:=12) (S:=fun w'=>w'.cell? ⟨gb272,0,none⟩=some (.bool a0_0)∧w'.cell? ⟨gb272,1,none⟩=some (.bool a0_1)∧w'.cell? ⟨gb272,2,none⟩=some (.slice A0_2 l0_2.length c0_2)∧w'.cell? ⟨gb272,3,none⟩=some (.slice A0_3 l0_3.length c0_3)∧w'.cell? ⟨gb272,4,none⟩=some (.slice A0_4 l0_4.length c0_4)∧w'.cell? ⟨gb272,5,none⟩=some (.slice A0_5 l0_5.length c0_5)∧w'.cell? ⟨gb272,6,none⟩=some (.slice A0_6 l0_6.length c0_6)∧w'.cell? ⟨gb272,7,none⟩=some (.bool a0_7)∧w'.cell? ⟨gb272,8,none⟩=some (.bool a0_8)∧w'.cell? ⟨gb273,0,none⟩=some (.string a3_0)∧w'.cell? ⟨gb273,1,none⟩=some (.string a3_1)) (ds:=[]) #[F_,F_,F_,F_,F_,F_,F_,F_,F_,F_,F_,F_] (by kernel_rfl) rfl rfl ⟨(bc_ BK272.out 0).trans rfl,(bc_ BK272.out 1).trans rfl,(bc_ BK272.out 2).trans rfl,(bc_ BK272.out 3).trans rfl,(bc_ BK272.out 4).trans rfl,(bc_ BK272.out 5).trans rfl,(bc_ BK272.out 6).trans rfl,(bc_ BK272.out 7).trans rfl,(bc_ BK272.out 8).trans rfl,(bc_ BK273.out 0).trans rfl,(bc_ BK273.out 1).trans rfl⟩ (fun hHeld=>?_);refine with_tabW laws_FnExactAllowsAttr.tab10 laws_FnExactAllowsAttr.bits10 (fun HT_ HW_=>?_)
    generalize w37.drew=w38 at BK272 BK273 HB hHeld ⊢
    refine pure_ (i:=2) (N:=some 31) (v:=?_) (a':=?_) #[F_,F_,T_,F_,F_,F_,F_,F_,F_,F_,F_,F_] rfl rfl (any_of HT_.out (by kernel_rfl)) (fun _ _ _ h=>h) (Or.inl ⟨by rfl,?_⟩) ?_ ?_
    rotate_left
    ·intro w'
     go_simp
     with_reducible rfl
    rotate_left
    ·simp only [Act.put,ls_,lz_,lc_,i64_w,i32_w]
     rfl
    refine pure_ (i:=3) (N:=some 32) (v:=?_) (a':=?_) #[F_,F_,T_,T_,F_,F_,F_,F_,F_,F_,F_,F_] rfl rfl (any_of HT_.out (by kernel_rfl)) (fun _ _ _ h=>h) (Or.inl ⟨by rfl,?_⟩) ?_ ?_
    rotate_left
    ·intro w'
     go_simp
     with_reducible rfl
    rotate_left
    ·simp only [Act.put,ls_,lz_,lc_,i64_w,i32_w]
     rfl
    refine take_ (i:=0) (N:=some 29) (v:=?_) (a':=?_) #[T_,F_,T_,T_,F_,F_,F_,F_,F_,F_,F_,F_] rfl rfl (take_ofW HT_.out HW_.out (by kernel_rfl)) (fun _ _ _ h=>h) (Or.inl ⟨by rfl,?_⟩) hHeld ?_ ?_
    rotate_left
    ·rintro w' ⟨s0,s1,s2,s3,s4,s5,s6,s7,s8,s9,s10⟩
     go_simp
     with_reducible rfl
    rotate_left
    ·simp only [Act.put,ls_,lz_,lc_,i64_w,i32_w]
     rfl
    refine take_ (i:=4) (N:=some 33) (v:=?_) (a':=?_) #[T_,F_,T_,T_,T_,F_,F_,F_,F_,F_,F_,F_] rfl rfl (take_ofW HT_.out HW_.out (by kernel_rfl)) (fun _ _ _ h=>h) (Or.inl ⟨by rfl,?_⟩) hHeld ?_ ?_
    rotate_left
    ·rintro w' ⟨s0,s1,s2,s3,s4,s5,s6,s7,s8,s9,s10⟩
     go_simp
     with_reducible rfl
    rotate_left
    ·simp only [Act.put,ls_,lz_,lc_,i64_w,i32_w]
     rfl
    refine one_ (i:=1) (N:=some 30) #[T_,T_,T_,T_,T_,F_,F_,F_,F_,F_,F_,F_] rfl rfl (one_of HT_.out (by kernel_rfl)) (by decide) (fun K hK=>?_)
    refine goes_ Try.func22 (by kernel_rfl) rfl #[.agg #[.bool a0_0,.bool a0_1,.slice A0_2 l0_2.length c0_2,.slice A0_3 l0_3.length c0_3,.slice A0_4 l0_4.length c0_4,.slice A0_5 l0_5.length c0_5,.slice A0_6 l0_6.length c0_6,.bool a0_7,.bool a0_8]] (by rfl) rfl rfl (by (try simp only [List.map_toArray,List.map_cons,List.map_nil]);first|done|rfl|(simp only [ld_,lt_];rfl)) ?_
    with_reducible refine (laws_toConfig.calls k a0_0 a0_1 _ _ l0_2 _ _ l0_3 _ _ l0_4 _ _ l0_5 _ _ l0_6 a0_7 a0_8 t276 t277 t278 t281 t284 t287 t290 t293 t294 _ ?side1 ?side2 ?side3 ?side4 ?side5 ?side6 ?side7 ?side8 ?side9 ?side10 A24.out).mono ?_
    (case side1=>repeat (first|exact (cb_ HR0_2.out HB.out)|(with_reducible refine ca_ ?_ _)|(with_reducible refine cn_ ?_ _)|(with_reducible refine cd_ ?_)))
    (case side2=>exact HC0_2.out)
    (case side3=>repeat (first|exact (cb_ HR0_3.out HB.out)|(with_reducible refine ca_ ?_ _)|(with_reducible refine cn_ ?_ _)|(with_reducible refine cd_ ?_)))
    (case side4=>exact HC0_3.out)
    (case side5=>repeat (first|exact (cb_ HR0_4.out HB.out)|(with_reducible refine ca_ ?_ _)|(with_reducible refine cn_ ?_ _)|(with_reducible refine cd_ ?_)))
    (case side6=>exact HC0_4.out)
    (case side7=>repeat (first|exact (cb_ HR0_5.out HB.out)|(with_reducible refine ca_ ?_ _)|(with_reducible refine cn_ ?_ _)|(with_reducible refine cd_ ?_)))
    (case side8=>exact HC0_5.out)
    (case side9=>repeat (first|exact (cb_ HR0_6.out HB.out)|(with_reducible refine ca_ ?_ _)|(with_reducible refine cn_ ?_ _)|(with_reducible refine cd_ ?_)))
    (case side10=>exact HC0_6.out)
    rintro e w39 ⟨v279,v282,v285,v288,v291,rfl,ho0,ho1,ho2,ho3,ho4,hb⟩
    refine ⟨_,rfl,?_⟩
    have n0_:=A_ (Kd.S_lower ho0 (bz_ (by repeat (first|(with_reducible first|exact HB.out|apply ba_|apply pd_|apply b1_|refine bs_ ?_ GE272.out|refine bs_ ?_ GE273.out)|exact HB.out))))
    have n1_:=A_ (Kd.S_lower ho1 (bz_ (by repeat (first|(with_reducible first|exact HB.out|apply ba_|apply pd_|apply b1_|refine bs_ ?_ GE272.out|refine bs_ ?_ GE273.out)|exact HB.out))))
    have n2_:=A_ (Kd.S_lower ho2 (bz_ (by repeat (first|(with_reducible first|exact HB.out|apply ba_|apply pd_|apply b1_|refine bs_ ?_ GE272.out|refine bs_ ?_ GE273.out)|exact HB.out))))
    have n3_:=A_ (Kd.R_lower ho3 (bz_ (by repeat (first|(with_reducible first|exact HB.out|apply ba_|apply pd_|apply b1_|refine bs_ ?_ GE272.out|refine bs_ ?_ GE273.out)|exact HB.out))))
    have n4_:=A_ (Kd.R_lower ho4 (bz_ (by repeat (first|(with_reducible first|exact HB.out|apply ba_|apply pd_|apply b1_|refine bs_ ?_ GE272.out|refine bs_ ?_ GE273.out)|exact HB.out))))
    have n5_:=A_ (kb_ (g:=gb272) (o:=.cells #[.bool a0_0,.bool a0_1,.slice A0_2 l0_2.length c0_2,.slice A0_3 l0_3.length c0_3,.slice A0_4 l0_4.length c0_4,.slice A0_5 l0_5.length c0_5,.slice A0_6 l0_6.length c0_6,.bool a0_7,.bool a0_8] 43 (0,0)) (by (with_reducible repeat (first|refine kn_ ?_ _|refine kd_ ?_|refine ka_ ?_ _));exact BK272.out) hb)
    have n6_:=A_ (kb_ (g:=gb273) (o:=.cells #[.string a3_0,.string a3_1] 45 (0,0)) (by (with_reducible repeat (first|refine kn_ ?_ _|refine kd_ ?_|refine ka_ ?_ _));exact BK273.out) hb)
    have n7_:=A_ (bp_ (by repeat (first|(with_reducible first|exact HB.out|apply ba_|apply pd_|apply b1_|refine bs_ ?_ GE272.out|refine bs_ ?_ GE273.out)|exact HB.out)) hb)
    clear BK272
    clear BK273
    clear HB
    have HO280:=n0_
    have HO283:=n1_
    have HO286:=n2_
    have HO289:=n3_
    have HO292:=n4_
    have BK272:=n5_
    have BK273:=n6_
    have HB:=n7_
    clear n0_ n1_ n2_ n3_ n4_ n5_ n6_ n7_
    (try clear hb)
    (try clear hb2)
    (try clear hk)
    (try clear hi)
    (try clear ho0)
    (try clear ho1)
    (try clear ho2)
    (try clear ho3)
    (try clear ho4)
    refine hK.out _ _ ⟨(bc_ BK272.out 0).trans rfl,(bc_ BK272.out 1).trans rfl,(bc_ BK272.out 2).trans rfl,(bc_ BK272.out 3).trans rfl,(bc_ BK272.out 4).trans rfl,(bc_ BK272.out 5).trans rfl,(bc_ BK272.out 6).trans rfl,(bc_ BK272.out 7).trans rfl,(bc_ BK272.out 8).trans rfl,(bc_ BK273.out 0).trans rfl,(bc_ BK273.out 1).trans rfl⟩ (fun hHeld=>?_)
    clear hK K
    refine norm_ (a':=?_) ?_ ?_
    rotate_left
    ·show Act.put _ (some 30) _=_
     simp only [Act.put,ls_,lz_,lc_,i64_w,i32_w]
     rfl
    refine one_ (i:=5) (N:=some 34) #[T_,T_,T_,T_,T_,T_,F_,F_,F_,F_,F_,F_] rfl rfl (one_of HT_.out (by kernel_rfl)) (by decide) (fun K hK=>?_)
    refine goes_ Try.func23 (by kernel_rfl) rfl #[.agg #[.string a3_0,.string a3_1]] (by rfl) rfl rfl (by (try simp only [List.map_toArray,List.map_cons,List.map_nil]);first|done|rfl|(simp only [ld_,lt_];rfl)) ?_
    with_reducible refine (laws_toAttr.calls a3_0 a3_1 t295 t296 _ A25.out).mono ?_
    rintro e w40 ⟨rfl,hb⟩
    refine ⟨_,rfl,?_⟩
    have n0_:=A_ (Kd.S_below (by (with_reducible repeat (first|apply Kd.S_alloc|apply Kd.S_drewN|apply Kd.S_drew));exact HO280.out) hb)
    have n1_:=A_ (Kd.S_below (by (with_reducible repeat (first|apply Kd.S_alloc|apply Kd.S_drewN|apply Kd.S_drew));exact HO283.out) hb)
    have n2_:=A_ (Kd.S_below (by (with_reducible repeat (first|apply Kd.S_alloc|apply Kd.S_drewN|apply Kd.S_drew));exact HO286.out) hb)
    have n3_:=A_ (Kd.R_below (by (with_reducible repeat (first|apply Kd.R_alloc|apply Kd.R_drewN|apply Kd.R_drew));exact HO289.out) hb)
    have n4_:=A_ (Kd.R_below (by (with_reducible repeat (first|apply Kd.R_alloc|apply Kd.R_drewN|apply Kd.R_drew));exact HO292.out) hb)
    have n5_:=A_ (kb_ (g:=gb272) (o:=.cells #[.bool a0_0,.bool a0_1,.slice A0_2 l0_2.length c0_2,.slice A0_3 l0_3.length c0_3,.slice A0_4 l0_4.length c0_4,.slice A0_5 l0_5.length c0_5,.slice A0_6 l0_6.length c0_6,.bool a0_7,.bool a0_8] 43 (0,0)) (by (with_reducible repeat (first|refine kn_ ?_ _|refine kd_ ?_|refine ka_ ?_ _));exact BK272.out) hb)
    have n6_:=A_ (kb_ (g:=gb273) (o:=.cells #[.string a3_0,.string a3_1] 45 (0,0)) (by (with_reducible repeat (first|refine kn_ ?_ _|refine kd_ ?_|refine ka_ ?_ _));exact BK273.out) hb)
    have n7_:=A_ (bp_ (by repeat (first|(with_reducible first|exact HB.out|apply ba_|apply pd_|apply b1_|refine bs_ ?_ GE272.out|refine bs_ ?_ GE273.out)|exact HB.out)) hb)
    clear HO280
    clear HO283
    clear HO286
    clear HO289
    clear HO292
    clear BK272
    clear BK273
    clear HB
    have HO280:=n0_
    have HO283:=n1_
    have HO286:=n2_
    have HO289:=n3_
    have HO292:=n4_
    have BK272:=n5_
    have BK273:=n6_
    have HB:=n7_
    clear n0_ n1_ n2_ n3_ n4_ n5_ n6_ n7_
    (try clear hb)
    (try clear hb2)
    (try clear hk)
    (try clear hi)
    obtain ⟨Ao41,co41,eo41⟩:=Kd.S_slice HO280.out
    (first|subst eo41|(injection eo41 with f1_ f2_ f3_;have f4_:=f1_.symm;have f5_:=f3_.symm;clear f1_ f2_ f3_;subst f4_;subst f5_))
    obtain ⟨Ao42,co42,eo42⟩:=Kd.S_slice HO283.out
    (first|subst eo42|(injection eo42 with f1_ f2_ f3_;have f4_:=f1_.symm;have f5_:=f3_.symm;clear f1_ f2_ f3_;subst f4_;subst f5_))
    obtain ⟨Ao43,co43,eo43⟩:=Kd.S_slice HO286.out
    (first|subst eo43|(injection eo43 with f1_ f2_ f3_;have f4_:=f1_.symm;have f5_:=f3_.symm;clear f1_ f2_ f3_;subst f4_;subst f5_))
    obtain ⟨Ao44,co44,eo44⟩:=Kd.R_slice HO289.out
    (first|subst eo44|(injection eo44 with f1_ f2_ f3_;have f4_:=f1_.symm;have f5_:=f3_.symm;clear f1_ f2_ f3_;subst f4_;subst f5_))
    obtain ⟨Ao45,co45,eo45⟩:=Kd.R_slice HO292.out
    (first|subst eo45|(injection eo45 with f1_ f2_ f3_;have f4_:=f1_.symm;have f5_:=f3_.symm;clear f1_ f2_ f3_;subst f4_;subst f5_))
    refine hK.out _ _ ⟨(bc_ BK272.out 0).trans rfl,(bc_ BK272.out 1).trans rfl,(bc_ BK272.out 2).trans rfl,(bc_ BK272.out 3).trans rfl,(bc_ BK272.out 4).trans rfl,(bc_ BK272.out 5).trans rfl,(bc_ BK272.out 6).trans rfl,(bc_ BK272.out 7).trans rfl,(bc_ BK272.out 8).trans rfl,(bc_ BK273.out 0).trans rfl,(bc_ BK273.out 1).trans rfl⟩ (fun hHeld=>?_)
    clear hK K
    refine norm_ (a':=?_) ?_ ?_
    rotate_left
    ·show Act.put _ (some 34) _=_
     simp only [Act.put,ls_,lz_,lc_,i64_w,i32_w]
     rfl
    refine one_ (i:=6) (N:=some 35) #[T_,T_,T_,T_,T_,T_,T_,F_,F_,F_,F_,F_] rfl rfl (one_of HT_.out (by kernel_rfl)) (by decide) (fun K hK=>?_)
    refine goes_ Try.func21 (by kernel_rfl) rfl #[.agg #[.bool t276,.bool t277,.slice Ao41 t278.length co41,.slice Ao42 t281.length co42,.slice Ao43 t284.length co43,.slice Ao44 t287.length co44,.slice Ao45 t290.length co45,.bool t293,.bool t294],.int .i64 a1,.string a2,.agg #[.string t295,.string t296]] (by rfl) rfl rfl (by (try simp only [List.map_toArray,List.map_cons,List.map_nil]);first|done|rfl|(simp only [ld_,lt_];rfl)) ?_
    with_reducible refine (spec_AllowsAttr.calls k t276 t277 _ _ t278 _ _ t281 _ _ t284 _ _ t287 _ _ t290 t293 t294 a1 a2 t295 t296 t297 t298 _ ?side1 ?side2 ?side3 ?side4 ?side5 ?side6 ?side7 ?side8 ?side9 ?side10 A26.out).mono ?_
    (case side1=>repeat (first|exact (Kd.S_reads' HO280.out).2.2|(with_reducible refine ca_ ?_ _)|(with_reducible refine cn_ ?_ _)|(with_reducible refine cd_ ?_)))
    (case side2=>exact (Kd.S_reads' HO280.out).2.1)
    (case side3=>repeat (first|exact (Kd.S_reads' HO283.out).2.2|(with_reducible refine ca_ ?_ _)|(with_reducible refine cn_ ?_ _)|(with_reducible refine cd_ ?_)))
    (case side4=>exact (Kd.S_reads' HO283.out).2.1)
    (case side5=>repeat (first|exact (Kd.S_reads' HO286.out).2.2|(with_reducible refine ca_ ?_ _)|(with_reducible refine cn_ ?_ _)|(with_reducible refine cd_ ?_)))
    (case side6=>exact (Kd.S_reads' HO286.out).2.1)
    (case side7=>repeat (first|exact (Kd.R_reads' HO289.out).2.2|(with_reducible refine ca_ ?_ _)|(with_reducible refine cn_ ?_ _)|(with_reducible refine cd_ ?_)))
    (case side8=>exact (Kd.R_reads' HO289.out).2.1)
    (case side9=>repeat (first|exact (Kd.R_reads' HO292.out).2.2|(with_reducible refine ca_ ?_ _)|(with_reducible refine cn_ ?_ _)|(with_reducible refine cd_ ?_)))
    (case side10=>exact (Kd.R_reads' HO292.out).2.1)
    rintro e w46 ⟨rfl,hb⟩
    refine ⟨_,rfl,?_⟩
    have n0_:=A_ (Kd.S_below (by (with_reducible repeat (first|apply Kd.S_alloc|apply Kd.S_drewN|apply Kd.S_drew));exact HO280.out) hb)
    have n1_:=A_ (Kd.S_below (by (with_reducible repeat (first|apply Kd.S_alloc|apply Kd.S_drewN|apply Kd.S_drew));exact HO283.out) hb)
    have n2_:=A_ (Kd.S_below (by (with_reducible repeat (first|apply Kd.S_alloc|apply Kd.S_drewN|apply Kd.S_drew));exact HO286.out) hb)
    have n3_:=A_ (Kd.R_below (by (with_reducible repeat (first|apply Kd.R_alloc|apply Kd.R_drewN|apply Kd.R_drew));exact HO289.out) hb)
    have n4_:=A_ (Kd.R_below (by (with_reducible repeat (first|apply Kd.R_alloc|apply Kd.R_drewN|apply Kd.R_drew));exact HO292.out) hb)
    have n5_:=A_ (kb_ (g:=gb272) (o:=.cells #[.bool a0_0,.bool a0_1,.slice A0_2 l0_2.length c0_2,.slice A0_3 l0_3.length c0_3,.slice A0_4 l0_4.length c0_4,.slice A0_5 l0_5.length c0_5,.slice A0_6 l0_6.length c0_6,.bool a0_7,.bool a0_8] 43 (0,0)) (by (with_reducible repeat (first|refine kn_ ?_ _|refine kd_ ?_|refine ka_ ?_ _));exact BK272.out) hb)
    have n6_:=A_ (kb_ (g:=gb273) (o:=.cells #[.string a3_0,.string a3_1] 45 (0,0)) (by (with_reducible repeat (first|refine kn_ ?_ _|refine kd_ ?_|refine ka_ ?_ _));exact BK273.out) hb)
    have n7_:=A_ (bp_ (by repeat (first|(with_reducible first|exact HB.out|apply ba_|apply pd_|apply b1_|refine bs_ ?_ GE272.out|refine bs_ ?_ GE273.out)|exact HB.out)) hb)
    clear HO280
    clear HO283
    clear HO286
    clear HO289
    clear HO292
    clear BK272
    clear BK273
    clear HB
    have HO280:=n0_
    have HO283:=n1_
    have HO286:=n2_
    have HO289:=n3_
    have HO292:=n4_
    have BK272:=n5_
    have BK273:=n6_
    have HB:=n7_
    clear n0_ n1_ n2_ n3_ n4_ n5_ n6_ n7_
    (try clear hb)
    (try clear hb2)
    (try clear hk)
    (try clear hi)
    refine hK.out _ _ ⟨(bc_ BK272.out 0).trans rfl,(bc_ BK272.out 1).trans rfl,(bc_ BK272.out 2).trans rfl,(bc_ BK272.out 3).trans rfl,(bc_ BK272.out 4).trans rfl,(bc_ BK272.out 5).trans rfl,(bc_ BK272.out 6).trans rfl,(bc_ BK272.out 7).trans rfl,(bc_ BK272.out 8).trans rfl,(bc_ BK273.out 0).trans rfl,(bc_ BK273.out 1).trans rfl⟩ (fun hHeld=>?_)
    clear hK K
    refine norm_ (a':=?_) ?_ ?_
    rotate_left
    ·show Act.put _ (some 35) _=_
     simp only [Act.put,ls_,lz_,lc_,i64_w,i32_w]
     rfl
    refine pure_ (i:=7) (N:=some 28) (v:=?_) (a':=?_) #[T_,T_,T_,T_,T_,T_,T_,T_,F_,F_,F_,F_] rfl rfl (any_of HT_.out (by kernel_rfl)) (fun _ _ _ h=>h) (Or.inl ⟨by rfl,?_⟩) ?_ ?_
    rotate_left
    ·intro w'
     go_simp
     with_reducible rfl
    rotate_left
    ·simp only [Act.put,ls_,lz_,lc_,i64_w,i32_w]
     rfl
    refine pure_ (i:=8) (N:=some 36) (v:=?_) (a':=?_) #[T_,T_,T_,T_,T_,T_,T_,T_,T_,F_,F_,F_] rfl rfl (any_of HT_.out (by kernel_rfl)) (fun _ _ _ h=>h) (Or.inl ⟨by rfl,?_⟩) ?_ ?_
    rotate_left
    ·intro w'
     go_simp
     with_reducible rfl
    rotate_left
    ·simp only [Act.put,ls_,lz_,lc_,i64_w,i32_w]
     rfl
    refine pure_ (i:=9) (N:=some 37) (v:=?_) (a':=?_) #[T_,T_,T_,T_,T_,T_,T_,T_,T_,T_,F_,F_] rfl rfl (any_of HT_.out (by kernel_rfl)) (fun _ _ _ h=>h) (Or.inl ⟨by rfl,?_⟩) ?_ ?_
    rotate_left
    ·intro w'
     go_simp
     with_reducible rfl
    rotate_left
    ·simp only [Act.put,ls_,lz_,lc_,i64_w,i32_w]
     rfl
    refine pure_ (i:=10) (N:=some 10) (v:=?_) (a':=?_) #[T_,T_,T_,T_,T_,T_,T_,T_,T_,T_,T_,F_] rfl rfl (any_of HT_.out (by kernel_rfl)) (fun _ _ _ h=>h) (Or.inl ⟨by rfl,?_⟩) ?_ ?_
    rotate_left
    ·intro w'
     go_simp
     with_reducible rfl
    rotate_left
    ·simp only [Act.put,ls_,lz_,lc_,i64_w,i32_w]
     rfl
    refine pure_ (i:=11) (N:=some 11) (v:=?_) (a':=?_) #[T_,T_,T_,T_,T_,T_,T_,T_,T_,T_,T_,T_] rfl rfl (any_of HT_.out (by kernel_rfl)) (fun _ _ _ h=>h) (Or.inl ⟨by rfl,?_⟩) ?_ ?_
    rotate_left
    ·intro w'
     go_simp
     with_reducible rfl
    rotate_left
    ·simp only [Act.put,ls_,lz_,lc_,i64_w,i32_w]
     rfl
    refine done_ (done_of HT_.out (by kernel_rfl)) ?_
    have hcz47_0:w46.cell? ⟨gb272,0,none⟩=some (.bool a0_0):=(bc_ BK272.out 0).trans rfl
    have hcz47_1:w46.cell? ⟨gb272,1,none⟩=some (.bool a0_1):=(bc_ BK272.out 1).trans rfl
    have hcz47_2:w46.cell? ⟨gb272,2,none⟩=some (.slice A0_2 l0_2.length c0_2):=(bc_ BK272.out 2).trans rfl
    have hcz47_3:w46.cell? ⟨gb272,3,none⟩=some (.slice A0_3 l0_3.length c0_3):=(bc_ BK272.out 3).trans rfl
    have hcz47_4:w46.cell? ⟨gb272,4,none⟩=some (.slice A0_4 l0_4.length c0_4):=(bc_ BK272.out 4).trans rfl
    have hcz47_5:w46.cell? ⟨gb272,5,none⟩=some (.slice A0_5 l0_5.length c0_5):=(bc_ BK272.out 5).trans rfl
    have hcz47_6:w46.cell? ⟨gb272,6,none⟩=some (.slice A0_6 l0_6.length c0_6):=(bc_ BK272.out 6).trans rfl
    have hcz47_7:w46.cell? ⟨gb272,7,none⟩=some (.bool a0_7):=(bc_ BK272.out 7).trans rfl
    have hcz47_8:w46.cell? ⟨gb272,8,none⟩=some (.bool a0_8):=(bc_ BK272.out 8).trans rfl
    have hfz47_0:=bf_ BK272.out 0
    have hfz47_1:=bf_ BK272.out 1
    have hfz47_2:=bf_ BK272.out 2
    have hfz47_3:=bf_ BK272.out 3
    have hfz47_4:=bf_ BK272.out 4
    have hfz47_5:=bf_ BK272.out 5
    have hfz47_6:=bf_ BK272.out 6
    have hfz47_7:=bf_ BK272.out 7
    have hfz47_8:=bf_ BK272.out 8
    try go_wp2_with (first|((with_reducible refine gate_callee (f:=22) rfl ?_);refine goesL_ (some 39) rfl rfl Try.func22 (by kernel_rfl) rfl #[.agg #[.bool a0_0,.bool a0_1,.slice A0_2 l0_2.length c0_2,.slice A0_3 l0_3.length c0_3,.slice A0_4 l0_4.length c0_4,.slice A0_5 l0_5.length c0_5,.slice A0_6 l0_6.length c0_6,.bool a0_7,.bool a0_8]] rfl (by (try simp only [List.map_toArray,List.map_cons,List.map_nil]);first|done|rfl|(simp only [ld_,lt_];rfl)) ?_;(with_reducible refine (laws_toConfig.calls k a0_0 a0_1 _ _ l0_2 _ _ l0_3 _ _ l0_4 _ _ l0_5 _ _ l0_6 a0_7 a0_8 t299 t300 t301 t304 t307 t310 t313 t316 t317 _ ?side1 ?side2 ?side3 ?side4 ?side5 ?side6 ?side7 ?side8 ?side9 ?side10 A27.out).mono ?_);(case side1=>repeat (first|exact (cb_ HR0_2.out HB.out)|(with_reducible refine ca_ ?_ _)|(with_reducible refine cn_ ?_ _)|(with_reducible refine cd_ ?_)));(case side2=>exact HC0_2.out);(case side3=>repeat (first|exact (cb_ HR0_3.out HB.out)|(with_reducible refine ca_ ?_ _)|(with_reducible refine cn_ ?_ _)|(with_reducible refine cd_ ?_)));(case side4=>exact HC0_3.out);(case side5=>repeat (first|exact (cb_ HR0_4.out HB.out)|(with_reducible refine ca_ ?_ _)|(with_reducible refine cn_ ?_ _)|(with_reducible refine cd_ ?_)));(case side6=>exact HC0_4.out);(case side7=>repeat (first|exact (cb_ HR0_5.out HB.out)|(with_reducible refine ca_ ?_ _)|(with_reducible refine cn_ ?_ _)|(with_reducible refine cd_ ?_)));(case side8=>exact HC0_5.out);(case side9=>repeat (first|exact (cb_ HR0_6.out HB.out)|(with_reducible refine ca_ ?_ _)|(with_reducible refine cn_ ?_ _)|(with_reducible refine cd_ ?_)));(case side10=>exact HC0_6.out);rintro e w48 ⟨v302,v305,v308,v311,v314,rfl,ho0,ho1,ho2,ho3,ho4,hb⟩;refine ⟨_,rfl,?_⟩;have n0_:=A_ (Kd.S_mono (Kd.S_told (Kd.S_told (Kd.S_told (Kd.S_told (Kd.S_told (Kd.S_old (by (with_reducible repeat (first|apply Kd.S_alloc|apply Kd.S_drewN|apply Kd.S_drew));exact HO280.out) hb) (Kd.S_base ho0)) (Kd.S_base ho1)) (Kd.S_base ho2)) (Kd.R_base ho3)) (Kd.R_base ho4)) (fun _ h_=>h_.1));have n1_:=A_ (Kd.S_mono (Kd.S_told (Kd.S_told (Kd.S_told (Kd.S_told (Kd.S_told (Kd.S_old (by (with_reducible repeat (first|apply Kd.S_alloc|apply Kd.S_drewN|apply Kd.S_drew));exact HO283.out) hb) (Kd.S_base ho0)) (Kd.S_base ho1)) (Kd.S_base ho2)) (Kd.R_base ho3)) (Kd.R_base ho4)) (fun _ h_=>h_.1));have n2_:=A_ (Kd.S_mono (Kd.S_told (Kd.S_told (Kd.S_told (Kd.S_told (Kd.S_told (Kd.S_old (by (with_reducible repeat (first|apply Kd.S_alloc|apply Kd.S_drewN|apply Kd.S_drew));exact HO286.out) hb) (Kd.S_base ho0)) (Kd.S_base ho1)) (Kd.S_base ho2)) (Kd.R_base ho3)) (Kd.R_base ho4)) (fun _ h_=>h_.1));have n3_:=A_ (Kd.R_mono (Kd.R_told (Kd.R_told (Kd.R_old (by (with_reducible repeat (first|apply Kd.R_alloc|apply Kd.R_drewN|apply Kd.R_drew));exact HO289.out) hb) (Kd.R_base ho3)) (Kd.R_base ho4)) (fun _ h_=>h_.1));have n4_:=A_ (Kd.R_mono (Kd.R_told (Kd.R_told (Kd.R_old (by (with_reducible repeat (first|apply Kd.R_alloc|apply Kd.R_drewN|apply Kd.R_drew));exact HO292.out) hb) (Kd.R_base ho3)) (Kd.R_base ho4)) (fun _ h_=>h_.1));have n5_:=A_ (Kd.S_lower (Kd.S_new' (Kd.S_new' (Kd.S_new' (Kd.S_new' (Kd.S_new' ho0 (Kd.S_lt (by (with_reducible repeat (first|apply Kd.S_alloc|apply Kd.S_drewN|apply Kd.S_drew));exact HO280.out))) (Kd.S_lt (by (with_reducible repeat (first|apply Kd.S_alloc|apply Kd.S_drewN|apply Kd.S_drew));exact HO283.out))) (Kd.S_lt (by (with_reducible repeat (first|apply Kd.S_alloc|apply Kd.S_drewN|apply Kd.S_drew));exact HO286.out))) (Kd.R_lt (by (with_reducible repeat (first|apply Kd.R_alloc|apply Kd.R_drewN|apply Kd.R_drew));exact HO289.out))) (Kd.R_lt (by (with_reducible repeat (first|apply Kd.R_alloc|apply Kd.R_drewN|apply Kd.R_drew));exact HO292.out))) (bz_ (by repeat (first|(with_reducible first|exact HB.out|apply ba_|apply pd_|apply b1_|refine bs_ ?_ GE272.out|refine bs_ ?_ GE273.out)|exact HB.out))));have n6_:=A_ (Kd.S_lower (Kd.S_new' (Kd.S_new' (Kd.S_new' (Kd.S_new' (Kd.S_new' ho1 (Kd.S_lt (by (with_reducible repeat (first|apply Kd.S_alloc|apply Kd.S_drewN|apply Kd.S_drew));exact HO280.out))) (Kd.S_lt (by (with_reducible repeat (first|apply Kd.S_alloc|apply Kd.S_drewN|apply Kd.S_drew));exact HO283.out))) (Kd.S_lt (by (with_reducible repeat (first|apply Kd.S_alloc|apply Kd.S_drewN|apply Kd.S_drew));exact HO286.out))) (Kd.R_lt (by (with_reducible repeat (first|apply Kd.R_alloc|apply Kd.R_drewN|apply Kd.R_drew));exact HO289.out))) (Kd.R_lt (by (with_reducible repeat (first|apply Kd.R_alloc|apply Kd.R_drewN|apply Kd.R_drew));exact HO292.out))) (bz_ (by repeat (first|(with_reducible first|exact HB.out|apply ba_|apply pd_|apply b1_|refine bs_ ?_ GE272.out|refine bs_ ?_ GE273.out)|exact HB.out))));have n7_:=A_ (Kd.S_lower (Kd.S_new' (Kd.S_new' (Kd.S_new' (Kd.S_new' (Kd.S_new' ho2 (Kd.S_lt (by (with_reducible repeat (first|apply Kd.S_alloc|apply Kd.S_drewN|apply Kd.S_drew));exact HO280.out))) (Kd.S_lt (by (with_reducible repeat (first|apply Kd.S_alloc|apply Kd.S_drewN|apply Kd.S_drew));exact HO283.out))) (Kd.S_lt (by (with_reducible repeat (first|apply Kd.S_alloc|apply Kd.S_drewN|apply Kd.S_drew));exact HO286.out))) (Kd.R_lt (by (with_reducible repeat (first|apply Kd.R_alloc|apply Kd.R_drewN|apply Kd.R_drew));exact HO289.out))) (Kd.R_lt (by (with_reducible repeat (first|apply Kd.R_alloc|apply Kd.R_drewN|apply Kd.R_drew));exact HO292.out))) (bz_ (by repeat (first|(with_reducible first|exact HB.out|apply ba_|apply pd_|apply b1_|refine bs_ ?_ GE272.out|refine bs_ ?_ GE273.out)|exact HB.out))));have n8_:=A_ (Kd.R_lower (Kd.R_new' (Kd.R_new' ho3 (Kd.R_lt (by (with_reducible repeat (first|apply Kd.R_alloc|apply Kd.R_drewN|apply Kd.R_drew));exact HO289.out))) (Kd.R_lt (by (with_reducible repeat (first|apply Kd.R_alloc|apply Kd.R_drewN|apply Kd.R_drew));exact HO292.out))) (bz_ (by repeat (first|(with_reducible first|exact HB.out|apply ba_|apply pd_|apply b1_|refine bs_ ?_ GE272.out|refine bs_ ?_ GE273.out)|exact HB.out))));have n9_:=A_ (Kd.R_lower (Kd.R_new' (Kd.R_new' ho4 (Kd.R_lt (by (with_reducible repeat (first|apply Kd.R_alloc|apply Kd.R_drewN|apply Kd.R_drew));exact HO289.out))) (Kd.R_lt (by (with_reducible repeat (first|apply Kd.R_alloc|apply Kd.R_drewN|apply Kd.R_drew));exact HO292.out))) (bz_ (by repeat (first|(with_reducible first|exact HB.out|apply ba_|apply pd_|apply b1_|refine bs_ ?_ GE272.out|refine bs_ ?_ GE273.out)|exact HB.out))));have n10_:=A_ (kb_ (g:=gb272) (o:=.cells #[.bool a0_0,.bool a0_1,.slice A0_2 l0_2.length c0_2,.slice A0_3 l0_3.length c0_3,.slice A0_4 l0_4.length c0_4,.slice A0_5 l0_5.length c0_5,.slice A0_6 l0_6.length c0_6,.bool a0_7,.bool a0_8] 43 (0,0)) (by (with_reducible repeat (first|refine kn_ ?_ _|refine kd_ ?_|refine ka_ ?_ _));exact BK272.out) hb);have n11_:=A_ (kb_ (g:=gb273) (o:=.cells #[.string a3_0,.string a3_1] 45 (0,0)) (by (with_reducible repeat (first|refine kn_ ?_ _|refine kd_ ?_|refine ka_ ?_ _));exact BK273.out) hb);have n12_:=A_ (bp_ (by repeat (first|(with_reducible first|exact HB.out|apply ba_|apply pd_|apply b1_|refine bs_ ?_ GE272.out|refine bs_ ?_ GE273.out)|exact HB.out)) hb);clear HO280;clear HO283;clear HO286;clear HO289;clear HO292;clear BK272;clear BK273;clear HB;have HO280:=n0_;have HO283:=n1_;have HO286:=n2_;have HO289:=n3_;have HO292:=n4_;have HO303:=n5_;have HO306:=n6_;have HO309:=n7_;have HO312:=n8_;have HO315:=n9_;have BK272:=n10_;have BK273:=n11_;have HB:=n12_;clear n0_ n1_ n2_ n3_ n4_ n5_ n6_ n7_ n8_ n9_ n10_ n11_ n12_;(try clear hb);(try clear hb2);(try clear hk);(try clear hi);(try clear ho0);(try clear ho1);(try clear ho2);(try clear ho3);(try clear ho4))|((with_reducible refine gate_dst (N:=12) rfl ?_);refine box_event ?hg (N:=12) ?hd (cs:=#[.bool false,.bool false,.slice none 0 0,.slice none 0 0,.slice none 0 0,.slice none 0 0,.slice none 0 0,.bool false,.bool false]) (t:=25) ?hr ?_;(case hd=>rfl);(case hg=>rfl);(case hr=>first|(go_simp;done)|(go_simp;rfl)|((first|(obtain ⟨_,_,rfl⟩:=Kd.R_slice HO280.out)|(obtain ⟨_,_,rfl⟩:=Kd.S_slice HO280.out)|skip);(first|(obtain ⟨_,_,rfl⟩:=Kd.R_slice HO283.out)|(obtain ⟨_,_,rfl⟩:=Kd.S_slice HO283.out)|skip);(first|(obtain ⟨_,_,rfl⟩:=Kd.R_slice HO286.out)|(obtain ⟨_,_,rfl⟩:=Kd.S_slice HO286.out)|skip);(first|(obtain ⟨_,_,rfl⟩:=Kd.R_slice HO289.out)|(obtain ⟨_,_,rfl⟩:=Kd.S_slice HO289.out)|skip);(first|(obtain ⟨_,_,rfl⟩:=Kd.R_slice HO292.out)|(obtain ⟨_,_,rfl⟩:=Kd.S_slice HO292.out)|skip);(first|(obtain ⟨_,_,rfl⟩:=Kd.R_slice HO303.out)|(obtain ⟨_,_,rfl⟩:=Kd.S_slice HO303.out)|skip);(first|(obtain ⟨_,_,rfl⟩:=Kd.R_slice HO306.out)|(obtain ⟨_,_,rfl⟩:=Kd.S_slice HO306.out)|skip);(first|(obtain ⟨_,_,rfl⟩:=Kd.R_slice HO309.out)|(obtain ⟨_,_,rfl⟩:=Kd.S_slice HO309.out)|skip);(first|(obtain ⟨_,_,rfl⟩:=Kd.R_slice HO312.out)|(obtain ⟨_,_,rfl⟩:=Kd.S_slice HO312.out)|skip);(first|(obtain ⟨_,_,rfl⟩:=Kd.R_slice HO315.out)|(obtain ⟨_,_,rfl⟩:=Kd.S_slice HO315.out)|skip);first|(go_simp;done)|(go_simp;rfl)));intro gb318 hg w49 hbox hb;have n0_:=A_ (Kd.S_below (by (with_reducible repeat (first|apply Kd.S_alloc|apply Kd.S_drewN|apply Kd.S_drew));exact HO280.out) hb);have n1_:=A_ (Kd.S_below (by (with_reducible repeat (first|apply Kd.S_alloc|apply Kd.S_drewN|apply Kd.S_drew));exact HO283.out) hb);have n2_:=A_ (Kd.S_below (by (with_reducible repeat (first|apply Kd.S_alloc|apply Kd.S_drewN|apply Kd.S_drew));exact HO286.out) hb);have n3_:=A_ (Kd.R_below (by (with_reducible repeat (first|apply Kd.R_alloc|apply Kd.R_drewN|apply Kd.R_drew));exact HO289.out) hb);have n4_:=A_ (Kd.R_below (by (with_reducible repeat (first|apply Kd.R_alloc|apply Kd.R_drewN|apply Kd.R_drew));exact HO292.out) hb);have n5_:=A_ (Kd.S_below (by (with_reducible repeat (first|apply Kd.S_alloc|apply Kd.S_drewN|apply Kd.S_drew));exact HO303.out) hb);have n6_:=A_ (Kd.S_below (by (with_reducible repeat (first|apply Kd.S_alloc|apply Kd.S_drewN|apply Kd.S_drew));exact HO306.out) hb);have n7_:=A_ (Kd.S_below (by (with_reducible repeat (first|apply Kd.S_alloc|apply Kd.S_drewN|apply Kd.S_drew));exact HO309.out) hb);have n8_:=A_ (Kd.R_below (by (with_reducible repeat (first|apply Kd.R_alloc|apply Kd.R_drewN|apply Kd.R_drew));exact HO312.out) hb);have n9_:=A_ (Kd.R_below (by (with_reducible repeat (first|apply Kd.R_alloc|apply Kd.R_drewN|apply Kd.R_drew));exact HO315.out) hb);have n10_:=A_ (kb_ (g:=gb272) (o:=.cells #[.bool a0_0,.bool a0_1,.slice A0_2 l0_2.length c0_2,.slice A0_3 l0_3.length c0_3,.slice A0_4 l0_4.length c0_4,.slice A0_5 l0_5.length c0_5,.slice A0_6 l0_6.length c0_6,.bool a0_7,.bool a0_8] 43 (0,0)) (by (with_reducible repeat (first|refine kn_ ?_ _|refine kd_ ?_|refine ka_ ?_ _));exact BK272.out) hb);have n11_:=A_ (kb_ (g:=gb273) (o:=.cells #[.string a3_0,.string a3_1] 45 (0,0)) (by (with_reducible repeat (first|refine kn_ ?_ _|refine kd_ ?_|refine ka_ ?_ _));exact BK273.out) hb);have n12_:=A_ (bp_ (by repeat (first|(with_reducible first|exact HB.out|apply ba_|apply pd_|apply b1_|refine bs_ ?_ GE272.out|refine bs_ ?_ GE273.out)|exact HB.out)) hb);have n13_:=A_ (hbox);have n14_:=A_ ((by rw [hg];exact (bz_ (by repeat (first|(with_reducible first|exact HB.out|apply ba_|apply pd_|apply b1_|refine bs_ ?_ GE272.out|refine bs_ ?_ GE273.out)|exact HB.out))):w.heap.size≤gb318));have n15_:=A_ ((by rw [hg];exact (bz_ (by repeat (first|(with_reducible first|exact HB.out|apply ba_|apply pd_|apply b1_|refine bs_ ?_ GE272.out|refine bs_ ?_ GE273.out)|exact HB.out))):w.heap.size≤gb318));have n16_:=A_ ((by rw [hg];exact Nat.ne_of_lt (blk_lt (g:=gb272) (o:=.cells #[.bool a0_0,.bool a0_1,.slice A0_2 l0_2.length c0_2,.slice A0_3 l0_3.length c0_3,.slice A0_4 l0_4.length c0_4,.slice A0_5 l0_5.length c0_5,.slice A0_6 l0_6.length c0_6,.bool a0_7,.bool a0_8] 43 (0,0)) (by (with_reducible repeat (first|refine kn_ ?_ _|refine kd_ ?_|refine ka_ ?_ _));exact BK272.out)):gb272≠gb318));have n17_:=A_ ((by rw [hg];exact Nat.ne_of_gt (blk_lt (g:=gb272) (o:=.cells #[.bool a0_0,.bool a0_1,.slice A0_2 l0_2.length c0_2,.slice A0_3 l0_3.length c0_3,.slice A0_4 l0_4.length c0_4,.slice A0_5 l0_5.length c0_5,.slice A0_6 l0_6.length c0_6,.bool a0_7,.bool a0_8] 43 (0,0)) (by (with_reducible repeat (first|refine kn_ ?_ _|refine kd_ ?_|refine ka_ ?_ _));exact BK272.out)):gb318≠gb272));have n18_:=A_ ((by rw [hg];exact Nat.ne_of_lt (blk_lt (g:=gb273) (o:=.cells #[.string a3_0,.string a3_1] 45 (0,0)) (by (with_reducible repeat (first|refine kn_ ?_ _|refine kd_ ?_|refine ka_ ?_ _));exact BK273.out)):gb273≠gb318));have n19_:=A_ ((by rw [hg];exact Nat.ne_of_gt (blk_lt (g:=gb273) (o:=.cells #[.string a3_0,.string a3_1] 45 (0,0)) (by (with_reducible repeat (first|refine kn_ ?_ _|refine kd_ ?_|refine ka_ ?_ _));exact BK273.out)):gb318≠gb273));clear HO280;clear HO283;clear HO286;clear HO289;clear HO292;clear HO303;clear HO306;clear HO309;clear HO312;clear HO315;clear BK272;clear BK273;clear HB;have HO280:=n0_;have HO283:=n1_;have HO286:=n2_;have HO289:=n3_;have HO292:=n4_;have HO303:=n5_;have HO306:=n6_;have HO309:=n7_;have HO312:=n8_;have HO315:=n9_;have BK272:=n10_;have BK273:=n11_;have HB:=n12_;have BK318:=n13_;have GW318:=n14_;have GE318:=n15_;have NB272_318:=n16_;have NB318_272:=n17_;have NB273_318:=n18_;have NB318_273:=n19_;clear n0_ n1_ n2_ n3_ n4_ n5_ n6_ n7_ n8_ n9_ n10_ n11_ n12_ n13_ n14_ n15_ n16_ n17_ n18_ n19_;clear hb hbox hg;have hnb50:=NB318_272.out;have hnc50:=NB272_318.out;have hnb51:=NB318_273.out;have hnc51:=NB273_318.out;have hcz52_0:w49.cell? ⟨gb318,0,none⟩=some (.bool false):=(bc_ BK318.out 0).trans rfl;have hcz52_1:w49.cell? ⟨gb318,1,none⟩=some (.bool false):=(bc_ BK318.out 1).trans rfl;have hcz52_2:w49.cell? ⟨gb318,2,none⟩=some (.slice none 0 0):=(bc_ BK318.out 2).trans rfl;have hcz52_3:w49.cell? ⟨gb318,3,none⟩=some (.slice none 0 0):=(bc_ BK318.out 3).trans rfl;have hcz52_4:w49.cell? ⟨gb318,4,none⟩=some (.slice none 0 0):=(bc_ BK318.out 4).trans rfl;have hcz52_5:w49.cell? ⟨gb318,5,none⟩=some (.slice none 0 0):=(bc_ BK318.out 5).trans rfl;have hcz52_6:w49.cell? ⟨gb318,6,none⟩=some (.slice none 0 0):=(bc_ BK318.out 6).trans rfl;have hcz52_7:w49.cell? ⟨gb318,7,none⟩=some (.bool false):=(bc_ BK318.out 7).trans rfl;have hcz52_8:w49.cell? ⟨gb318,8,none⟩=some (.bool false):=(bc_ BK318.out 8).trans rfl;have hfz52_0:=bf_ BK318.out 0;have hfz52_1:=bf_ BK318.out 1;have hfz52_2:=bf_ BK318.out 2;have hfz52_3:=bf_ BK318.out 3;have hfz52_4:=bf_ BK318.out 4;have hfz52_5:=bf_ BK318.out 5;have hfz52_6:=bf_ BK318.out 6;have hfz52_7:=bf_ BK318.out 7;have hfz52_8:=bf_ BK318.out 8;obtain ⟨Ao53,co53,eo53⟩:=Kd.S_slice HO303.out;subst eo53;obtain ⟨Ao54,co54,eo54⟩:=Kd.S_slice HO306.out;subst eo54;obtain ⟨Ao55,co55,eo55⟩:=Kd.S_slice HO309.out;subst eo55;obtain ⟨Ao56,co56,eo56⟩:=Kd.R_slice HO312.out;subst eo56;obtain ⟨Ao57,co57,eo57⟩:=Kd.R_slice HO315.out;subst eo57))
    have n0_:Aside0 (Kd.S k56 56 (((((((((w49.setCell ⟨gb318,0,none⟩ (.bool t299)).setCell ⟨gb318,1,none⟩ (.bool t300)).setCell ⟨gb318,2,none⟩ (.slice Ao53 t301.length co53)).setCell ⟨gb318,3,none⟩ (.slice Ao54 t304.length co54)).setCell ⟨gb318,4,none⟩ (.slice Ao55 t307.length co55)).setCell ⟨gb318,5,none⟩ (.slice Ao56 t310.length co56)).setCell ⟨gb318,6,none⟩ (.slice Ao57 t313.length co57)).setCell ⟨gb318,7,none⟩ (.bool t316)).setCell ⟨gb318,8,none⟩ (.bool t317)) w.heap.size (fun k_=>some k_≠(.slice Ao42 t281.length co42:Value).ownBlock∧some k_≠(.slice Ao43 t284.length co43:Value).ownBlock∧some k_≠(.slice Ao44 t287.length co44:Value).ownBlock∧some k_≠(.slice Ao45 t290.length co45:Value).ownBlock∧some k_≠(.slice Ao53 t301.length co53:Value).ownBlock∧some k_≠(.slice Ao54 t304.length co54:Value).ownBlock∧some k_≠(.slice Ao55 t307.length co55:Value).ownBlock∧some k_≠(.slice Ao56 t310.length co56:Value).ownBlock∧some k_≠(.slice Ao57 t313.length co57:Value).ownBlock) (.slice Ao41 t278.length co41) t278):=⟨by (with_reducible repeat (first|apply Kd.S_alloc|apply Kd.S_drewN|apply Kd.S_drew));exact Kd.S_mono (Mach.S_far9 (Kd.S_types HO280.out BK318.out (by decide)) (fun _ hk=>hk.2)) (fun _ hk=>⟨hk.1.1.1.1.1.1.1,⟨hk.1.1.1.1.1.1.2.1,⟨hk.1.1.1.1.1.1.2.2.1,⟨hk.1.1.1.1.1.1.2.2.2,⟨hk.1.1.1.1.1.2,⟨hk.1.1.1.1.2,⟨hk.1.1.1.2,⟨hk.1.1.2,hk.1.2⟩⟩⟩⟩⟩⟩⟩⟩)⟩
    have n1_:Aside0 (Kd.S k56 56 (((((((((w49.setCell ⟨gb318,0,none⟩ (.bool t299)).setCell ⟨gb318,1,none⟩ (.bool t300)).setCell ⟨gb318,2,none⟩ (.slice Ao53 t301.length co53)).setCell ⟨gb318,3,none⟩ (.slice Ao54 t304.length co54)).setCell ⟨gb318,4,none⟩ (.slice Ao55 t307.length co55)).setCell ⟨gb318,5,none⟩ (.slice Ao56 t310.length co56)).setCell ⟨gb318,6,none⟩ (.slice Ao57 t313.length co57)).setCell ⟨gb318,7,none⟩ (.bool t316)).setCell ⟨gb318,8,none⟩ (.bool t317)) w.heap.size (fun k_=>some k_≠(.slice Ao41 t278.length co41:Value).ownBlock∧some k_≠(.slice Ao43 t284.length co43:Value).ownBlock∧some k_≠(.slice Ao44 t287.length co44:Value).ownBlock∧some k_≠(.slice Ao45 t290.length co45:Value).ownBlock∧some k_≠(.slice Ao53 t301.length co53:Value).ownBlock∧some k_≠(.slice Ao54 t304.length co54:Value).ownBlock∧some k_≠(.slice Ao55 t307.length co55:Value).ownBlock∧some k_≠(.slice Ao56 t310.length co56:Value).ownBlock∧some k_≠(.slice Ao57 t313.length co57:Value).ownBlock) (.slice Ao42 t281.length co42) t281):=⟨by (with_reducible repeat (first|apply Kd.S_alloc|apply Kd.S_drewN|apply Kd.S_drew));exact Kd.S_mono (Mach.S_far9 (Kd.S_types HO283.out BK318.out (by decide)) (fun _ hk=>hk.2)) (fun _ hk=>⟨hk.1.1.1.1.1.1.1,⟨hk.1.1.1.1.1.1.2.1,⟨hk.1.1.1.1.1.1.2.2.1,⟨hk.1.1.1.1.1.1.2.2.2,⟨hk.1.1.1.1.1.2,⟨hk.1.1.1.1.2,⟨hk.1.1.1.2,⟨hk.1.1.2,hk.1.2⟩⟩⟩⟩⟩⟩⟩⟩)⟩
    have n2_:Aside0 (Kd.S k56 56 (((((((((w49.setCell ⟨gb318,0,none⟩ (.bool t299)).setCell ⟨gb318,1,none⟩ (.bool t300)).setCell ⟨gb318,2,none⟩ (.slice Ao53 t301.length co53)).setCell ⟨gb318,3,none⟩ (.slice Ao54 t304.length co54)).setCell ⟨gb318,4,none⟩ (.slice Ao55 t307.length co55)).setCell ⟨gb318,5,none⟩ (.slice Ao56 t310.length co56)).setCell ⟨gb318,6,none⟩ (.slice Ao57 t313.length co57)).setCell ⟨gb318,7,none⟩ (.bool t316)).setCell ⟨gb318,8,none⟩ (.bool t317)) w.heap.size (fun k_=>some k_≠(.slice Ao41 t278.length co41:Value).ownBlock∧some k_≠(.slice Ao42 t281.length co42:Value).ownBlock∧some k_≠(.slice Ao44 t287.length co44:Value).ownBlock∧some k_≠(.slice Ao45 t290.length co45:Value).ownBlock∧some k_≠(.slice Ao53 t301.length co53:Value).ownBlock∧some k_≠(.slice Ao54 t304.length co54:Value).ownBlock∧some k_≠(.slice Ao55 t307.length co55:Value).ownBlock∧some k_≠(.slice Ao56 t310.length co56:Value).ownBlock∧some k_≠(.slice Ao57 t313.length co57:Value).ownBlock) (.slice Ao43 t284.length co43) t284):=⟨by (with_reducible repeat (first|apply Kd.S_alloc|apply Kd.S_drewN|apply Kd.S_drew));exact Kd.S_mono (Mach.S_far9 (Kd.S_types HO286.out BK318.out (by decide)) (fun _ hk=>hk.2)) (fun _ hk=>⟨hk.1.1.1.1.1.1.1,⟨hk.1.1.1.1.1.1.2.1,⟨hk.1.1.1.1.1.1.2.2.1,⟨hk.1.1.1.1.1.1.2.2.2,⟨hk.1.1.1.1.1.2,⟨hk.1.1.1.1.2,⟨hk.1.1.1.2,⟨hk.1.1.2,hk.1.2⟩⟩⟩⟩⟩⟩⟩⟩)⟩
    have n3_:Aside0 (Kd.R Kd.string 9 (((((((((w49.setCell ⟨gb318,0,none⟩ (.bool t299)).setCell ⟨gb318,1,none⟩ (.bool t300)).setCell ⟨gb318,2,none⟩ (.slice Ao53 t301.length co53)).setCell ⟨gb318,3,none⟩ (.slice Ao54 t304.length co54)).setCell ⟨gb318,4,none⟩ (.slice Ao55 t307.length co55)).setCell ⟨gb318,5,none⟩ (.slice Ao56 t310.length co56)).setCell ⟨gb318,6,none⟩ (.slice Ao57 t313.length co57)).setCell ⟨gb318,7,none⟩ (.bool t316)).setCell ⟨gb318,8,none⟩ (.bool t317)) w.heap.size (fun k_=>some k_≠(.slice Ao45 t290.length co45:Value).ownBlock∧some k_≠(.slice Ao56 t310.length co56:Value).ownBlock∧some k_≠(.slice Ao57 t313.length co57:Value).ownBlock) (.slice Ao44 t287.length co44) t287):=⟨by (with_reducible repeat (first|apply Kd.R_alloc|apply Kd.R_drewN|apply Kd.R_drew));exact Kd.R_mono (Mach.R_far9 (Kd.R_types HO289.out BK318.out (by decide)) (fun _ hk=>hk.2)) (fun _ hk=>⟨hk.1.1.1,⟨hk.1.1.2,hk.1.2⟩⟩)⟩
    have n4_:Aside0 (Kd.R Kd.string 9 (((((((((w49.setCell ⟨gb318,0,none⟩ (.bool t299)).setCell ⟨gb318,1,none⟩ (.bool t300)).setCell ⟨gb318,2,none⟩ (.slice Ao53 t301.length co53)).setCell ⟨gb318,3,none⟩ (.slice Ao54 t304.length co54)).setCell ⟨gb318,4,none⟩ (.slice Ao55 t307.length co55)).setCell ⟨gb318,5,none⟩ (.slice Ao56 t310.length co56)).setCell ⟨gb318,6,none⟩ (.slice Ao57 t313.length co57)).setCell ⟨gb318,7,none⟩ (.bool t316)).setCell ⟨gb318,8,none⟩ (.bool t317)) w.heap.size (fun k_=>some k_≠(.slice Ao44 t287.length co44:Value).ownBlock∧some k_≠(.slice Ao56 t310.length co56:Value).ownBlock∧some k_≠(.slice Ao57 t313.length co57:Value).ownBlock) (.slice Ao45 t290.length co45) t290):=⟨by (with_reducible repeat (first|apply Kd.R_alloc|apply Kd.R_drewN|apply Kd.R_drew));exact Kd.R_mono (Mach.R_far9 (Kd.R_types HO292.out BK318.out (by decide)) (fun _ hk=>hk.2)) (fun _ hk=>⟨hk.1.1.1,⟨hk.1.1.2,hk.1.2⟩⟩)⟩
    have n5_:Aside0 (Kd.S k56 56 (((((((((w49.setCell ⟨gb318,0,none⟩ (.bool t299)).setCell ⟨gb318,1,none⟩ (.bool t300)).setCell ⟨gb318,2,none⟩ (.slice Ao53 t301.length co53)).setCell ⟨gb318,3,none⟩ (.slice Ao54 t304.length co54)).setCell ⟨gb318,4,none⟩ (.slice Ao55 t307.length co55)).setCell ⟨gb318,5,none⟩ (.slice Ao56 t310.length co56)).setCell ⟨gb318,6,none⟩ (.slice Ao57 t313.length co57)).setCell ⟨gb318,7,none⟩ (.bool t316)).setCell ⟨gb318,8,none⟩ (.bool t317)) w.heap.size (fun k_=>some k_≠(.slice Ao41 t278.length co41:Value).ownBlock∧some k_≠(.slice Ao42 t281.length co42:Value).ownBlock∧some k_≠(.slice Ao43 t284.length co43:Value).ownBlock∧some k_≠(.slice Ao44 t287.length co44:Value).ownBlock∧some k_≠(.slice Ao45 t290.length co45:Value).ownBlock∧some k_≠(.slice Ao54 t304.length co54:Value).ownBlock∧some k_≠(.slice Ao55 t307.length co55:Value).ownBlock∧some k_≠(.slice Ao56 t310.length co56:Value).ownBlock∧some k_≠(.slice Ao57 t313.length co57:Value).ownBlock) (.slice Ao53 t301.length co53) t301):=⟨by (with_reducible repeat (first|apply Kd.S_alloc|apply Kd.S_drewN|apply Kd.S_drew));exact Kd.S_mono (Mach.S_far9 (Kd.S_types HO303.out BK318.out (by decide)) (fun _ hk=>hk.2)) (fun _ hk=>⟨hk.1.1.1.1.1.2,⟨hk.1.1.1.1.2,⟨hk.1.1.1.2,⟨hk.1.1.2,⟨hk.1.2,⟨hk.1.1.1.1.1.1.1,⟨hk.1.1.1.1.1.1.2.1,⟨hk.1.1.1.1.1.1.2.2.1,hk.1.1.1.1.1.1.2.2.2⟩⟩⟩⟩⟩⟩⟩⟩)⟩
    have n6_:Aside0 (Kd.S k56 56 (((((((((w49.setCell ⟨gb318,0,none⟩ (.bool t299)).setCell ⟨gb318,1,none⟩ (.bool t300)).setCell ⟨gb318,2,none⟩ (.slice Ao53 t301.length co53)).setCell ⟨gb318,3,none⟩ (.slice Ao54 t304.length co54)).setCell ⟨gb318,4,none⟩ (.slice Ao55 t307.length co55)).setCell ⟨gb318,5,none⟩ (.slice Ao56 t310.length co56)).setCell ⟨gb318,6,none⟩ (.slice Ao57 t313.length co57)).setCell ⟨gb318,7,none⟩ (.bool t316)).setCell ⟨gb318,8,none⟩ (.bool t317)) w.heap.size (fun k_=>some k_≠(.slice Ao41 t278.length co41:Value).ownBlock∧some k_≠(.slice Ao42 t281.length co42:Value).ownBlock∧some k_≠(.slice Ao43 t284.length co43:Value).ownBlock∧some k_≠(.slice Ao44 t287.length co44:Value).ownBlock∧some k_≠(.slice Ao45 t290.length co45:Value).ownBlock∧some k_≠(.slice Ao53 t301.length co53:Value).ownBlock∧some k_≠(.slice Ao55 t307.length co55:Value).ownBlock∧some k_≠(.slice Ao56 t310.length co56:Value).ownBlock∧some k_≠(.slice Ao57 t313.length co57:Value).ownBlock) (.slice Ao54 t304.length co54) t304):=⟨by (with_reducible repeat (first|apply Kd.S_alloc|apply Kd.S_drewN|apply Kd.S_drew));exact Kd.S_mono (Mach.S_far9 (Kd.S_types HO306.out BK318.out (by decide)) (fun _ hk=>hk.2)) (fun _ hk=>⟨hk.1.1.1.1.1.2,⟨hk.1.1.1.1.2,⟨hk.1.1.1.2,⟨hk.1.1.2,⟨hk.1.2,⟨hk.1.1.1.1.1.1.1,⟨hk.1.1.1.1.1.1.2.1,⟨hk.1.1.1.1.1.1.2.2.1,hk.1.1.1.1.1.1.2.2.2⟩⟩⟩⟩⟩⟩⟩⟩)⟩
    have n7_:Aside0 (Kd.S k56 56 (((((((((w49.setCell ⟨gb318,0,none⟩ (.bool t299)).setCell ⟨gb318,1,none⟩ (.bool t300)).setCell ⟨gb318,2,none⟩ (.slice Ao53 t301.length co53)).setCell ⟨gb318,3,none⟩ (.slice Ao54 t304.length co54)).setCell ⟨gb318,4,none⟩ (.slice Ao55 t307.length co55)).setCell ⟨gb318,5,none⟩ (.slice Ao56 t310.length co56)).setCell ⟨gb318,6,none⟩ (.slice Ao57 t313.length co57)).setCell ⟨gb318,7,none⟩ (.bool t316)).setCell ⟨gb318,8,none⟩ (.bool t317)) w.heap.size (fun k_=>some k_≠(.slice Ao41 t278.length co41:Value).ownBlock∧some k_≠(.slice Ao42 t281.length co42:Value).ownBlock∧some k_≠(.slice Ao43 t284.length co43:Value).ownBlock∧some k_≠(.slice Ao44 t287.length co44:Value).ownBlock∧some k_≠(.slice Ao45 t290.length co45:Value).ownBlock∧some k_≠(.slice Ao53 t301.length co53:Value).ownBlock∧some k_≠(.slice Ao54 t304.length co54:Value).ownBlock∧some k_≠(.slice Ao56 t310.length co56:Value).ownBlock∧some k_≠(.slice Ao57 t313.length co57:Value).ownBlock) (.slice Ao55 t307.length co55) t307):=⟨by (with_reducible repeat (first|apply Kd.S_alloc|apply Kd.S_drewN|apply Kd.S_drew));exact Kd.S_mono (Mach.S_far9 (Kd.S_types HO309.out BK318.out (by decide)) (fun _ hk=>hk.2)) (fun _ hk=>⟨hk.1.1.1.1.1.2,⟨hk.1.1.1.1.2,⟨hk.1.1.1.2,⟨hk.1.1.2,⟨hk.1.2,⟨hk.1.1.1.1.1.1.1,⟨hk.1.1.1.1.1.1.2.1,⟨hk.1.1.1.1.1.1.2.2.1,hk.1.1.1.1.1.1.2.2.2⟩⟩⟩⟩⟩⟩⟩⟩)⟩
    have n8_:Aside0 (Kd.R Kd.string 9 (((((((((w49.setCell ⟨gb318,0,none⟩ (.bool t299)).setCell ⟨gb318,1,none⟩ (.bool t300)).setCell ⟨gb318,2,none⟩ (.slice Ao53 t301.length co53)).setCell ⟨gb318,3,none⟩ (.slice Ao54 t304.length co54)).setCell ⟨gb318,4,none⟩ (.slice Ao55 t307.length co55)).setCell ⟨gb318,5,none⟩ (.slice Ao56 t310.length co56)).setCell ⟨gb318,6,none⟩ (.slice Ao57 t313.length co57)).setCell ⟨gb318,7,none⟩ (.bool t316)).setCell ⟨gb318,8,none⟩ (.bool t317)) w.heap.size (fun k_=>some k_≠(.slice Ao44 t287.length co44:Value).ownBlock∧some k_≠(.slice Ao45 t290.length co45:Value).ownBlock∧some k_≠(.slice Ao57 t313.length co57:Value).ownBlock) (.slice Ao56 t310.length co56) t310):=⟨by (with_reducible repeat (first|apply Kd.R_alloc|apply Kd.R_drewN|apply Kd.R_drew));exact Kd.R_mono (Mach.R_far9 (Kd.R_types HO312.out BK318.out (by decide)) (fun _ hk=>hk.2)) (fun _ hk=>⟨hk.1.1.2,⟨hk.1.2,hk.1.1.1⟩⟩)⟩
    have n9_:Aside0 (Kd.R Kd.string 9 (((((((((w49.setCell ⟨gb318,0,none⟩ (.bool t299)).setCell ⟨gb318,1,none⟩ (.bool t300)).setCell ⟨gb318,2,none⟩ (.slice Ao53 t301.length co53)).setCell ⟨gb318,3,none⟩ (.slice Ao54 t304.length co54)).setCell ⟨gb318,4,none⟩ (.slice Ao55 t307.length co55)).setCell ⟨gb318,5,none⟩ (.slice Ao56 t310.length co56)).setCell ⟨gb318,6,none⟩ (.slice Ao57 t313.length co57)).setCell ⟨gb318,7,none⟩ (.bool t316)).setCell ⟨gb318,8,none⟩ (.bool t317)) w.heap.size (fun k_=>some k_≠(.slice Ao44 t287.length co44:Value).ownBlock∧some k_≠(.slice Ao45 t290.length co45:Value).ownBlock∧some k_≠(.slice Ao56 t310.length co56:Value).ownBlock) (.slice Ao57 t313.length co57) t313):=⟨by (with_reducible repeat (first|apply Kd.R_alloc|apply Kd.R_drewN|apply Kd.R_drew));exact Kd.R_mono (Mach.R_far9 (Kd.R_types HO315.out BK318.out (by decide)) (fun _ hk=>hk.2)) (fun _ hk=>⟨hk.1.1.2,⟨hk.1.2,hk.1.1.1⟩⟩)⟩
    have n10_:Aside0 ((((((((((w49.setCell ⟨gb318,0,none⟩ (.bool t299)).setCell ⟨gb318,1,none⟩ (.bool t300)).setCell ⟨gb318,2,none⟩ (.slice Ao53 t301.length co53)).setCell ⟨gb318,3,none⟩ (.slice Ao54 t304.length co54)).setCell ⟨gb318,4,none⟩ (.slice Ao55 t307.length co55)).setCell ⟨gb318,5,none⟩ (.slice Ao56 t310.length co56)).setCell ⟨gb318,6,none⟩ (.slice Ao57 t313.length co57)).setCell ⟨gb318,7,none⟩ (.bool t316)).setCell ⟨gb318,8,none⟩ (.bool t317)).heap[gb272]? = some (.cells #[.bool a0_0,.bool a0_1,.slice A0_2 l0_2.length c0_2,.slice A0_3 l0_3.length c0_3,.slice A0_4 l0_4.length c0_4,.slice A0_5 l0_5.length c0_5,.slice A0_6 l0_6.length c0_6,.bool a0_7,.bool a0_8] 43 (0,0))):=⟨by (with_reducible repeat (first|refine kn_ ?_ _|refine kd_ ?_|refine ka_ ?_ _));refine blk_far ?_ NB272_318.out _;(with_reducible repeat (first|refine kn_ ?_ _|refine kd_ ?_|refine ka_ ?_ _));refine blk_far ?_ NB272_318.out _;(with_reducible repeat (first|refine kn_ ?_ _|refine kd_ ?_|refine ka_ ?_ _));refine blk_far ?_ NB272_318.out _;(with_reducible repeat (first|refine kn_ ?_ _|refine kd_ ?_|refine ka_ ?_ _));refine blk_far ?_ NB272_318.out _;(with_reducible repeat (first|refine kn_ ?_ _|refine kd_ ?_|refine ka_ ?_ _));refine blk_far ?_ NB272_318.out _;(with_reducible repeat (first|refine kn_ ?_ _|refine kd_ ?_|refine ka_ ?_ _));refine blk_far ?_ NB272_318.out _;(with_reducible repeat (first|refine kn_ ?_ _|refine kd_ ?_|refine ka_ ?_ _));refine blk_far ?_ NB272_318.out _;(with_reducible repeat (first|refine kn_ ?_ _|refine kd_ ?_|refine ka_ ?_ _));refine blk_far ?_ NB272_318.out _;(with_reducible repeat (first|refine kn_ ?_ _|refine kd_ ?_|refine ka_ ?_ _));refine blk_far ?_ NB272_318.out _;(with_reducible repeat (first|refine kn_ ?_ _|refine kd_ ?_|refine ka_ ?_ _));exact BK272.out⟩
    have n11_:Aside0 ((((((((((w49.setCell ⟨gb318,0,none⟩ (.bool t299)).setCell ⟨gb318,1,none⟩ (.bool t300)).setCell ⟨gb318,2,none⟩ (.slice Ao53 t301.length co53)).setCell ⟨gb318,3,none⟩ (.slice Ao54 t304.length co54)).setCell ⟨gb318,4,none⟩ (.slice Ao55 t307.length co55)).setCell ⟨gb318,5,none⟩ (.slice Ao56 t310.length co56)).setCell ⟨gb318,6,none⟩ (.slice Ao57 t313.length co57)).setCell ⟨gb318,7,none⟩ (.bool t316)).setCell ⟨gb318,8,none⟩ (.bool t317)).heap[gb273]? = some (.cells #[.string a3_0,.string a3_1] 45 (0,0))):=⟨by (with_reducible repeat (first|refine kn_ ?_ _|refine kd_ ?_|refine ka_ ?_ _));refine blk_far ?_ NB273_318.out _;(with_reducible repeat (first|refine kn_ ?_ _|refine kd_ ?_|refine ka_ ?_ _));refine blk_far ?_ NB273_318.out _;(with_reducible repeat (first|refine kn_ ?_ _|refine kd_ ?_|refine ka_ ?_ _));refine blk_far ?_ NB273_318.out _;(with_reducible repeat (first|refine kn_ ?_ _|refine kd_ ?_|refine ka_ ?_ _));refine blk_far ?_ NB273_318.out _;(with_reducible repeat (first|refine kn_ ?_ _|refine kd_ ?_|refine ka_ ?_ _));refine blk_far ?_ NB273_318.out _;(with_reducible repeat (first|refine kn_ ?_ _|refine kd_ ?_|refine ka_ ?_ _));refine blk_far ?_ NB273_318.out _;(with_reducible repeat (first|refine kn_ ?_ _|refine kd_ ?_|refine ka_ ?_ _));refine blk_far ?_ NB273_318.out _;(with_reducible repeat (first|refine kn_ ?_ _|refine kd_ ?_|refine ka_ ?_ _));refine blk_far ?_ NB273_318.out _;(with_reducible repeat (first|refine kn_ ?_ _|refine kd_ ?_|refine ka_ ?_ _));refine blk_far ?_ NB273_318.out _;(with_reducible repeat (first|refine kn_ ?_ _|refine kd_ ?_|refine ka_ ?_ _));exact BK273.out⟩
    have n12_:Aside0 ((((((((((w49.setCell ⟨gb318,0,none⟩ (.bool t299)).setCell ⟨gb318,1,none⟩ (.bool t300)).setCell ⟨gb318,2,none⟩ (.slice Ao53 t301.length co53)).setCell ⟨gb318,3,none⟩ (.slice Ao54 t304.length co54)).setCell ⟨gb318,4,none⟩ (.slice Ao55 t307.length co55)).setCell ⟨gb318,5,none⟩ (.slice Ao56 t310.length co56)).setCell ⟨gb318,6,none⟩ (.slice Ao57 t313.length co57)).setCell ⟨gb318,7,none⟩ (.bool t316)).setCell ⟨gb318,8,none⟩ (.bool t317)).heap[gb318]? = some (.cells #[.bool t299,.bool t300,.slice Ao53 t301.length co53,.slice Ao54 t304.length co54,.slice Ao55 t307.length co55,.slice Ao56 t310.length co56,.slice Ao57 t313.length co57,.bool t316,.bool t317] 25 (0,0))):=⟨by (with_reducible repeat (first|refine kn_ ?_ _|refine kd_ ?_|refine ka_ ?_ _));refine blk_put (cs:=#[.bool t299,.bool t300,.slice Ao53 t301.length co53,.slice Ao54 t304.length co54,.slice Ao55 t307.length co55,.slice Ao56 t310.length co56,.slice Ao57 t313.length co57,.bool t316,.bool false]) ?_ 8 _ rfl;(with_reducible repeat (first|refine kn_ ?_ _|refine kd_ ?_|refine ka_ ?_ _));refine blk_put (cs:=#[.bool t299,.bool t300,.slice Ao53 t301.length co53,.slice Ao54 t304.length co54,.slice Ao55 t307.length co55,.slice Ao56 t310.length co56,.slice Ao57 t313.length co57,.bool false,.bool false]) ?_ 7 _ rfl;(with_reducible repeat (first|refine kn_ ?_ _|refine kd_ ?_|refine ka_ ?_ _));refine blk_put (cs:=#[.bool t299,.bool t300,.slice Ao53 t301.length co53,.slice Ao54 t304.length co54,.slice Ao55 t307.length co55,.slice Ao56 t310.length co56,.slice none 0 0,.bool false,.bool false]) ?_ 6 _ rfl;(with_reducible repeat (first|refine kn_ ?_ _|refine kd_ ?_|refine ka_ ?_ _));refine blk_put (cs:=#[.bool t299,.bool t300,.slice Ao53 t301.length co53,.slice Ao54 t304.length co54,.slice Ao55 t307.length co55,.slice none 0 0,.slice none 0 0,.bool false,.bool false]) ?_ 5 _ rfl;(with_reducible repeat (first|refine kn_ ?_ _|refine kd_ ?_|refine ka_ ?_ _));refine blk_put (cs:=#[.bool t299,.bool t300,.slice Ao53 t301.length co53,.slice Ao54 t304.length co54,.slice none 0 0,.slice none 0 0,.slice none 0 0,.bool false,.bool false]) ?_ 4 _ rfl;(with_reducible repeat (first|refine kn_ ?_ _|refine kd_ ?_|refine ka_ ?_ _));refine blk_put (cs:=#[.bool t299,.bool t300,.slice Ao53 t301.length co53,.slice none 0 0,.slice none 0 0,.slice none 0 0,.slice none 0 0,.bool false,.bool false]) ?_ 3 _ rfl;(with_reducible repeat (first|refine kn_ ?_ _|refine kd_ ?_|refine ka_ ?_ _));refine blk_put (cs:=#[.bool t299,.bool t300,.slice none 0 0,.slice none 0 0,.slice none 0 0,.slice none 0 0,.slice none 0 0,.bool false,.bool false]) ?_ 2 _ rfl;(with_reducible repeat (first|refine kn_ ?_ _|refine kd_ ?_|refine ka_ ?_ _));refine blk_put (cs:=#[.bool t299,.bool false,.slice none 0 0,.slice none 0 0,.slice none 0 0,.slice none 0 0,.slice none 0 0,.bool false,.bool false]) ?_ 1 _ rfl;(with_reducible repeat (first|refine kn_ ?_ _|refine kd_ ?_|refine ka_ ?_ _));refine blk_put (cs:=#[.bool false,.bool false,.slice none 0 0,.slice none 0 0,.slice none 0 0,.slice none 0 0,.slice none 0 0,.bool false,.bool false]) ?_ 0 _ rfl;(with_reducible repeat (first|refine kn_ ?_ _|refine kd_ ?_|refine ka_ ?_ _));exact BK318.out⟩
    have n13_:Aside0 (Below w.heap.size w (((((((((w49.setCell ⟨gb318,0,none⟩ (.bool t299)).setCell ⟨gb318,1,none⟩ (.bool t300)).setCell ⟨gb318,2,none⟩ (.slice Ao53 t301.length co53)).setCell ⟨gb318,3,none⟩ (.slice Ao54 t304.length co54)).setCell ⟨gb318,4,none⟩ (.slice Ao55 t307.length co55)).setCell ⟨gb318,5,none⟩ (.slice Ao56 t310.length co56)).setCell ⟨gb318,6,none⟩ (.slice Ao57 t313.length co57)).setCell ⟨gb318,7,none⟩ (.bool t316)).setCell ⟨gb318,8,none⟩ (.bool t317))):=⟨by repeat (first|(with_reducible first|exact HB.out|apply ba_|apply pd_|apply b1_|refine bs_ ?_ GE272.out|refine bs_ ?_ GE273.out|refine bs_ ?_ GE318.out)|exact HB.out)⟩
    (try clear HO280)
    (try clear HO283)
    (try clear HO286)
    (try clear HO289)
    (try clear HO292)
    (try clear HO303)
    (try clear HO306)
    (try clear HO309)
    (try clear HO312)
    (try clear HO315)
    (try clear BK272)
    (try clear BK273)
    (try clear BK318)
    (try clear HB)
    generalize (((((((((w49.setCell ⟨gb318,0,none⟩ (.bool t299)).setCell ⟨gb318,1,none⟩ (.bool t300)).setCell ⟨gb318,2,none⟩ (.slice Ao53 t301.length co53)).setCell ⟨gb318,3,none⟩ (.slice Ao54 t304.length co54)).setCell ⟨gb318,4,none⟩ (.slice Ao55 t307.length co55)).setCell ⟨gb318,5,none⟩ (.slice Ao56 t310.length co56)).setCell ⟨gb318,6,none⟩ (.slice Ao57 t313.length co57)).setCell ⟨gb318,7,none⟩ (.bool t316)).setCell ⟨gb318,8,none⟩ (.bool t317))=w58 at n0_ n1_ n2_ n3_ n4_ n5_ n6_ n7_ n8_ n9_ n10_ n11_ n12_ n13_ ⊢
    have HO280:=n0_
    have HO283:=n1_
    have HO286:=n2_
    have HO289:=n3_
    have HO292:=n4_
    have HO303:=n5_
    have HO306:=n6_
    have HO309:=n7_
    have HO312:=n8_
    have HO315:=n9_
    have BK272:=n10_
    have BK273:=n11_
    have BK318:=n12_
    have HB:=n13_
    clear n0_ n1_ n2_ n3_ n4_ n5_ n6_ n7_ n8_ n9_ n10_ n11_ n12_ n13_
    have n0_:=A_ (Kd.S_drew HO280.out)
    have n1_:=A_ (Kd.S_drew HO283.out)
    have n2_:=A_ (Kd.S_drew HO286.out)
    have n3_:=A_ (Kd.R_drew HO289.out)
    have n4_:=A_ (Kd.R_drew HO292.out)
    have n5_:=A_ (Kd.S_drew HO303.out)
    have n6_:=A_ (Kd.S_drew HO306.out)
    have n7_:=A_ (Kd.S_drew HO309.out)
    have n8_:=A_ (Kd.R_drew HO312.out)
    have n9_:=A_ (Kd.R_drew HO315.out)
    have n10_:=A_ (kd_ BK272.out)
    have n11_:=A_ (kd_ BK273.out)
    have n12_:=A_ (kd_ BK318.out)
    have n13_:=A_ (b1_ HB.out)
    clear HO280
    clear HO283
    clear HO286
    clear HO289
    clear HO292
    clear HO303
    clear HO306
    clear HO309
    clear HO312
    clear HO315
    clear BK272
    clear BK273
    clear BK318
    clear HB
    have HO280:=n0_
    have HO283:=n1_
    have HO286:=n2_
    have HO289:=n3_
    have HO292:=n4_
    have HO303:=n5_
    have HO306:=n6_
    have HO309:=n7_
    have HO312:=n8_
    have HO315:=n9_
    have BK272:=n10_
    have BK273:=n11_
    have BK318:=n12_
    have HB:=n13_
    clear n0_ n1_ n2_ n3_ n4_ n5_ n6_ n7_ n8_ n9_ n10_ n11_ n12_ n13_
    refine start_ (n:=11) (S:=fun w'=>w'.cell? ⟨gb318,0,none⟩=some (.bool t299)∧w'.cell? ⟨gb318,1,none⟩=some (.bool t300)∧w'.cell? ⟨gb318,2,none⟩=some (.slice Ao53 t301.length co53)∧w'.cell? ⟨gb318,3,none⟩=some (.slice Ao54 t304.length co54)∧w'.cell? ⟨gb318,4,none⟩=some (.slice Ao55 t307.length co55)∧w'.cell? ⟨gb318,5,none⟩=some (.slice Ao56 t310.length co56)∧w'.cell? ⟨gb318,6,none⟩=some (.slice Ao57 t313.length co57)∧w'.cell? ⟨gb318,7,none⟩=some (.bool t316)∧w'.cell? ⟨gb318,8,none⟩=some (.bool t317)∧w'.cell? ⟨gb273,0,none⟩=some (.string a3_0)∧w'.cell? ⟨gb273,1,none⟩=some (.string a3_1)) (ds:=[]) #[F_,F_,F_,F_,F_,F_,F_,F_,F_,F_,F_] (by kernel_rfl) rfl rfl ⟨(bc_ BK318.out 0).trans rfl,(bc_ BK318.out 1).trans rfl,(bc_ BK318.out 2).trans rfl,(bc_ BK318.out 3).trans rfl,(bc_ BK318.out 4).trans rfl,(bc_ BK318.out 5).trans rfl,(bc_ BK318.out 6).trans rfl,(bc_ BK318.out 7).trans rfl,(bc_ BK318.out 8).trans rfl,(bc_ BK273.out 0).trans rfl,(bc_ BK273.out 1).trans rfl⟩ (fun hHeld=>?_);refine with_tabW laws_FnExactAllowsAttr.tab12 laws_FnExactAllowsAttr.bits12 (fun HT_ HW_=>?_)
    generalize w58.drew=w59 at HO280 HO283 HO286 HO289 HO292 HO303 HO306 HO309 HO312 HO315 BK272 BK273 BK318 HB hHeld ⊢
    refine pure_ (i:=1) (N:=some 42) (v:=?_) (a':=?_) #[F_,T_,F_,F_,F_,F_,F_,F_,F_,F_,F_] rfl rfl (any_of HT_.out (by kernel_rfl)) (fun _ _ _ h=>h) (Or.inl ⟨by rfl,?_⟩) ?_ ?_
    rotate_left
    ·intro w'
     go_simp
     with_reducible rfl
    rotate_left
    ·simp only [Act.put,ls_,lz_,lc_,i64_w,i32_w]
     rfl
    refine pure_ (i:=2) (N:=some 43) (v:=?_) (a':=?_) #[F_,T_,T_,F_,F_,F_,F_,F_,F_,F_,F_] rfl rfl (any_of HT_.out (by kernel_rfl)) (fun _ _ _ h=>h) (Or.inl ⟨by rfl,?_⟩) ?_ ?_
    rotate_left
    ·intro w'
     go_simp
     with_reducible rfl
    rotate_left
    ·simp only [Act.put,ls_,lz_,lc_,i64_w,i32_w]
     rfl
    refine take_ (i:=0) (N:=some 41) (v:=?_) (a':=?_) #[T_,T_,T_,F_,F_,F_,F_,F_,F_,F_,F_] rfl rfl (take_ofW HT_.out HW_.out (by kernel_rfl)) (fun _ _ _ h=>h) (Or.inl ⟨by rfl,?_⟩) hHeld ?_ ?_
    rotate_left
    ·rintro w' ⟨s0,s1,s2,s3,s4,s5,s6,s7,s8,s9,s10⟩
     go_simp
     with_reducible rfl
    rotate_left
    ·simp only [Act.put,ls_,lz_,lc_,i64_w,i32_w]
     rfl
    refine take_ (i:=3) (N:=some 44) (v:=?_) (a':=?_) #[T_,T_,T_,T_,F_,F_,F_,F_,F_,F_,F_] rfl rfl (take_ofW HT_.out HW_.out (by kernel_rfl)) (fun _ _ _ h=>h) (Or.inl ⟨by rfl,?_⟩) hHeld ?_ ?_
    rotate_left
    ·rintro w' ⟨s0,s1,s2,s3,s4,s5,s6,s7,s8,s9,s10⟩
     go_simp
     with_reducible rfl
    rotate_left
    ·simp only [Act.put,ls_,lz_,lc_,i64_w,i32_w]
     rfl
    refine one_ (i:=4) (N:=some 45) #[T_,T_,T_,T_,T_,F_,F_,F_,F_,F_,F_] rfl rfl (one_of HT_.out (by kernel_rfl)) (by decide) (fun K hK=>?_)
    refine goes_ Try.func23 (by kernel_rfl) rfl #[.agg #[.string a3_0,.string a3_1]] (by rfl) rfl rfl (by (try simp only [List.map_toArray,List.map_cons,List.map_nil]);first|done|rfl|(simp only [ld_,lt_];rfl)) ?_
    with_reducible refine (laws_toAttr.calls a3_0 a3_1 t319 t320 _ A28.out).mono ?_
    rintro e w60 ⟨rfl,hb⟩
    refine ⟨_,rfl,?_⟩
    have n0_:=A_ (Kd.S_below (by (with_reducible repeat (first|apply Kd.S_alloc|apply Kd.S_drewN|apply Kd.S_drew));exact HO280.out) hb)
    have n1_:=A_ (Kd.S_below (by (with_reducible repeat (first|apply Kd.S_alloc|apply Kd.S_drewN|apply Kd.S_drew));exact HO283.out) hb)
    have n2_:=A_ (Kd.S_below (by (with_reducible repeat (first|apply Kd.S_alloc|apply Kd.S_drewN|apply Kd.S_drew));exact HO286.out) hb)
    have n3_:=A_ (Kd.R_below (by (with_reducible repeat (first|apply Kd.R_alloc|apply Kd.R_drewN|apply Kd.R_drew));exact HO289.out) hb)
    have n4_:=A_ (Kd.R_below (by (with_reducible repeat (first|apply Kd.R_alloc|apply Kd.R_drewN|apply Kd.R_drew));exact HO292.out) hb)
    have n5_:=A_ (Kd.S_below (by (with_reducible repeat (first|apply Kd.S_alloc|apply Kd.S_drewN|apply Kd.S_drew));exact HO303.out) hb)
    have n6_:=A_ (Kd.S_below (by (with_reducible repeat (first|apply Kd.S_alloc|apply Kd.S_drewN|apply Kd.S_drew));exact HO306.out) hb)
    have n7_:=A_ (Kd.S_below (by (with_reducible repeat (first|apply Kd.S_alloc|apply Kd.S_drewN|apply Kd.S_drew));exact HO309.out) hb)
    have n8_:=A_ (Kd.R_below (by (with_reducible repeat (first|apply Kd.R_alloc|apply Kd.R_drewN|apply Kd.R_drew));exact HO312.out) hb)
    have n9_:=A_ (Kd.R_below (by (with_reducible repeat (first|apply Kd.R_alloc|apply Kd.R_drewN|apply Kd.R_drew));exact HO315.out) hb)
    have n10_:=A_ (kb_ (g:=gb272) (o:=.cells #[.bool a0_0,.bool a0_1,.slice A0_2 l0_2.length c0_2,.slice A0_3 l0_3.length c0_3,.slice A0_4 l0_4.length c0_4,.slice A0_5 l0_5.length c0_5,.slice A0_6 l0_6.length c0_6,.bool a0_7,.bool a0_8] 43 (0,0)) (by (with_reducible repeat (first|refine kn_ ?_ _|refine kd_ ?_|refine ka_ ?_ _));exact BK272.out) hb)
    have n11_:=A_ (kb_ (g:=gb273) (o:=.cells #[.string a3_0,.string a3_1] 45 (0,0)) (by (with_reducible repeat (first|refine kn_ ?_ _|refine kd_ ?_|refine ka_ ?_ _));exact BK273.out) hb)
    have n12_:=A_ (kb_ (g:=gb318) (o:=.cells #[.bool t299,.bool t300,.slice Ao53 t301.length co53,.slice Ao54 t304.length co54,.slice Ao55 t307.length co55,.slice Ao56 t310.length co56,.slice Ao57 t313.length co57,.bool t316,.bool t317] 25 (0,0)) (by (with_reducible repeat (first|refine kn_ ?_ _|refine kd_ ?_|refine ka_ ?_ _));exact BK318.out) hb)
    have n13_:=A_ (bp_ (by repeat (first|(with_reducible first|exact HB.out|apply ba_|apply pd_|apply b1_|refine bs_ ?_ GE272.out|refine bs_ ?_ GE273.out|refine bs_ ?_ GE318.out)|exact HB.out)) hb)
    clear HO280
    clear HO283
    clear HO286
    clear HO289
    clear HO292
    clear HO303
    clear HO306
    clear HO309
    clear HO312
    clear HO315
    clear BK272
    clear BK273
    clear BK318
    clear HB
    have HO280:=n0_
    have HO283:=n1_
    have HO286:=n2_
    have HO289:=n3_
    have HO292:=n4_
    have HO303:=n5_
    have HO306:=n6_
    have HO309:=n7_
    have HO312:=n8_
    have HO315:=n9_
    have BK272:=n10_
    have BK273:=n11_
    have BK318:=n12_
    have HB:=n13_
    clear n0_ n1_ n2_ n3_ n4_ n5_ n6_ n7_ n8_ n9_ n10_ n11_ n12_ n13_
    (try clear hb)
    (try clear hb2)
    (try clear hk)
    (try clear hi)
    refine hK.out _ _ ⟨(bc_ BK318.out 0).trans rfl,(bc_ BK318.out 1).trans rfl,(bc_ BK318.out 2).trans rfl,(bc_ BK318.out 3).trans rfl,(bc_ BK318.out 4).trans rfl,(bc_ BK318.out 5).trans rfl,(bc_ BK318.out 6).trans rfl,(bc_ BK318.out 7).trans rfl,(bc_ BK318.out 8).trans rfl,(bc_ BK273.out 0).trans rfl,(bc_ BK273.out 1).trans rfl⟩ (fun hHeld=>?_)
    clear hK K
    refine norm_ (a':=?_) ?_ ?_
    rotate_left
    ·show Act.put _ (some 45) _=_
     simp only [Act.put,ls_,lz_,lc_,i64_w,i32_w]
     rfl
    refine one_ (i:=5) (N:=some 46) #[T_,T_,T_,T_,T_,T_,F_,F_,F_,F_,F_] rfl rfl (one_of HT_.out (by kernel_rfl)) (by decide) (fun K hK=>?_)
    refine goes_ Try.func24 (by kernel_rfl) rfl #[.agg #[.bool t299,.bool t300,.slice Ao53 t301.length co53,.slice Ao54 t304.length co54,.slice Ao55 t307.length co55,.slice Ao56 t310.length co56,.slice Ao57 t313.length co57,.bool t316,.bool t317],.int .i64 a1,.string a2,.agg #[.string t319,.string t320]] (by rfl) rfl rfl (by (try simp only [List.map_toArray,List.map_cons,List.map_nil]);first|done|rfl|(simp only [ld_,lt_];rfl)) ?_
    with_reducible refine (impl_AllowsAttr.calls k t299 t300 _ _ t301 _ _ t304 _ _ t307 _ _ t310 _ _ t313 t316 t317 a1 a2 t319 t320 t321 t322 _ ?side1 ?side2 ?side3 ?side4 ?side5 ?side6 ?side7 ?side8 ?side9 ?side10 A29.out).mono ?_
    (case side1=>repeat (first|exact (Kd.S_reads' HO303.out).2.2|(with_reducible refine ca_ ?_ _)|(with_reducible refine cn_ ?_ _)|(with_reducible refine cd_ ?_)))
    (case side2=>exact (Kd.S_reads' HO303.out).2.1)
    (case side3=>repeat (first|exact (Kd.S_reads' HO306.out).2.2|(with_reducible refine ca_ ?_ _)|(with_reducible refine cn_ ?_ _)|(with_reducible refine cd_ ?_)))
    (case side4=>exact (Kd.S_reads' HO306.out).2.1)
    (case side5=>repeat (first|exact (Kd.S_reads' HO309.out).2.2|(with_reducible refine ca_ ?_ _)|(with_reducible refine cn_ ?_ _)|(with_reducible refine cd_ ?_)))
    (case side6=>exact (Kd.S_reads' HO309.out).2.1)
    (case side7=>repeat (first|exact (Kd.R_reads' HO312.out).2.2|(with_reducible refine ca_ ?_ _)|(with_reducible refine cn_ ?_ _)|(with_reducible refine cd_ ?_)))
    (case side8=>exact (Kd.R_reads' HO312.out).2.1)
    (case side9=>repeat (first|exact (Kd.R_reads' HO315.out).2.2|(with_reducible refine ca_ ?_ _)|(with_reducible refine cn_ ?_ _)|(with_reducible refine cd_ ?_)))
    (case side10=>exact (Kd.R_reads' HO315.out).2.1)
    rintro e w61 ⟨rfl,hb⟩
    refine ⟨_,rfl,?_⟩
    have n0_:=A_ (Kd.S_below (by (with_reducible repeat (first|apply Kd.S_alloc|apply Kd.S_drewN|apply Kd.S_drew));exact HO280.out) hb)
    have n1_:=A_ (Kd.S_below (by (with_reducible repeat (first|apply Kd.S_alloc|apply Kd.S_drewN|apply Kd.S_drew));exact HO283.out) hb)
    have n2_:=A_ (Kd.S_below (by (with_reducible repeat (first|apply Kd.S_alloc|apply Kd.S_drewN|apply Kd.S_drew));exact HO286.out) hb)
    have n3_:=A_ (Kd.R_below (by (with_reducible repeat (first|apply Kd.R_alloc|apply Kd.R_drewN|apply Kd.R_drew));exact HO289.out) hb)
    have n4_:=A_ (Kd.R_below (by (with_reducible repeat (first|apply Kd.R_alloc|apply Kd.R_drewN|apply Kd.R_drew));exact HO292.out) hb)
    have n5_:=A_ (Kd.S_below (by (with_reducible repeat (first|apply Kd.S_alloc|apply Kd.S_drewN|apply Kd.S_drew));exact HO303.out) hb)
    have n6_:=A_ (Kd.S_below (by (with_reducible repeat (first|apply Kd.S_alloc|apply Kd.S_drewN|apply Kd.S_drew));exact HO306.out) hb)
    have n7_:=A_ (Kd.S_below (by (with_reducible repeat (first|apply Kd.S_alloc|apply Kd.S_drewN|apply Kd.S_drew));exact HO309.out) hb)
    have n8_:=A_ (Kd.R_below (by (with_reducible repeat (first|apply Kd.R_alloc|apply Kd.R_drewN|apply Kd.R_drew));exact HO312.out) hb)
    have n9_:=A_ (Kd.R_below (by (with_reducible repeat (first|apply Kd.R_alloc|apply Kd.R_drewN|apply Kd.R_drew));exact HO315.out) hb)
    have n10_:=A_ (kb_ (g:=gb272) (o:=.cells #[.bool a0_0,.bool a0_1,.slice A0_2 l0_2.length c0_2,.slice A0_3 l0_3.length c0_3,.slice A0_4 l0_4.length c0_4,.slice A0_5 l0_5.length c0_5,.slice A0_6 l0_6.length c0_6,.bool a0_7,.bool a0_8] 43 (0,0)) (by (with_reducible repeat (first|refine kn_ ?_ _|refine kd_ ?_|refine ka_ ?_ _));exact BK272.out) hb)
    have n11_:=A_ (kb_ (g:=gb273) (o:=.cells #[.string a3_0,.string a3_1] 45 (0,0)) (by (with_reducible repeat (first|refine kn_ ?_ _|refine kd_ ?_|refine ka_ ?_ _));exact BK273.out) hb)
    have n12_:=A_ (kb_ (g:=gb318) (o:=.cells #[.bool t299,.bool t300,.slice Ao53 t301.length co53,.slice Ao54 t304.length co54,.slice Ao55 t307.length co55,.slice Ao56 t310.length co56,.slice Ao57 t313.length co57,.bool t316,.bool t317] 25 (0,0)) (by (with_reducible repeat (first|refine kn_ ?_ _|refine kd_ ?_|refine ka_ ?_ _));exact BK318.out) hb)
    have n13_:=A_ (bp_ (by repeat (first|(with_reducible first|exact HB.out|apply ba_|apply pd_|apply b1_|refine bs_ ?_ GE272.out|refine bs_ ?_ GE273.out|refine bs_ ?_ GE318.out)|exact HB.out)) hb)
    clear HO280
    clear HO283
    clear HO286
    clear HO289
    clear HO292
    clear HO303
    clear HO306
    clear HO309
    clear HO312
    clear HO315
    clear BK272
    clear BK273
    clear BK318
    clear HB
    have HO280:=n0_
    have HO283:=n1_
    have HO286:=n2_
    have HO289:=n3_
    have HO292:=n4_
    have HO303:=n5_
    have HO306:=n6_
    have HO309:=n7_
    have HO312:=n8_
    have HO315:=n9_
    have BK272:=n10_
    have BK273:=n11_
    have BK318:=n12_
    have HB:=n13_
    clear n0_ n1_ n2_ n3_ n4_ n5_ n6_ n7_ n8_ n9_ n10_ n11_ n12_ n13_
    (try clear hb)
    (try clear hb2)
    (try clear hk)
    (try clear hi)
    refine hK.out _ _ ⟨(bc_ BK318.out 0).trans rfl,(bc_ BK318.out 1).trans rfl,(bc_ BK318.out 2).trans rfl,(bc_ BK318.out 3).trans rfl,(bc_ BK318.out 4).trans rfl,(bc_ BK318.out 5).trans rfl,(bc_ BK318.out 6).trans rfl,(bc_ BK318.out 7).trans rfl,(bc_ BK318.out 8).trans rfl,(bc_ BK273.out 0).trans rfl,(bc_ BK273.out 1).trans rfl⟩ (fun hHeld=>?_)
    clear hK K
    refine norm_ (a':=?_) ?_ ?_
    rotate_left
    ·show Act.put _ (some 46) _=_
     simp only [Act.put,ls_,lz_,lc_,i64_w,i32_w]
     rfl
    refine pure_ (i:=6) (N:=some 40) (v:=?_) (a':=?_) #[T_,T_,T_,T_,T_,T_,T_,F_,F_,F_,F_] rfl rfl (any_of HT_.out (by kernel_rfl)) (fun _ _ _ h=>h) (Or.inl ⟨by rfl,?_⟩) ?_ ?_
    rotate_left
    ·intro w'
     go_simp
     with_reducible rfl
    rotate_left
    ·simp only [Act.put,ls_,lz_,lc_,i64_w,i32_w]
     rfl
    refine pure_ (i:=7) (N:=some 47) (v:=?_) (a':=?_) #[T_,T_,T_,T_,T_,T_,T_,T_,F_,F_,F_] rfl rfl (any_of HT_.out (by kernel_rfl)) (fun _ _ _ h=>h) (Or.inl ⟨by rfl,?_⟩) ?_ ?_
    rotate_left
    ·intro w'
     go_simp
     with_reducible rfl
    rotate_left
    ·simp only [Act.put,ls_,lz_,lc_,i64_w,i32_w]
     rfl
    refine pure_ (i:=8) (N:=some 48) (v:=?_) (a':=?_) #[T_,T_,T_,T_,T_,T_,T_,T_,T_,F_,F_] rfl rfl (any_of HT_.out (by kernel_rfl)) (fun _ _ _ h=>h) (Or.inl ⟨by rfl,?_⟩) ?_ ?_
    rotate_left
    ·intro w'
     go_simp
     with_reducible rfl
    rotate_left
    ·simp only [Act.put,ls_,lz_,lc_,i64_w,i32_w]
     rfl
    refine pure_ (i:=9) (N:=some 13) (v:=?_) (a':=?_) #[T_,T_,T_,T_,T_,T_,T_,T_,T_,T_,F_] rfl rfl (any_of HT_.out (by kernel_rfl)) (fun _ _ _ h=>h) (Or.inl ⟨by rfl,?_⟩) ?_ ?_
    rotate_left
    ·intro w'
     go_simp
     with_reducible rfl
    rotate_left
    ·simp only [Act.put,ls_,lz_,lc_,i64_w,i32_w]
     rfl
    refine pure_ (i:=10) (N:=some 14) (v:=?_) (a':=?_) #[T_,T_,T_,T_,T_,T_,T_,T_,T_,T_,T_] rfl rfl (any_of HT_.out (by kernel_rfl)) (fun _ _ _ h=>h) (Or.inl ⟨by rfl,?_⟩) ?_ ?_
    rotate_left
    ·intro w'
     go_simp
     with_reducible rfl
    rotate_left
    ·simp only [Act.put,ls_,lz_,lc_,i64_w,i32_w]
     rfl
    refine done_ (done_of HT_.out (by kernel_rfl)) ?_
    go_upto_region 13 with (fail)
    go_cut [56] (fun v56 wc=>∃ (kq:Nat) (x56_29:Bool),v56=.bool x56_29∧Aside0 (laws_FnExactAllowsAttr.j0 kq x56_29 a0_0 a0_1 l0_2 l0_3 l0_4 l0_5 l0_6 a0_7 a0_8 t299 t300 t301 t304 t307 t310 t313 t316 t317=some r)∧Aside0 (kq≤k)∧Aside0 (Kd.S k56 56 wc w.heap.size (fun k_=>some k_≠((.slice Ao54 t304.length co54):Value).ownBlock∧some k_≠((.slice Ao55 t307.length co55):Value).ownBlock∧some k_≠((.slice Ao56 t310.length co56):Value).ownBlock∧some k_≠((.slice Ao57 t313.length co57):Value).ownBlock) (.slice Ao53 t301.length co53) t301)∧Aside0 (Kd.S k56 56 wc w.heap.size (fun k_=>some k_≠((.slice Ao53 t301.length co53):Value).ownBlock∧some k_≠((.slice Ao55 t307.length co55):Value).ownBlock∧some k_≠((.slice Ao56 t310.length co56):Value).ownBlock∧some k_≠((.slice Ao57 t313.length co57):Value).ownBlock) (.slice Ao54 t304.length co54) t304)∧Aside0 (Kd.S k56 56 wc w.heap.size (fun k_=>some k_≠((.slice Ao53 t301.length co53):Value).ownBlock∧some k_≠((.slice Ao54 t304.length co54):Value).ownBlock∧some k_≠((.slice Ao56 t310.length co56):Value).ownBlock∧some k_≠((.slice Ao57 t313.length co57):Value).ownBlock) (.slice Ao55 t307.length co55) t307)∧Aside0 (Kd.R Kd.string 9 wc w.heap.size (fun k_=>some k_≠((.slice Ao57 t313.length co57):Value).ownBlock) (.slice Ao56 t310.length co56) t310)∧Aside0 (Kd.R Kd.string 9 wc w.heap.size (fun k_=>some k_≠((.slice Ao56 t310.length co56):Value).ownBlock) (.slice Ao57 t313.length co57) t313)∧Aside0 (wc.heap[gb272]? = some (.cells #[.bool a0_0,.bool a0_1,(.slice A0_2 l0_2.length c0_2),(.slice A0_3 l0_3.length c0_3),(.slice A0_4 l0_4.length c0_4),(.slice A0_5 l0_5.length c0_5),(.slice A0_6 l0_6.length c0_6),.bool a0_7,.bool a0_8] 43 (0,0)))∧Aside0 (wc.heap[gb273]? = some (.cells #[.string a3_0,.string a3_1] 45 (0,0)))∧Aside0 (wc.heap[gb318]? = some (.cells #[.bool t299,.bool t300,(.slice Ao53 t301.length co53),(.slice Ao54 t304.length co54),(.slice Ao55 t307.length co55),(.slice Ao56 t310.length co56),(.slice Ao57 t313.length co57),.bool t316,.bool t317] 25 (0,0)))∧Aside0 (Below w.heap.size w wc))
    case first =>
     have H:=HC30.out
     clear HC30
     by_cases c62:(t321 != t297)=true
     ·rw [if_pos c62] at H
      have c62b0:(t321 != t297)=true:=c62
      (try (have c62b1:decide (t321=t297)=false:=by simpa using c62))
      (try (have c62b2:(t321 == t297)=false:=by simpa using c62))
      (try (have c62b3:¬ (t321=t297):=by simpa using c62))
      clear c62
      (first|rw [c62b0]|(simp only [i64_w,i32_w];rw [c62b0])|skip)
      have H':=A_ H
      clear H
      go_wp2
      go_meet
      case rel=>exact ⟨_,(true),(by first|rfl|(simp;done)|(simp [*];done)),H',⟨by first|omega|exact Nat.le_refl _⟩,⟨by (with_reducible repeat (first|apply Kd.S_alloc|apply Kd.S_drewN|apply Kd.S_drew));exact Kd.S_mono HO303.out (fun _ hk=>⟨hk.2.2.2.2.2.1,⟨hk.2.2.2.2.2.2.1,⟨hk.2.2.2.2.2.2.2.1,hk.2.2.2.2.2.2.2.2⟩⟩⟩)⟩,⟨by (with_reducible repeat (first|apply Kd.S_alloc|apply Kd.S_drewN|apply Kd.S_drew));exact Kd.S_mono HO306.out (fun _ hk=>⟨hk.2.2.2.2.2.1,⟨hk.2.2.2.2.2.2.1,⟨hk.2.2.2.2.2.2.2.1,hk.2.2.2.2.2.2.2.2⟩⟩⟩)⟩,⟨by (with_reducible repeat (first|apply Kd.S_alloc|apply Kd.S_drewN|apply Kd.S_drew));exact Kd.S_mono HO309.out (fun _ hk=>⟨hk.2.2.2.2.2.1,⟨hk.2.2.2.2.2.2.1,⟨hk.2.2.2.2.2.2.2.1,hk.2.2.2.2.2.2.2.2⟩⟩⟩)⟩,⟨by (with_reducible repeat (first|apply Kd.R_alloc|apply Kd.R_drewN|apply Kd.R_drew));exact Kd.R_mono HO312.out (fun _ hk=>hk.2.2)⟩,⟨by (with_reducible repeat (first|apply Kd.R_alloc|apply Kd.R_drewN|apply Kd.R_drew));exact Kd.R_mono HO315.out (fun _ hk=>hk.2.2)⟩,⟨by (with_reducible repeat (first|refine kn_ ?_ _|refine kd_ ?_|refine ka_ ?_ _));exact BK272.out⟩,⟨by (with_reducible repeat (first|refine kn_ ?_ _|refine kd_ ?_|refine ka_ ?_ _));exact BK273.out⟩,⟨by (with_reducible repeat (first|refine kn_ ?_ _|refine kd_ ?_|refine ka_ ?_ _));exact BK318.out⟩,⟨by repeat (first|(with_reducible first|exact HB.out|apply ba_|apply pd_|apply b1_|refine bs_ ?_ GE272.out|refine bs_ ?_ GE273.out|refine bs_ ?_ GE318.out)|exact HB.out)⟩⟩
     ·rw [if_neg c62] at H
      have c62b0:(t321 != t297)=false:=by simpa using c62
      (try (have c62b1:decide (t321=t297)=true:=by simpa using c62))
      (try (have c62b2:(t321 == t297)=true:=by simpa using c62))
      clear c62
      (first|rw [c62b0]|(simp only [i64_w,i32_w];rw [c62b0])|skip)
      have H':=A_ H
      clear H
      go_wp2
      go_meet
      case rel=>exact ⟨_,((t322 != t298)),(by first|rfl|(simp;done)|(simp [*];done)),H',⟨by first|omega|exact Nat.le_refl _⟩,⟨by (with_reducible repeat (first|apply Kd.S_alloc|apply Kd.S_drewN|apply Kd.S_drew));exact Kd.S_mono HO303.out (fun _ hk=>⟨hk.2.2.2.2.2.1,⟨hk.2.2.2.2.2.2.1,⟨hk.2.2.2.2.2.2.2.1,hk.2.2.2.2.2.2.2.2⟩⟩⟩)⟩,⟨by (with_reducible repeat (first|apply Kd.S_alloc|apply Kd.S_drewN|apply Kd.S_drew));exact Kd.S_mono HO306.out (fun _ hk=>⟨hk.2.2.2.2.2.1,⟨hk.2.2.2.2.2.2.1,⟨hk.2.2.2.2.2.2.2.1,hk.2.2.2.2.2.2.2.2⟩⟩⟩)⟩,⟨by (with_reducible repeat (first|apply Kd.S_alloc|apply Kd.S_drewN|apply Kd.S_drew));exact Kd.S_mono HO309.out (fun _ hk=>⟨hk.2.2.2.2.2.1,⟨hk.2.2.2.2.2.2.1,⟨hk.2.2.2.2.2.2.2.1,hk.2.2.2.2.2.2.2.2⟩⟩⟩)⟩,⟨by (with_reducible repeat (first|apply Kd.R_alloc|apply Kd.R_drewN|apply Kd.R_drew));exact Kd.R_mono HO312.out (fun _ hk=>hk.2.2)⟩,⟨by (with_reducible repeat (first|apply Kd.R_alloc|apply Kd.R_drewN|apply Kd.R_drew));exact Kd.R_mono HO315.out (fun _ hk=>hk.2.2)⟩,⟨by (with_reducible repeat (first|refine kn_ ?_ _|refine kd_ ?_|refine ka_ ?_ _));exact BK272.out⟩,⟨by (with_reducible repeat (first|refine kn_ ?_ _|refine kd_ ?_|refine ka_ ?_ _));exact BK273.out⟩,⟨by (with_reducible repeat (first|refine kn_ ?_ _|refine kd_ ?_|refine ka_ ?_ _));exact BK318.out⟩,⟨by repeat (first|(with_reducible first|exact HB.out|apply ba_|apply pd_|apply b1_|refine bs_ ?_ GE272.out|refine bs_ ?_ GE273.out|refine bs_ ?_ GE318.out)|exact HB.out)⟩⟩
    case rest =>
     clear HC30
     try clear c1
     try clear c2
     try clear p2
     try clear c3
     try clear c5
     try clear c6
     try clear c19
     try clear c20
     try clear c21
     try clear c22
     try clear c23
     try clear c24
     try clear c33
     try clear c50
     try clear c51
     try clear c62
     try clear c62b0
     try clear c62b1
     try clear c62b2
     try clear hcz34_0
     try clear hcz34_1
     try clear hcz34_2
     try clear hcz34_3
     try clear hcz34_4
     try clear hcz34_5
     try clear hcz34_6
     try clear hcz34_7
     try clear hcz34_8
     try clear hcz36_0
     try clear hcz36_1
     try clear hcz47_0
     try clear hcz47_1
     try clear hcz47_2
     try clear hcz47_3
     try clear hcz47_4
     try clear hcz47_5
     try clear hcz47_6
     try clear hcz47_7
     try clear hcz47_8
     try clear hcz52_0
     try clear hcz52_1
     try clear hcz52_2
     try clear hcz52_3
     try clear hcz52_4
     try clear hcz52_5
     try clear hcz52_6
     try clear hcz52_7
     try clear hcz52_8
     try clear hfz34_0
     try clear hfz34_1
     try clear hfz34_2
     try clear hfz34_3
     try clear hfz34_4
     try clear hfz34_5
     try clear hfz34_6
     try clear hfz34_7
     try clear hfz34_8
     try clear hfz36_0
     try clear hfz36_1
     try clear hfz47_0
     try clear hfz47_1
     try clear hfz47_2
     try clear hfz47_3
     try clear hfz47_4
     try clear hfz47_5
     try clear hfz47_6
     try clear hfz47_7
     try clear hfz47_8
     try clear hfz52_0
     try clear hfz52_1
     try clear hfz52_2
     try clear hfz52_3
     try clear hfz52_4
     try clear hfz52_5
     try clear hfz52_6
     try clear hfz52_7
     try clear hfz52_8
     obtain ⟨kq,x56_29,rfl,HA,HJ29,HO_319002,HO_319003,HO_319004,HO_319005,HO_319006,BK272,BK273,BK318,HB⟩:=hcut
     cases kq with
     | zero=>exact absurd HA.out (by simp [laws_FnExactAllowsAttr.j0])
     | succ kj29 =>
      have H:=HA.out
      clear HA
      simp only [laws_FnExactAllowsAttr.j0] at H
      by_cases c63:x56_29=true
      ·subst c63
       have H1:(some false)=some r:=by rw [if_pos rfl] at H;exact H
       clear H
       have H:=H1
       clear H1
       exact absurd ((oi_ H).trans HRT.out) (by decide)
      ·replace c63:=bm_ c63
       subst c63
       have H1:((laws_toConfig.f kj29 a0_0 a0_1 l0_2 l0_3 l0_4 l0_5 l0_6 a0_7 a0_8).bind fun bt323=>((laws_eqConfig.f kj29 t299 t300 t301 t304 t307 t310 t313 t316 t317 bt323.1 bt323.2.1 bt323.2.2.1 bt323.2.2.2.1 bt323.2.2.2.2.1 bt323.2.2.2.2.2.1 bt323.2.2.2.2.2.2.1 bt323.2.2.2.2.2.2.2.1 bt323.2.2.2.2.2.2.2.2).bind fun t342=>(if t342=true then (some true) else (some false))))=some r:=by rw [if_neg (show ¬ (false=true) by decide)] at H;exact H
       clear H
       have H:=H1
       clear H1
       replace H:=ob_ H
       obtain ⟨⟨t323,t324,t325,t328,t331,t334,t337,t340,t341⟩,A640,H⟩:=H
       replace H:((laws_eqConfig.f kj29 t299 t300 t301 t304 t307 t310 t313 t316 t317 t323 t324 t325 t328 t331 t334 t337 t340 t341).bind fun t342=>(if t342=true then (some true) else (some false)))=some r:=H
       have A64:=A_ A640
       clear A640
       replace H:=ob_ H
       obtain ⟨t342,A650,H⟩:=H
       replace H:(if t342=true then (some true) else (some false))=some r:=H
       have A65:=A_ A650
       clear A650
       by_cases c66:t342=true
       ·subst c66
        have H1:(some true)=some r:=by rw [if_pos rfl] at H;exact H
        clear H
        have H:=H1
        clear H1
        obtain rfl:=oi_ H
        try go_wp2
        have n0_:=A_ (Kd.S_drew HO_319002.out)
        have n1_:=A_ (Kd.S_drew HO_319003.out)
        have n2_:=A_ (Kd.S_drew HO_319004.out)
        have n3_:=A_ (Kd.R_drew HO_319005.out)
        have n4_:=A_ (Kd.R_drew HO_319006.out)
        have n5_:=A_ (kd_ BK272.out)
        have n6_:=A_ (kd_ BK273.out)
        have n7_:=A_ (kd_ BK318.out)
        have n8_:=A_ (b1_ HB.out)
        clear HO_319002
        clear HO_319003
        clear HO_319004
        clear HO_319005
        clear HO_319006
        clear BK272
        clear BK273
        clear BK318
        clear HB
        have HO_319002:=n0_
        have HO_319003:=n1_
        have HO_319004:=n2_
        have HO_319005:=n3_
        have HO_319006:=n4_
        have BK272:=n5_
        have BK273:=n6_
        have BK318:=n7_
        have HB:=n8_
        clear n0_ n1_ n2_ n3_ n4_ n5_ n6_ n7_ n8_
        refine start_ (n:=5) (S:=fun w'=>w'.cell? ⟨gb318,0,none⟩=some (.bool t299)∧w'.cell? ⟨gb318,1,none⟩=some (.bool t300)∧w'.cell? ⟨gb318,2,none⟩=some (.slice Ao53 t301.length co53)∧w'.cell? ⟨gb318,3,none⟩=some (.slice Ao54 t304.length co54)∧w'.cell? ⟨gb318,4,none⟩=some (.slice Ao55 t307.length co55)∧w'.cell? ⟨gb318,5,none⟩=some (.slice Ao56 t310.length co56)∧w'.cell? ⟨gb318,6,none⟩=some (.slice Ao57 t313.length co57)∧w'.cell? ⟨gb318,7,none⟩=some (.bool t316)∧w'.cell? ⟨gb318,8,none⟩=some (.bool t317)∧w'.cell? ⟨gb272,0,none⟩=some (.bool a0_0)∧w'.cell? ⟨gb272,1,none⟩=some (.bool a0_1)∧w'.cell? ⟨gb272,2,none⟩=some (.slice A0_2 l0_2.length c0_2)∧w'.cell? ⟨gb272,3,none⟩=some (.slice A0_3 l0_3.length c0_3)∧w'.cell? ⟨gb272,4,none⟩=some (.slice A0_4 l0_4.length c0_4)∧w'.cell? ⟨gb272,5,none⟩=some (.slice A0_5 l0_5.length c0_5)∧w'.cell? ⟨gb272,6,none⟩=some (.slice A0_6 l0_6.length c0_6)∧w'.cell? ⟨gb272,7,none⟩=some (.bool a0_7)∧w'.cell? ⟨gb272,8,none⟩=some (.bool a0_8)) (ds:=[]) #[F_,F_,F_,F_,F_] (by kernel_rfl) rfl rfl ⟨(bc_ BK318.out 0).trans rfl,(bc_ BK318.out 1).trans rfl,(bc_ BK318.out 2).trans rfl,(bc_ BK318.out 3).trans rfl,(bc_ BK318.out 4).trans rfl,(bc_ BK318.out 5).trans rfl,(bc_ BK318.out 6).trans rfl,(bc_ BK318.out 7).trans rfl,(bc_ BK318.out 8).trans rfl,(bc_ BK272.out 0).trans rfl,(bc_ BK272.out 1).trans rfl,(bc_ BK272.out 2).trans rfl,(bc_ BK272.out 3).trans rfl,(bc_ BK272.out 4).trans rfl,(bc_ BK272.out 5).trans rfl,(bc_ BK272.out 6).trans rfl,(bc_ BK272.out 7).trans rfl,(bc_ BK272.out 8).trans rfl⟩ (fun hHeld=>?_)
        generalize wc.drew=w67 at HO_319002 HO_319003 HO_319004 HO_319005 HO_319006 BK272 BK273 BK318 HB hHeld ⊢
        refine take_ (i:=0) (N:=some 57) (v:=?_) (a':=?_) #[T_,F_,F_,F_,F_] rfl rfl (by kernel_rfl) (fun _ _ _ h=>h) (Or.inl ⟨by rfl,?_⟩) hHeld ?_ ?_
        rotate_left
        ·rintro w' ⟨s0,s1,s2,s3,s4,s5,s6,s7,s8,s9,s10,s11,s12,s13,s14,s15,s16,s17⟩
         go_simp
         with_reducible rfl
        rotate_left
        ·simp only [Act.put,ls_,lz_,lc_,i64_w,i32_w]
         rfl
        refine take_ (i:=1) (N:=some 58) (v:=?_) (a':=?_) #[T_,T_,F_,F_,F_] rfl rfl (by kernel_rfl) (fun _ _ _ h=>h) (Or.inl ⟨by rfl,?_⟩) hHeld ?_ ?_
        rotate_left
        ·rintro w' ⟨s0,s1,s2,s3,s4,s5,s6,s7,s8,s9,s10,s11,s12,s13,s14,s15,s16,s17⟩
         go_simp
         with_reducible rfl
        rotate_left
        ·simp only [Act.put,ls_,lz_,lc_,i64_w,i32_w]
         rfl
        refine one_ (i:=2) (N:=some 59) #[T_,T_,T_,F_,F_] rfl rfl (by kernel_rfl) (by decide) (fun K hK=>?_)
        refine goes_ Try.func22 (by kernel_rfl) rfl #[.agg #[.bool a0_0,.bool a0_1,.slice A0_2 l0_2.length c0_2,.slice A0_3 l0_3.length c0_3,.slice A0_4 l0_4.length c0_4,.slice A0_5 l0_5.length c0_5,.slice A0_6 l0_6.length c0_6,.bool a0_7,.bool a0_8]] (by rfl) rfl rfl (by (try simp only [List.map_toArray,List.map_cons,List.map_nil]);first|done|rfl|(simp only [ld_,lt_];rfl)) ?_
        with_reducible refine (laws_toConfig.calls kj29 a0_0 a0_1 _ _ l0_2 _ _ l0_3 _ _ l0_4 _ _ l0_5 _ _ l0_6 a0_7 a0_8 t323 t324 t325 t328 t331 t334 t337 t340 t341 _ ?side1 ?side2 ?side3 ?side4 ?side5 ?side6 ?side7 ?side8 ?side9 ?side10 A64.out).mono ?_
        (case side1=>repeat (first|exact (cb_ HR0_2.out HB.out)|(with_reducible refine ca_ ?_ _)|(with_reducible refine cn_ ?_ _)|(with_reducible refine cd_ ?_)))
        (case side2=>exact HC0_2.out)
        (case side3=>repeat (first|exact (cb_ HR0_3.out HB.out)|(with_reducible refine ca_ ?_ _)|(with_reducible refine cn_ ?_ _)|(with_reducible refine cd_ ?_)))
        (case side4=>exact HC0_3.out)
        (case side5=>repeat (first|exact (cb_ HR0_4.out HB.out)|(with_reducible refine ca_ ?_ _)|(with_reducible refine cn_ ?_ _)|(with_reducible refine cd_ ?_)))
        (case side6=>exact HC0_4.out)
        (case side7=>repeat (first|exact (cb_ HR0_5.out HB.out)|(with_reducible refine ca_ ?_ _)|(with_reducible refine cn_ ?_ _)|(with_reducible refine cd_ ?_)))
        (case side8=>exact HC0_5.out)
        (case side9=>repeat (first|exact (cb_ HR0_6.out HB.out)|(with_reducible refine ca_ ?_ _)|(with_reducible refine cn_ ?_ _)|(with_reducible refine cd_ ?_)))
        (case side10=>exact HC0_6.out)
        rintro e w68 ⟨v326,v329,v332,v335,v338,rfl,ho0,ho1,ho2,ho3,ho4,hb⟩
        refine ⟨_,rfl,?_⟩
        have n0_:=A_ (Kd.S_mono (Kd.S_told (Kd.S_told (Kd.S_told (Kd.S_told (Kd.S_told (Kd.S_old (by (with_reducible repeat (first|apply Kd.S_alloc|apply Kd.S_drewN|apply Kd.S_drew));exact HO_319002.out) hb) (Kd.S_base ho0)) (Kd.S_base ho1)) (Kd.S_base ho2)) (Kd.R_base ho3)) (Kd.R_base ho4)) (fun _ h_=>h_.1))
        have n1_:=A_ (Kd.S_mono (Kd.S_told (Kd.S_told (Kd.S_told (Kd.S_told (Kd.S_told (Kd.S_old (by (with_reducible repeat (first|apply Kd.S_alloc|apply Kd.S_drewN|apply Kd.S_drew));exact HO_319003.out) hb) (Kd.S_base ho0)) (Kd.S_base ho1)) (Kd.S_base ho2)) (Kd.R_base ho3)) (Kd.R_base ho4)) (fun _ h_=>h_.1))
        have n2_:=A_ (Kd.S_mono (Kd.S_told (Kd.S_told (Kd.S_told (Kd.S_told (Kd.S_told (Kd.S_old (by (with_reducible repeat (first|apply Kd.S_alloc|apply Kd.S_drewN|apply Kd.S_drew));exact HO_319004.out) hb) (Kd.S_base ho0)) (Kd.S_base ho1)) (Kd.S_base ho2)) (Kd.R_base ho3)) (Kd.R_base ho4)) (fun _ h_=>h_.1))
        have n3_:=A_ (Kd.R_mono (Kd.R_told (Kd.R_told (Kd.R_old (by (with_reducible repeat (first|apply Kd.R_alloc|apply Kd.R_drewN|apply Kd.R_drew));exact HO_319005.out) hb) (Kd.R_base ho3)) (Kd.R_base ho4)) (fun _ h_=>h_.1))
        have n4_:=A_ (Kd.R_mono (Kd.R_told (Kd.R_told (Kd.R_old (by (with_reducible repeat (first|apply Kd.R_alloc|apply Kd.R_drewN|apply Kd.R_drew));exact HO_319006.out) hb) (Kd.R_base ho3)) (Kd.R_base ho4)) (fun _ h_=>h_.1))
        have n5_:=A_ (Kd.S_lower (Kd.S_new' (Kd.S_new' (Kd.S_new' (Kd.S_new' (Kd.S_new' ho0 (Kd.S_lt (by (with_reducible repeat (first|apply Kd.S_alloc|apply Kd.S_drewN|apply Kd.S_drew));exact HO_319002.out))) (Kd.S_lt (by (with_reducible repeat (first|apply Kd.S_alloc|apply Kd.S_drewN|apply Kd.S_drew));exact HO_319003.out))) (Kd.S_lt (by (with_reducible repeat (first|apply Kd.S_alloc|apply Kd.S_drewN|apply Kd.S_drew));exact HO_319004.out))) (Kd.R_lt (by (with_reducible repeat (first|apply Kd.R_alloc|apply Kd.R_drewN|apply Kd.R_drew));exact HO_319005.out))) (Kd.R_lt (by (with_reducible repeat (first|apply Kd.R_alloc|apply Kd.R_drewN|apply Kd.R_drew));exact HO_319006.out))) (bz_ (by repeat (first|(with_reducible first|exact HB.out|apply ba_|apply pd_|apply b1_|refine bs_ ?_ GE272.out|refine bs_ ?_ GE273.out|refine bs_ ?_ GE318.out)|exact HB.out))))
        have n6_:=A_ (Kd.S_lower (Kd.S_new' (Kd.S_new' (Kd.S_new' (Kd.S_new' (Kd.S_new' ho1 (Kd.S_lt (by (with_reducible repeat (first|apply Kd.S_alloc|apply Kd.S_drewN|apply Kd.S_drew));exact HO_319002.out))) (Kd.S_lt (by (with_reducible repeat (first|apply Kd.S_alloc|apply Kd.S_drewN|apply Kd.S_drew));exact HO_319003.out))) (Kd.S_lt (by (with_reducible repeat (first|apply Kd.S_alloc|apply Kd.S_drewN|apply Kd.S_drew));exact HO_319004.out))) (Kd.R_lt (by (with_reducible repeat (first|apply Kd.R_alloc|apply Kd.R_drewN|apply Kd.R_drew));exact HO_319005.out))) (Kd.R_lt (by (with_reducible repeat (first|apply Kd.R_alloc|apply Kd.R_drewN|apply Kd.R_drew));exact HO_319006.out))) (bz_ (by repeat (first|(with_reducible first|exact HB.out|apply ba_|apply pd_|apply b1_|refine bs_ ?_ GE272.out|refine bs_ ?_ GE273.out|refine bs_ ?_ GE318.out)|exact HB.out))))
        have n7_:=A_ (Kd.S_lower (Kd.S_new' (Kd.S_new' (Kd.S_new' (Kd.S_new' (Kd.S_new' ho2 (Kd.S_lt (by (with_reducible repeat (first|apply Kd.S_alloc|apply Kd.S_drewN|apply Kd.S_drew));exact HO_319002.out))) (Kd.S_lt (by (with_reducible repeat (first|apply Kd.S_alloc|apply Kd.S_drewN|apply Kd.S_drew));exact HO_319003.out))) (Kd.S_lt (by (with_reducible repeat (first|apply Kd.S_alloc|apply Kd.S_drewN|apply Kd.S_drew));exact HO_319004.out))) (Kd.R_lt (by (with_reducible repeat (first|apply Kd.R_alloc|apply Kd.R_drewN|apply Kd.R_drew));exact HO_319005.out))) (Kd.R_lt (by (with_reducible repeat (first|apply Kd.R_alloc|apply Kd.R_drewN|apply Kd.R_drew));exact HO_319006.out))) (bz_ (by repeat (first|(with_reducible first|exact HB.out|apply ba_|apply pd_|apply b1_|refine bs_ ?_ GE272.out|refine bs_ ?_ GE273.out|refine bs_ ?_ GE318.out)|exact HB.out))))
        have n8_:=A_ (Kd.R_lower (Kd.R_new' (Kd.R_new' ho3 (Kd.R_lt (by (with_reducible repeat (first|apply Kd.R_alloc|apply Kd.R_drewN|apply Kd.R_drew));exact HO_319005.out))) (Kd.R_lt (by (with_reducible repeat (first|apply Kd.R_alloc|apply Kd.R_drewN|apply Kd.R_drew));exact HO_319006.out))) (bz_ (by repeat (first|(with_reducible first|exact HB.out|apply ba_|apply pd_|apply b1_|refine bs_ ?_ GE272.out|refine bs_ ?_ GE273.out|refine bs_ ?_ GE318.out)|exact HB.out))))
        have n9_:=A_ (Kd.R_lower (Kd.R_new' (Kd.R_new' ho4 (Kd.R_lt (by (with_reducible repeat (first|apply Kd.R_alloc|apply Kd.R_drewN|apply Kd.R_drew));exact HO_319005.out))) (Kd.R_lt (by (with_reducible repeat (first|apply Kd.R_alloc|apply Kd.R_drewN|apply Kd.R_drew));exact HO_319006.out))) (bz_ (by repeat (first|(with_reducible first|exact HB.out|apply ba_|apply pd_|apply b1_|refine bs_ ?_ GE272.out|refine bs_ ?_ GE273.out|refine bs_ ?_ GE318.out)|exact HB.out))))
        have n10_:=A_ (kb_ (g:=gb272) (o:=.cells #[.bool a0_0,.bool a0_1,.slice A0_2 l0_2.length c0_2,.slice A0_3 l0_3.length c0_3,.slice A0_4 l0_4.length c0_4,.slice A0_5 l0_5.length c0_5,.slice A0_6 l0_6.length c0_6,.bool a0_7,.bool a0_8] 43 (0,0)) (by (with_reducible repeat (first|refine kn_ ?_ _|refine kd_ ?_|refine ka_ ?_ _));exact BK272.out) hb)
        have n11_:=A_ (kb_ (g:=gb273) (o:=.cells #[.string a3_0,.string a3_1] 45 (0,0)) (by (with_reducible repeat (first|refine kn_ ?_ _|refine kd_ ?_|refine ka_ ?_ _));exact BK273.out) hb)
        have n12_:=A_ (kb_ (g:=gb318) (o:=.cells #[.bool t299,.bool t300,.slice Ao53 t301.length co53,.slice Ao54 t304.length co54,.slice Ao55 t307.length co55,.slice Ao56 t310.length co56,.slice Ao57 t313.length co57,.bool t316,.bool t317] 25 (0,0)) (by (with_reducible repeat (first|refine kn_ ?_ _|refine kd_ ?_|refine ka_ ?_ _));exact BK318.out) hb)
        have n13_:=A_ (bp_ (by repeat (first|(with_reducible first|exact HB.out|apply ba_|apply pd_|apply b1_|refine bs_ ?_ GE272.out|refine bs_ ?_ GE273.out|refine bs_ ?_ GE318.out)|exact HB.out)) hb)
        clear HO_319002
        clear HO_319003
        clear HO_319004
        clear HO_319005
        clear HO_319006
        clear BK272
        clear BK273
        clear BK318
        clear HB
        have HO_319002:=n0_
        have HO_319003:=n1_
        have HO_319004:=n2_
        have HO_319005:=n3_
        have HO_319006:=n4_
        have HO327:=n5_
        have HO330:=n6_
        have HO333:=n7_
        have HO336:=n8_
        have HO339:=n9_
        have BK272:=n10_
        have BK273:=n11_
        have BK318:=n12_
        have HB:=n13_
        clear n0_ n1_ n2_ n3_ n4_ n5_ n6_ n7_ n8_ n9_ n10_ n11_ n12_ n13_
        (try clear hb)
        (try clear hb2)
        (try clear hk)
        (try clear hi)
        (try clear ho0)
        (try clear ho1)
        (try clear ho2)
        (try clear ho3)
        (try clear ho4)
        obtain ⟨Ao69,co69,eo69⟩:=Kd.S_slice HO327.out
        (first|subst eo69|(injection eo69 with f1_ f2_ f3_;have f4_:=f1_.symm;have f5_:=f3_.symm;clear f1_ f2_ f3_;subst f4_;subst f5_))
        obtain ⟨Ao70,co70,eo70⟩:=Kd.S_slice HO330.out
        (first|subst eo70|(injection eo70 with f1_ f2_ f3_;have f4_:=f1_.symm;have f5_:=f3_.symm;clear f1_ f2_ f3_;subst f4_;subst f5_))
        obtain ⟨Ao71,co71,eo71⟩:=Kd.S_slice HO333.out
        (first|subst eo71|(injection eo71 with f1_ f2_ f3_;have f4_:=f1_.symm;have f5_:=f3_.symm;clear f1_ f2_ f3_;subst f4_;subst f5_))
        obtain ⟨Ao72,co72,eo72⟩:=Kd.R_slice HO336.out
        (first|subst eo72|(injection eo72 with f1_ f2_ f3_;have f4_:=f1_.symm;have f5_:=f3_.symm;clear f1_ f2_ f3_;subst f4_;subst f5_))
        obtain ⟨Ao73,co73,eo73⟩:=Kd.R_slice HO339.out
        (first|subst eo73|(injection eo73 with f1_ f2_ f3_;have f4_:=f1_.symm;have f5_:=f3_.symm;clear f1_ f2_ f3_;subst f4_;subst f5_))
        refine hK.out _ _ ⟨(bc_ BK318.out 0).trans rfl,(bc_ BK318.out 1).trans rfl,(bc_ BK318.out 2).trans rfl,(bc_ BK318.out 3).trans rfl,(bc_ BK318.out 4).trans rfl,(bc_ BK318.out 5).trans rfl,(bc_ BK318.out 6).trans rfl,(bc_ BK318.out 7).trans rfl,(bc_ BK318.out 8).trans rfl,(bc_ BK272.out 0).trans rfl,(bc_ BK272.out 1).trans rfl,(bc_ BK272.out 2).trans rfl,(bc_ BK272.out 3).trans rfl,(bc_ BK272.out 4).trans rfl,(bc_ BK272.out 5).trans rfl,(bc_ BK272.out 6).trans rfl,(bc_ BK272.out 7).trans rfl,(bc_ BK272.out 8).trans rfl⟩ (fun hHeld=>?_)
        clear hK K
        refine norm_ (a':=?_) ?_ ?_
        rotate_left
        ·show Act.put _ (some 59) _=_
         simp only [Act.put,ls_,lz_,lc_,i64_w,i32_w]
         rfl
        refine one_ (i:=3) (N:=some 60) #[T_,T_,T_,T_,F_] rfl rfl (by kernel_rfl) (by decide) (fun K hK=>?_)
        refine goes_ Try.func8 (by kernel_rfl) rfl #[.agg #[.bool t299,.bool t300,.slice Ao53 t301.length co53,.slice Ao54 t304.length co54,.slice Ao55 t307.length co55,.slice Ao56 t310.length co56,.slice Ao57 t313.length co57,.bool t316,.bool t317],.agg #[.bool t323,.bool t324,.slice Ao69 t325.length co69,.slice Ao70 t328.length co70,.slice Ao71 t331.length co71,.slice Ao72 t334.length co72,.slice Ao73 t337.length co73,.bool t340,.bool t341]] (by rfl) rfl rfl (by (try simp only [List.map_toArray,List.map_cons,List.map_nil]);first|done|rfl|(simp only [ld_,lt_];rfl)) ?_
        with_reducible refine (laws_eqConfig.calls kj29 t299 t300 _ _ t301 _ _ t304 _ _ t307 _ _ t310 _ _ t313 t316 t317 t323 t324 _ _ t325 _ _ t328 _ _ t331 _ _ t334 _ _ t337 t340 t341 true _ ?side1 ?side2 ?side3 ?side4 ?side5 ?side6 ?side7 ?side8 ?side9 ?side10 ?side11 ?side12 ?side13 ?side14 ?side15 ?side16 ?side17 ?side18 ?side19 ?side20 A65.out).mono ?_
        (case side1=>repeat (first|exact (Kd.S_reads' HO_319002.out).2.2|(with_reducible refine ca_ ?_ _)|(with_reducible refine cn_ ?_ _)|(with_reducible refine cd_ ?_)))
        (case side2=>exact (Kd.S_reads' HO_319002.out).2.1)
        (case side3=>repeat (first|exact (Kd.S_reads' HO_319003.out).2.2|(with_reducible refine ca_ ?_ _)|(with_reducible refine cn_ ?_ _)|(with_reducible refine cd_ ?_)))
        (case side4=>exact (Kd.S_reads' HO_319003.out).2.1)
        (case side5=>repeat (first|exact (Kd.S_reads' HO_319004.out).2.2|(with_reducible refine ca_ ?_ _)|(with_reducible refine cn_ ?_ _)|(with_reducible refine cd_ ?_)))
        (case side6=>exact (Kd.S_reads' HO_319004.out).2.1)
        (case side7=>repeat (first|exact (Kd.R_reads' HO_319005.out).2.2|(with_reducible refine ca_ ?_ _)|(with_reducible refine cn_ ?_ _)|(with_reducible refine cd_ ?_)))
        (case side8=>exact (Kd.R_reads' HO_319005.out).2.1)
        (case side9=>repeat (first|exact (Kd.R_reads' HO_319006.out).2.2|(with_reducible refine ca_ ?_ _)|(with_reducible refine cn_ ?_ _)|(with_reducible refine cd_ ?_)))
        (case side10=>exact (Kd.R_reads' HO_319006.out).2.1)
        (case side11=>repeat (first|exact (Kd.S_reads' HO327.out).2.2|(with_reducible refine ca_ ?_ _)|(with_reducible refine cn_ ?_ _)|(with_reducible refine cd_ ?_)))
        (case side12=>exact (Kd.S_reads' HO327.out).2.1)
        (case side13=>repeat (first|exact (Kd.S_reads' HO330.out).2.2|(with_reducible refine ca_ ?_ _)|(with_reducible refine cn_ ?_ _)|(with_reducible refine cd_ ?_)))
        (case side14=>exact (Kd.S_reads' HO330.out).2.1)
        (case side15=>repeat (first|exact (Kd.S_reads' HO333.out).2.2|(with_reducible refine ca_ ?_ _)|(with_reducible refine cn_ ?_ _)|(with_reducible refine cd_ ?_)))
        (case side16=>exact (Kd.S_reads' HO333.out).2.1)
        (case side17=>repeat (first|exact (Kd.R_reads' HO336.out).2.2|(with_reducible refine ca_ ?_ _)|(with_reducible refine cn_ ?_ _)|(with_reducible refine cd_ ?_)))
        (case side18=>exact (Kd.R_reads' HO336.out).2.1)
        (case side19=>repeat (first|exact (Kd.R_reads' HO339.out).2.2|(with_reducible refine ca_ ?_ _)|(with_reducible refine cn_ ?_ _)|(with_reducible refine cd_ ?_)))
        (case side20=>exact (Kd.R_reads' HO339.out).2.1)
        rintro e w74 ⟨rfl,hb⟩
        refine ⟨_,rfl,?_⟩
        have n0_:=A_ (Kd.S_below (by (with_reducible repeat (first|apply Kd.S_alloc|apply Kd.S_drewN|apply Kd.S_drew));exact HO_319002.out) hb)
        have n1_:=A_ (Kd.S_below (by (with_reducible repeat (first|apply Kd.S_alloc|apply Kd.S_drewN|apply Kd.S_drew));exact HO_319003.out) hb)
        have n2_:=A_ (Kd.S_below (by (with_reducible repeat (first|apply Kd.S_alloc|apply Kd.S_drewN|apply Kd.S_drew));exact HO_319004.out) hb)
        have n3_:=A_ (Kd.R_below (by (with_reducible repeat (first|apply Kd.R_alloc|apply Kd.R_drewN|apply Kd.R_drew));exact HO_319005.out) hb)
        have n4_:=A_ (Kd.R_below (by (with_reducible repeat (first|apply Kd.R_alloc|apply Kd.R_drewN|apply Kd.R_drew));exact HO_319006.out) hb)
        have n5_:=A_ (Kd.S_below (by (with_reducible repeat (first|apply Kd.S_alloc|apply Kd.S_drewN|apply Kd.S_drew));exact HO327.out) hb)
        have n6_:=A_ (Kd.S_below (by (with_reducible repeat (first|apply Kd.S_alloc|apply Kd.S_drewN|apply Kd.S_drew));exact HO330.out) hb)
        have n7_:=A_ (Kd.S_below (by (with_reducible repeat (first|apply Kd.S_alloc|apply Kd.S_drewN|apply Kd.S_drew));exact HO333.out) hb)
        have n8_:=A_ (Kd.R_below (by (with_reducible repeat (first|apply Kd.R_alloc|apply Kd.R_drewN|apply Kd.R_drew));exact HO336.out) hb)
        have n9_:=A_ (Kd.R_below (by (with_reducible repeat (first|apply Kd.R_alloc|apply Kd.R_drewN|apply Kd.R_drew));exact HO339.out) hb)
        have n10_:=A_ (kb_ (g:=gb272) (o:=.cells #[.bool a0_0,.bool a0_1,.slice A0_2 l0_2.length c0_2,.slice A0_3 l0_3.length c0_3,.slice A0_4 l0_4.length c0_4,.slice A0_5 l0_5.length c0_5,.slice A0_6 l0_6.length c0_6,.bool a0_7,.bool a0_8] 43 (0,0)) (by (with_reducible repeat (first|refine kn_ ?_ _|refine kd_ ?_|refine ka_ ?_ _));exact BK272.out) hb)
        have n11_:=A_ (kb_ (g:=gb273) (o:=.cells #[.string a3_0,.string a3_1] 45 (0,0)) (by (with_reducible repeat (first|refine kn_ ?_ _|refine kd_ ?_|refine ka_ ?_ _));exact BK273.out) hb)
        have n12_:=A_ (kb_ (g:=gb318) (o:=.cells #[.bool t299,.bool t300,.slice Ao53 t301.length co53,.slice Ao54 t304.length co54,.slice Ao55 t307.length co55,.slice Ao56 t310.length co56,.slice Ao57 t313.length co57,.bool t316,.bool t317] 25 (0,0)) (by (with_reducible repeat (first|refine kn_ ?_ _|refine kd_ ?_|refine ka_ ?_ _));exact BK318.out) hb)
        have n13_:=A_ (bp_ (by repeat (first|(with_reducible first|exact HB.out|apply ba_|apply pd_|apply b1_|refine bs_ ?_ GE272.out|refine bs_ ?_ GE273.out|refine bs_ ?_ GE318.out)|exact HB.out)) hb)
        clear HO_319002
        clear HO_319003
        clear HO_319004
        clear HO_319005
        clear HO_319006
        clear HO327
        clear HO330
        clear HO333
        clear HO336
        clear HO339
        clear BK272
        clear BK273
        clear BK318
        clear HB
        have HO_319002:=n0_
        have HO_319003:=n1_
        have HO_319004:=n2_
        have HO_319005:=n3_
        have HO_319006:=n4_
        have HO327:=n5_
        have HO330:=n6_
        have HO333:=n7_
        have HO336:=n8_
        have HO339:=n9_
        have BK272:=n10_
        have BK273:=n11_
        have BK318:=n12_
        have HB:=n13_
        clear n0_ n1_ n2_ n3_ n4_ n5_ n6_ n7_ n8_ n9_ n10_ n11_ n12_ n13_
        (try clear hb)
        (try clear hb2)
        (try clear hk)
        (try clear hi)
        refine hK.out _ _ ⟨(bc_ BK318.out 0).trans rfl,(bc_ BK318.out 1).trans rfl,(bc_ BK318.out 2).trans rfl,(bc_ BK318.out 3).trans rfl,(bc_ BK318.out 4).trans rfl,(bc_ BK318.out 5).trans rfl,(bc_ BK318.out 6).trans rfl,(bc_ BK318.out 7).trans rfl,(bc_ BK318.out 8).trans rfl,(bc_ BK272.out 0).trans rfl,(bc_ BK272.out 1).trans rfl,(bc_ BK272.out 2).trans rfl,(bc_ BK272.out 3).trans rfl,(bc_ BK272.out 4).trans rfl,(bc_ BK272.out 5).trans rfl,(bc_ BK272.out 6).trans rfl,(bc_ BK272.out 7).trans rfl,(bc_ BK272.out 8).trans rfl⟩ (fun hHeld=>?_)
        clear hK K
        refine norm_ (a':=?_) ?_ ?_
        rotate_left
        ·show Act.put _ (some 60) _=_
         simp only [Act.put,ls_,lz_,lc_,i64_w,i32_w]
         rfl
        refine pure_ (i:=4) (N:=some 61) (v:=?_) (a':=?_) #[T_,T_,T_,T_,T_] rfl rfl (by kernel_rfl) (fun _ _ _ h=>h) (Or.inl ⟨by rfl,?_⟩) ?_ ?_
        rotate_left
        ·intro w'
         go_simp
         with_reducible rfl
        rotate_left
        ·simp only [Act.put,ls_,lz_,lc_,i64_w,i32_w]
         rfl
        refine done_ (by kernel_rfl) ?_
        try go_wp2
        go_ret
        exact ⟨by first|rfl|(simp [errW_none,errW_some] <;> rfl)|(simp [*,errW_none,errW_some] <;> rfl),by repeat (first|(with_reducible first|exact HB.out|apply ba_|apply pd_|apply b1_|refine bs_ ?_ GE272.out|refine bs_ ?_ GE273.out|refine bs_ ?_ GE318.out)|exact HB.out)⟩
       ·replace c66:=bm_ c66
        subst c66
        have H1:(some false)=some r:=by rw [if_neg (show ¬ (false=true) by decide)] at H;exact H
        clear H
        have H:=H1
        clear H1
        exact absurd ((oi_ H).trans HRT.out) (by decide)
end Go.Proofs.Ytmeafbneklphnaa.PFnExactAllowsAttr
