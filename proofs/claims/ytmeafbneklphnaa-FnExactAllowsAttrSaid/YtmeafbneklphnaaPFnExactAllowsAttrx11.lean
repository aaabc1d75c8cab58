/- By a program of this session, out of the kit's print and contracts made by hand: the machine side of a law; Lean checks it. No conditions. -/
import Derived.Test.YtmeafbneklphnaaPFnExactAllowsAttrx0
import Derived.Test.YtmeafbneklphnaaPFnExactAllowsAttrx4
import Derived.Test.YtmeafbneklphnaaPFnExactAllowsAttrx5
import Derived.Test.YtmeafbneklphnaaPFnExactAllowsAttrx9
import Derived.Test.YtmeafbneklphnaaPFnExactAllowsAttrx10
namespace Go.Proofs.Ytmeafbneklphnaa.PFnExactAllowsAttr
open Go.RowKit Go.Proofs.YtmeafbneklphnaaW.PrintWords Go.Proofs.YtmeafbneklphnaaW.PrintLast Go.Proofs.YtmeafbneklphnaaW.PrintMore
attribute [local go_sem] max2_int min2_int max_two min_two max_three min_three max_four min_four
set_option linter.unusedVariables false
set_option linter.unusedSimpArgs false
/-! ### spec_l07Attr: function 47 -/
mutual
def spec_l07Attr.j0:Nat→Int→ByteArray→Bool→Bool→Bool→List (S56)→List (S56)→List (S56)→List ByteArray→List ByteArray→Bool→Bool→ByteArray→ByteArray→Option (Bool)
 | 0,_,_,_,_,_,_,_,_,_,_,_,_,_,_=>none
 | k+1,x1,x2,x29,x147000,x147001,x147002,x147003,x147004,x147005,x147006,x147007,x147008,x148000,x148001=>if x29=true then (some false) else (if x147001=true then ((spec_l01Has.f k x147005 x148000).bind fun t153=>(if t153=true then (spec_l07Attr.j1 k x1 x2 true x147000 x147001 x147002 x147003 x147004 x147005 x147006 x147007 x147008 x148000 x148001) else (if x147008=true then (if (x148000.size:Int)>5 then (if 0≤5 then (if 5≤(x148000.size:Int) then (spec_l07Attr.j1 k x1 x2 ((x148000.extract 0 5).toList == ([100,97,116,97,45]:List UInt8)) x147000 x147001 x147002 x147003 x147004 x147005 x147006 x147007 x147008 x148000 x148001) else (none)) else (none)) else (spec_l07Attr.j1 k x1 x2 false x147000 x147001 x147002 x147003 x147004 x147005 x147006 x147007 x147008 x148000 x148001)) else (spec_l07Attr.j1 k x1 x2 false x147000 x147001 x147002 x147003 x147004 x147005 x147006 x147007 x147008 x148000 x148001)))) else (spec_l07Attr.j1 k x1 x2 true x147000 x147001 x147002 x147003 x147004 x147005 x147006 x147007 x147008 x148000 x148001))
def spec_l07Attr.j1:Nat→Int→ByteArray→Bool→Bool→Bool→List (S56)→List (S56)→List (S56)→List ByteArray→List ByteArray→Bool→Bool→ByteArray→ByteArray→Option (Bool)
 | 0,_,_,_,_,_,_,_,_,_,_,_,_,_,_=>none
 | k+1,x1,x2,x55,x147000,x147001,x147002,x147003,x147004,x147005,x147006,x147007,x147008,x148000,x148001=>if x55=true then (some true) else ((spec_l07At.f k x147002 x1 x2).bind fun t154=>(if t154≥0 then (if 0≤t154 then (if t154<(x147002.length:Int) then ((spec_l01Has.f k ((rd_T56 x147002 t154).f2) x148000).bind fun t156=>(some t156)) else (none)) else (none)) else (some false)))
end
def spec_l07Attr.f (k:Nat) (a0_0:Bool) (a0_1:Bool) (l0_2:List (S56)) (l0_3:List (S56)) (l0_4:List (S56)) (l0_5:List ByteArray) (l0_6:List ByteArray) (a0_7:Bool) (a0_8:Bool) (a1:Int) (a2:ByteArray) (a3_0:ByteArray) (a3_1:ByteArray):Option (Bool):=(spec_l01Handler.f a3_0).bind fun t148=>(if t148=true then (spec_l07Attr.j0 k a1 a2 true a0_0 a0_1 l0_2 l0_3 l0_4 l0_5 l0_6 a0_7 a0_8 a3_0 a3_1) else ((spec_l01Link.f k a3_0).bind fun t149=>(if t149=true then ((spec_l01Bad.f k a3_1).bind fun t150=>(if t150=true then (spec_l07Attr.j0 k a1 a2 true a0_0 a0_1 l0_2 l0_3 l0_4 l0_5 l0_6 a0_7 a0_8 a3_0 a3_1) else ((spec_l01Has.f k l0_6 a3_0).bind fun t151=>(spec_l07Attr.j0 k a1 a2 t151 a0_0 a0_1 l0_2 l0_3 l0_4 l0_5 l0_6 a0_7 a0_8 a3_0 a3_1)))) else ((spec_l01Has.f k l0_6 a3_0).bind fun t152=>(spec_l07Attr.j0 k a1 a2 t152 a0_0 a0_1 l0_2 l0_3 l0_4 l0_5 l0_6 a0_7 a0_8 a3_0 a3_1)))))
theorem spec_l07Attr.mono_l:∀ k,(∀ y0 y1 y2 y3 y4 y5 y6 y7 y8 y9 y10 y11 y12 y13,LeO (spec_l07Attr.j0 k y0 y1 y2 y3 y4 y5 y6 y7 y8 y9 y10 y11 y12 y13) (spec_l07Attr.j0 (k+1) y0 y1 y2 y3 y4 y5 y6 y7 y8 y9 y10 y11 y12 y13))∧(∀ y0 y1 y2 y3 y4 y5 y6 y7 y8 y9 y10 y11 y12 y13,LeO (spec_l07Attr.j1 k y0 y1 y2 y3 y4 y5 y6 y7 y8 y9 y10 y11 y12 y13) (spec_l07Attr.j1 (k+1) y0 y1 y2 y3 y4 y5 y6 y7 y8 y9 y10 y11 y12 y13))
 | 0=>⟨fun _ _ _ _ _ _ _ _ _ _ _ _ _ _ r h=>by simp [spec_l07Attr.j0] at h,fun _ _ _ _ _ _ _ _ _ _ _ _ _ _ r h=>by simp [spec_l07Attr.j1] at h⟩
 | k+1=>by
  obtain ⟨ih0,ih1⟩:=spec_l07Attr.mono_l k
  refine ⟨?_,?_⟩
  ·intro y0 y1 y2 y3 y4 y5 y6 y7 y8 y9 y10 y11 y12 y13
   unfold spec_l07Attr.j0
   repeat' first
   | (with_reducible exact ih0 _ _ _ _ _ _ _ _ _ _ _ _ _ _)
   | (with_reducible exact ih1 _ _ _ _ _ _ _ _ _ _ _ _ _ _)
   | (with_reducible exact spec_l01Bad.mono _ _)
   | (with_reducible exact spec_l01Has.mono _ _ _)
   | (with_reducible exact spec_l01Link.mono _ _)
   | (with_reducible exact spec_l07At.mono _ _ _ _)
   | (with_reducible exact LeO.refl _)
   | (with_reducible exact LeO.none _)
   | (with_reducible refine LeO.ite ?_ ?_)
   | (with_reducible refine LeO.bind ?_ (fun _=>?_))
   | exact ih0 _ _ _ _ _ _ _ _ _ _ _ _ _ _
   | exact ih1 _ _ _ _ _ _ _ _ _ _ _ _ _ _
   | exact spec_l01Bad.mono _ _
   | exact spec_l01Has.mono _ _ _
   | exact spec_l01Link.mono _ _
   | exact spec_l07At.mono _ _ _ _
   | exact LeO.none _
   | refine LeO.ite ?_ ?_
   | refine LeO.bind ?_ (fun _=>?_)
  ·intro y0 y1 y2 y3 y4 y5 y6 y7 y8 y9 y10 y11 y12 y13
   unfold spec_l07Attr.j1
   repeat' first
   | (with_reducible exact ih0 _ _ _ _ _ _ _ _ _ _ _ _ _ _)
   | (with_reducible exact ih1 _ _ _ _ _ _ _ _ _ _ _ _ _ _)
   | (with_reducible exact spec_l01Bad.mono _ _)
   | (with_reducible exact spec_l01Has.mono _ _ _)
   | (with_reducible exact spec_l01Link.mono _ _)
   | (with_reducible exact spec_l07At.mono _ _ _ _)
   | (with_reducible exact LeO.refl _)
   | (with_reducible exact LeO.none _)
   | (with_reducible refine LeO.ite ?_ ?_)
   | (with_reducible refine LeO.bind ?_ (fun _=>?_))
   | exact ih0 _ _ _ _ _ _ _ _ _ _ _ _ _ _
   | exact ih1 _ _ _ _ _ _ _ _ _ _ _ _ _ _
   | exact spec_l01Bad.mono _ _
   | exact spec_l01Has.mono _ _ _
   | exact spec_l01Link.mono _ _
   | exact spec_l07At.mono _ _ _ _
   | exact LeO.none _
   | refine LeO.ite ?_ ?_
   | refine LeO.bind ?_ (fun _=>?_)
theorem spec_l07Attr.mono:∀ a0 a1 a2 a3 a4 a5 a6 a7 a8 a9 a10 a11 a12 k,LeO (spec_l07Attr.f k a0 a1 a2 a3 a4 a5 a6 a7 a8 a9 a10 a11 a12) (spec_l07Attr.f (k+1) a0 a1 a2 a3 a4 a5 a6 a7 a8 a9 a10 a11 a12):=by
 intro a0 a1 a2 a3 a4 a5 a6 a7 a8 a9 a10 a11 a12 k
 obtain ⟨ih0,ih1⟩:=spec_l07Attr.mono_l k
 unfold spec_l07Attr.f
 repeat' first
  | (with_reducible exact ih0 _ _ _ _ _ _ _ _ _ _ _ _ _ _)
  | (with_reducible exact ih1 _ _ _ _ _ _ _ _ _ _ _ _ _ _)
  | (with_reducible exact spec_l01Bad.mono _ _)
  | (with_reducible exact spec_l01Has.mono _ _ _)
  | (with_reducible exact spec_l01Link.mono _ _)
  | (with_reducible exact spec_l07At.mono _ _ _ _)
  | (with_reducible exact LeO.refl _)
  | (with_reducible exact LeO.none _)
  | (with_reducible refine LeO.ite ?_ ?_)
  | (with_reducible refine LeO.bind ?_ (fun _=>?_))
  | exact ih0 _ _ _ _ _ _ _ _ _ _ _ _ _ _
  | exact ih1 _ _ _ _ _ _ _ _ _ _ _ _ _ _
  | exact spec_l01Bad.mono _ _
  | exact spec_l01Has.mono _ _ _
  | exact spec_l01Link.mono _ _
  | exact spec_l07At.mono _ _ _ _
  | exact LeO.none _
  | refine LeO.ite ?_ ?_
  | refine LeO.bind ?_ (fun _=>?_)
set_option maxHeartbeats 8000000 in
set_option maxRecDepth 100000 in
theorem spec_l07Attr.calls (k:Nat) (a0_0:Bool) (a0_1:Bool) (A0_2:Option Addr) (c0_2:Nat) (l0_2:List (S56)) (A0_3:Option Addr) (c0_3:Nat) (l0_3:List (S56)) (A0_4:Option Addr) (c0_4:Nat) (l0_4:List (S56)) (A0_5:Option Addr) (c0_5:Nat) (l0_5:List ByteArray) (A0_6:Option Addr) (c0_6:Nat) (l0_6:List ByteArray) (a0_7:Bool) (a0_8:Bool) (a1:Int) (a2:ByteArray) (a3_0:ByteArray) (a3_1:ByteArray) (r:Bool) (w:World) (hr0_2:Kd.C k56 w A0_2 l0_2.length l0_2) (hc0_2:l0_2.length≤c0_2) (hr0_3:Kd.C k56 w A0_3 l0_3.length l0_3) (hc0_3:l0_3.length≤c0_3) (hr0_4:Kd.C k56 w A0_4 l0_4.length l0_4) (hc0_4:l0_4.length≤c0_4) (hr0_5:Kd.C Kd.string w A0_5 l0_5.length l0_5) (hc0_5:l0_5.length≤c0_5) (hr0_6:Kd.C Kd.string w A0_6 l0_6.length l0_6) (hc0_6:l0_6.length≤c0_6) (h:spec_l07Attr.f k a0_0 a0_1 l0_2 l0_3 l0_4 l0_5 l0_6 a0_7 a0_8 a1 a2 a3_0 a3_1=some r) :
 Calls Try.prog 47 #[.agg #[.bool a0_0,.bool a0_1,.slice A0_2 l0_2.length c0_2,.slice A0_3 l0_3.length c0_3,.slice A0_4 l0_4.length c0_4,.slice A0_5 l0_5.length c0_5,.slice A0_6 l0_6.length c0_6,.bool a0_7,.bool a0_8],.int .i64 a1,.string a2,.agg #[.string a3_0,.string a3_1]] w fun e w'=>e=.returned (.bool r)∧Below w.heap.size w w':=by
 have hu25:=Try.underlying25
 have hu51:=Try.underlying51
 have HR0_2:=A_ hr0_2
 have HC0_2:=A_ hc0_2
 clear hr0_2 hc0_2
 have HR0_3:=A_ hr0_3
 have HC0_3:=A_ hc0_3
 clear hr0_3 hc0_3
 have HR0_4:=A_ hr0_4
 have HC0_4:=A_ hc0_4
 clear hr0_4 hc0_4
 have HR0_5:=A_ hr0_5
 have HC0_5:=A_ hc0_5
 clear hr0_5 hc0_5
 have HR0_6:=A_ hr0_6
 have HC0_6:=A_ hc0_6
 clear hr0_6 hc0_6
 have HB:=A_ (Below.refl w.heap.size w)
 have H:((spec_l01Handler.f a3_0).bind fun t148=>(if t148=true then (spec_l07Attr.j0 k a1 a2 true a0_0 a0_1 l0_2 l0_3 l0_4 l0_5 l0_6 a0_7 a0_8 a3_0 a3_1) else ((spec_l01Link.f k a3_0).bind fun t149=>(if t149=true then ((spec_l01Bad.f k a3_1).bind fun t150=>(if t150=true then (spec_l07Attr.j0 k a1 a2 true a0_0 a0_1 l0_2 l0_3 l0_4 l0_5 l0_6 a0_7 a0_8 a3_0 a3_1) else ((spec_l01Has.f k l0_6 a3_0).bind fun t151=>(spec_l07Attr.j0 k a1 a2 t151 a0_0 a0_1 l0_2 l0_3 l0_4 l0_5 l0_6 a0_7 a0_8 a3_0 a3_1)))) else ((spec_l01Has.f k l0_6 a3_0).bind fun t152=>(spec_l07Attr.j0 k a1 a2 t152 a0_0 a0_1 l0_2 l0_3 l0_4 l0_5 l0_6 a0_7 a0_8 a3_0 a3_1))))))=some r:=h
 clear h
 have HC5:=A_ H
 clear H
 go_enter Try.func47,Try.ntmps47
 go_upto_region 1 with (first|((with_reducible refine gate_dst (N:=4) rfl ?_);(try (refine gate_guard (by rfl) ?_;dsimp only));refine box_event ?hg (N:=4) ?hd (cs:=#[.bool a0_0,.bool a0_1,.slice A0_2 l0_2.length c0_2,.slice A0_3 l0_3.length c0_3,.slice A0_4 l0_4.length c0_4,.slice A0_5 l0_5.length c0_5,.slice A0_6 l0_6.length c0_6,.bool a0_7,.bool a0_8]) (t:=25) ?hr ?_;(case hd=>rfl);(case hg=>rfl);(case hr=>first|(go_simp;done)|(go_simp;rfl));intro gb146 hg w6 hbox hb;have n0_:=A_ (bp_ (by repeat (first|(with_reducible first|exact HB.out|apply ba_|apply pd_|apply b1_)|exact HB.out)) hb);have n1_:=A_ (hbox);have n2_:=A_ ((by rw [hg];exact (bz_ (by repeat (first|(with_reducible first|exact HB.out|apply ba_|apply pd_|apply b1_)|exact HB.out))):w.heap.size≤gb146));have n3_:=A_ ((by rw [hg];exact (bz_ (by repeat (first|(with_reducible first|exact HB.out|apply ba_|apply pd_|apply b1_)|exact HB.out))):w.heap.size≤gb146));clear HB;have HB:=n0_;have BK146:=n1_;have GW146:=n2_;have GE146:=n3_;clear n0_ n1_ n2_ n3_;clear hb hbox hg)|((with_reducible refine gate_dst (N:=7) rfl ?_);(try (refine gate_guard (by rfl) ?_;dsimp only));refine box_event ?hg (N:=7) ?hd (cs:=#[.string a3_0,.string a3_1]) (t:=51) ?hr ?_;(case hd=>rfl);(case hg=>rfl);(case hr=>first|(go_simp;done)|(go_simp;rfl));intro gb147 hg w7 hbox hb;have n0_:=A_ (kb_ (g:=gb146) (o:=.cells #[.bool a0_0,.bool a0_1,.slice A0_2 l0_2.length c0_2,.slice A0_3 l0_3.length c0_3,.slice A0_4 l0_4.length c0_4,.slice A0_5 l0_5.length c0_5,.slice A0_6 l0_6.length c0_6,.bool a0_7,.bool a0_8] 25 (0,0)) (by (with_reducible repeat (first|refine kn_ ?_ _|refine kd_ ?_|refine ka_ ?_ _));exact BK146.out) hb);have n1_:=A_ (bp_ (by repeat (first|(with_reducible first|exact HB.out|apply ba_|apply pd_|apply b1_|refine bs_ ?_ GE146.out)|exact HB.out)) hb);have n2_:=A_ (hbox);have n3_:=A_ ((by rw [hg];exact (bz_ (by repeat (first|(with_reducible first|exact HB.out|apply ba_|apply pd_|apply b1_|refine bs_ ?_ GE146.out)|exact HB.out))):w.heap.size≤gb147));have n4_:=A_ ((by rw [hg];exact (bz_ (by repeat (first|(with_reducible first|exact HB.out|apply ba_|apply pd_|apply b1_|refine bs_ ?_ GE146.out)|exact HB.out))):w.heap.size≤gb147));have n5_:=A_ ((by rw [hg];exact Nat.ne_of_lt (blk_lt (g:=gb146) (o:=.cells #[.bool a0_0,.bool a0_1,.slice A0_2 l0_2.length c0_2,.slice A0_3 l0_3.length c0_3,.slice A0_4 l0_4.length c0_4,.slice A0_5 l0_5.length c0_5,.slice A0_6 l0_6.length c0_6,.bool a0_7,.bool a0_8] 25 (0,0)) (by (with_reducible repeat (first|refine kn_ ?_ _|refine kd_ ?_|refine ka_ ?_ _));exact BK146.out)):gb146≠gb147));have n6_:=A_ ((by rw [hg];exact Nat.ne_of_gt (blk_lt (g:=gb146) (o:=.cells #[.bool a0_0,.bool a0_1,.slice A0_2 l0_2.length c0_2,.slice A0_3 l0_3.length c0_3,.slice A0_4 l0_4.length c0_4,.slice A0_5 l0_5.length c0_5,.slice A0_6 l0_6.length c0_6,.bool a0_7,.bool a0_8] 25 (0,0)) (by (with_reducible repeat (first|refine kn_ ?_ _|refine kd_ ?_|refine ka_ ?_ _));exact BK146.out)):gb147≠gb146));clear BK146;clear HB;have BK146:=n0_;have HB:=n1_;have BK147:=n2_;have GW147:=n3_;have GE147:=n4_;have NB146_147:=n5_;have NB147_146:=n6_;clear n0_ n1_ n2_ n3_ n4_ n5_ n6_;clear hb hbox hg))
 repeat (go_quiet (first|((with_reducible refine gate_dst (N:=4) rfl ?_);(try (refine gate_guard (by rfl) ?_;dsimp only));refine box_event ?hg (N:=4) ?hd (cs:=#[.bool a0_0,.bool a0_1,.slice A0_2 l0_2.length c0_2,.slice A0_3 l0_3.length c0_3,.slice A0_4 l0_4.length c0_4,.slice A0_5 l0_5.length c0_5,.slice A0_6 l0_6.length c0_6,.bool a0_7,.bool a0_8]) (t:=25) ?hr ?_;(case hd=>rfl);(case hg=>rfl);(case hr=>first|(go_simp;done)|(go_simp;rfl));intro gb146 hg w6 hbox hb;have n0_:=A_ (bp_ (by repeat (first|(with_reducible first|exact HB.out|apply ba_|apply pd_|apply b1_)|exact HB.out)) hb);have n1_:=A_ (hbox);have n2_:=A_ ((by rw [hg];exact (bz_ (by repeat (first|(with_reducible first|exact HB.out|apply ba_|apply pd_|apply b1_)|exact HB.out))):w.heap.size≤gb146));have n3_:=A_ ((by rw [hg];exact (bz_ (by repeat (first|(with_reducible first|exact HB.out|apply ba_|apply pd_|apply b1_)|exact HB.out))):w.heap.size≤gb146));clear HB;have HB:=n0_;have BK146:=n1_;have GW146:=n2_;have GE146:=n3_;clear n0_ n1_ n2_ n3_;clear hb hbox hg)|((with_reducible refine gate_dst (N:=7) rfl ?_);(try (refine gate_guard (by rfl) ?_;dsimp only));refine box_event ?hg (N:=7) ?hd (cs:=#[.string a3_0,.string a3_1]) (t:=51) ?hr ?_;(case hd=>rfl);(case hg=>rfl);(case hr=>first|(go_simp;done)|(go_simp;rfl));intro gb147 hg w7 hbox hb;have n0_:=A_ (kb_ (g:=gb146) (o:=.cells #[.bool a0_0,.bool a0_1,.slice A0_2 l0_2.length c0_2,.slice A0_3 l0_3.length c0_3,.slice A0_4 l0_4.length c0_4,.slice A0_5 l0_5.length c0_5,.slice A0_6 l0_6.length c0_6,.bool a0_7,.bool a0_8] 25 (0,0)) (by (with_reducible repeat (first|refine kn_ ?_ _|refine kd_ ?_|refine ka_ ?_ _));exact BK146.out) hb);have n1_:=A_ (bp_ (by repeat (first|(with_reducible first|exact HB.out|apply ba_|apply pd_|apply b1_|refine bs_ ?_ GE146.out)|exact HB.out)) hb);have n2_:=A_ (hbox);have n3_:=A_ ((by rw [hg];exact (bz_ (by repeat (first|(with_reducible first|exact HB.out|apply ba_|apply pd_|apply b1_|refine bs_ ?_ GE146.out)|exact HB.out))):w.heap.size≤gb147));have n4_:=A_ ((by rw [hg];exact (bz_ (by repeat (first|(with_reducible first|exact HB.out|apply ba_|apply pd_|apply b1_|refine bs_ ?_ GE146.out)|exact HB.out))):w.heap.size≤gb147));have n5_:=A_ ((by rw [hg];exact Nat.ne_of_lt (blk_lt (g:=gb146) (o:=.cells #[.bool a0_0,.bool a0_1,.slice A0_2 l0_2.length c0_2,.slice A0_3 l0_3.length c0_3,.slice A0_4 l0_4.length c0_4,.slice A0_5 l0_5.length c0_5,.slice A0_6 l0_6.length c0_6,.bool a0_7,.bool a0_8] 25 (0,0)) (by (with_reducible repeat (first|refine kn_ ?_ _|refine kd_ ?_|refine ka_ ?_ _));exact BK146.out)):gb146≠gb147));have n6_:=A_ ((by rw [hg];exact Nat.ne_of_gt (blk_lt (g:=gb146) (o:=.cells #[.bool a0_0,.bool a0_1,.slice A0_2 l0_2.length c0_2,.slice A0_3 l0_3.length c0_3,.slice A0_4 l0_4.length c0_4,.slice A0_5 l0_5.length c0_5,.slice A0_6 l0_6.length c0_6,.bool a0_7,.bool a0_8] 25 (0,0)) (by (with_reducible repeat (first|refine kn_ ?_ _|refine kd_ ?_|refine ka_ ?_ _));exact BK146.out)):gb147≠gb146));clear BK146;clear HB;have BK146:=n0_;have HB:=n1_;have BK147:=n2_;have GW147:=n3_;have GE147:=n4_;have NB146_147:=n5_;have NB147_146:=n6_;clear n0_ n1_ n2_ n3_ n4_ n5_ n6_;clear hb hbox hg));go_upto_region 1 with (first|((with_reducible refine gate_dst (N:=4) rfl ?_);(try (refine gate_guard (by rfl) ?_;dsimp only));refine box_event ?hg (N:=4) ?hd (cs:=#[.bool a0_0,.bool a0_1,.slice A0_2 l0_2.length c0_2,.slice A0_3 l0_3.length c0_3,.slice A0_4 l0_4.length c0_4,.slice A0_5 l0_5.length c0_5,.slice A0_6 l0_6.length c0_6,.bool a0_7,.bool a0_8]) (t:=25) ?hr ?_;(case hd=>rfl);(case hg=>rfl);(case hr=>first|(go_simp;done)|(go_simp;rfl));intro gb146 hg w6 hbox hb;have n0_:=A_ (bp_ (by repeat (first|(with_reducible first|exact HB.out|apply ba_|apply pd_|apply b1_)|exact HB.out)) hb);have n1_:=A_ (hbox);have n2_:=A_ ((by rw [hg];exact (bz_ (by repeat (first|(with_reducible first|exact HB.out|apply ba_|apply pd_|apply b1_)|exact HB.out))):w.heap.size≤gb146));have n3_:=A_ ((by rw [hg];exact (bz_ (by repeat (first|(with_reducible first|exact HB.out|apply ba_|apply pd_|apply b1_)|exact HB.out))):w.heap.size≤gb146));clear HB;have HB:=n0_;have BK146:=n1_;have GW146:=n2_;have GE146:=n3_;clear n0_ n1_ n2_ n3_;clear hb hbox hg)|((with_reducible refine gate_dst (N:=7) rfl ?_);(try (refine gate_guard (by rfl) ?_;dsimp only));refine box_event ?hg (N:=7) ?hd (cs:=#[.string a3_0,.string a3_1]) (t:=51) ?hr ?_;(case hd=>rfl);(case hg=>rfl);(case hr=>first|(go_simp;done)|(go_simp;rfl));intro gb147 hg w7 hbox hb;have n0_:=A_ (kb_ (g:=gb146) (o:=.cells #[.bool a0_0,.bool a0_1,.slice A0_2 l0_2.length c0_2,.slice A0_3 l0_3.length c0_3,.slice A0_4 l0_4.length c0_4,.slice A0_5 l0_5.length c0_5,.slice A0_6 l0_6.length c0_6,.bool a0_7,.bool a0_8] 25 (0,0)) (by (with_reducible repeat (first|refine kn_ ?_ _|refine kd_ ?_|refine ka_ ?_ _));exact BK146.out) hb);have n1_:=A_ (bp_ (by repeat (first|(with_reducible first|exact HB.out|apply ba_|apply pd_|apply b1_|refine bs_ ?_ GE146.out)|exact HB.out)) hb);have n2_:=A_ (hbox);have n3_:=A_ ((by rw [hg];exact (bz_ (by repeat (first|(with_reducible first|exact HB.out|apply ba_|apply pd_|apply b1_|refine bs_ ?_ GE146.out)|exact HB.out))):w.heap.size≤gb147));have n4_:=A_ ((by rw [hg];exact (bz_ (by repeat (first|(with_reducible first|exact HB.out|apply ba_|apply pd_|apply b1_|refine bs_ ?_ GE146.out)|exact HB.out))):w.heap.size≤gb147));have n5_:=A_ ((by rw [hg];exact Nat.ne_of_lt (blk_lt (g:=gb146) (o:=.cells #[.bool a0_0,.bool a0_1,.slice A0_2 l0_2.length c0_2,.slice A0_3 l0_3.length c0_3,.slice A0_4 l0_4.length c0_4,.slice A0_5 l0_5.length c0_5,.slice A0_6 l0_6.length c0_6,.bool a0_7,.bool a0_8] 25 (0,0)) (by (with_reducible repeat (first|refine kn_ ?_ _|refine kd_ ?_|refine ka_ ?_ _));exact BK146.out)):gb146≠gb147));have n6_:=A_ ((by rw [hg];exact Nat.ne_of_gt (blk_lt (g:=gb146) (o:=.cells #[.bool a0_0,.bool a0_1,.slice A0_2 l0_2.length c0_2,.slice A0_3 l0_3.length c0_3,.slice A0_4 l0_4.length c0_4,.slice A0_5 l0_5.length c0_5,.slice A0_6 l0_6.length c0_6,.bool a0_7,.bool a0_8] 25 (0,0)) (by (with_reducible repeat (first|refine kn_ ?_ _|refine kd_ ?_|refine ka_ ?_ _));exact BK146.out)):gb147≠gb146));clear BK146;clear HB;have BK146:=n0_;have HB:=n1_;have BK147:=n2_;have GW147:=n3_;have GE147:=n4_;have NB146_147:=n5_;have NB147_146:=n6_;clear n0_ n1_ n2_ n3_ n4_ n5_ n6_;clear hb hbox hg)))
 (try simp only [Act.put,ls_,lz_,lc_])
 go_cut [29] (fun v29 wc=>∃ (kq:Nat) (x29_4:Bool),v29=.bool x29_4∧Aside0 (spec_l07Attr.j0 kq a1 a2 x29_4 a0_0 a0_1 l0_2 l0_3 l0_4 l0_5 l0_6 a0_7 a0_8 a3_0 a3_1=some r)∧Aside0 (kq≤k)∧Aside0 (wc.heap[gb146]? = some (.cells #[.bool a0_0,.bool a0_1,(.slice A0_2 l0_2.length c0_2),(.slice A0_3 l0_3.length c0_3),(.slice A0_4 l0_4.length c0_4),(.slice A0_5 l0_5.length c0_5),(.slice A0_6 l0_6.length c0_6),.bool a0_7,.bool a0_8] 25 (0,0)))∧Aside0 (wc.heap[gb147]? = some (.cells #[.string a3_0,.string a3_1] 51 (0,0)))∧Aside0 (Below w.heap.size w wc))
 case first =>
  have H:=HC5.out
  clear HC5
  replace H:=ob_ H
  obtain ⟨t148,A80,H⟩:=H
  replace H:(if t148=true then (spec_l07Attr.j0 k a1 a2 true a0_0 a0_1 l0_2 l0_3 l0_4 l0_5 l0_6 a0_7 a0_8 a3_0 a3_1) else ((spec_l01Link.f k a3_0).bind fun t149=>(if t149=true then ((spec_l01Bad.f k a3_1).bind fun t150=>(if t150=true then (spec_l07Attr.j0 k a1 a2 true a0_0 a0_1 l0_2 l0_3 l0_4 l0_5 l0_6 a0_7 a0_8 a3_0 a3_1) else ((spec_l01Has.f k l0_6 a3_0).bind fun t151=>(spec_l07Attr.j0 k a1 a2 t151 a0_0 a0_1 l0_2 l0_3 l0_4 l0_5 l0_6 a0_7 a0_8 a3_0 a3_1)))) else ((spec_l01Has.f k l0_6 a3_0).bind fun t152=>(spec_l07Attr.j0 k a1 a2 t152 a0_0 a0_1 l0_2 l0_3 l0_4 l0_5 l0_6 a0_7 a0_8 a3_0 a3_1)))))=some r:=H
  have A8:=A_ A80
  clear A80
  by_cases c9:t148=true
  ·subst c9
   have H1:(spec_l07Attr.j0 k a1 a2 true a0_0 a0_1 l0_2 l0_3 l0_4 l0_5 l0_6 a0_7 a0_8 a3_0 a3_1)=some r:=by rw [if_pos rfl] at H;exact H
   clear H
   have H:=H1
   clear H1
   have H':=A_ H
   clear H
   have hnb10:=NB147_146.out
   have hnc10:=NB146_147.out
   have hcz11_0:w7.cell? ⟨gb147,0,none⟩=some (.string a3_0):=(bc_ BK147.out 0).trans rfl
   have hcz11_1:w7.cell? ⟨gb147,1,none⟩=some (.string a3_1):=(bc_ BK147.out 1).trans rfl
   have hfz11_0:=bf_ BK147.out 0
   have hfz11_1:=bf_ BK147.out 1
   go_wp2_with (first|(go_at_call 74;(with_reducible refine (spec_l01Handler.calls a3_0 true _ A8.out).mono ?_);rintro e w' ⟨rfl,⟨nd,rfl⟩⟩;(try first|exact ⟨rfl,_,ww_ _ _ _⟩|exact ⟨rfl,_,Eq.trans (ww_ _ _ _) (congrArg (World.drewN _) (Nat.add_assoc _ _ _))⟩)))
   repeat (go_quiet (first|(go_at_call 74;(with_reducible refine (spec_l01Handler.calls a3_0 true _ A8.out).mono ?_);rintro e w' ⟨rfl,⟨nd,rfl⟩⟩;(try first|exact ⟨rfl,_,ww_ _ _ _⟩|exact ⟨rfl,_,Eq.trans (ww_ _ _ _) (congrArg (World.drewN _) (Nat.add_assoc _ _ _))⟩)));try go_wp2_with (first|(go_at_call 74;(with_reducible refine (spec_l01Handler.calls a3_0 true _ A8.out).mono ?_);rintro e w' ⟨rfl,⟨nd,rfl⟩⟩;(try first|exact ⟨rfl,_,ww_ _ _ _⟩|exact ⟨rfl,_,Eq.trans (ww_ _ _ _) (congrArg (World.drewN _) (Nat.add_assoc _ _ _))⟩))))
   go_meet
   case rel=>exact ⟨_,(true),(by first|rfl|(simp;done)|(simp [*];done)),H',⟨by first|omega|exact Nat.le_refl _⟩,⟨by (with_reducible repeat (first|refine kn_ ?_ _|refine kd_ ?_|refine ka_ ?_ _));exact BK146.out⟩,⟨by (with_reducible repeat (first|refine kn_ ?_ _|refine kd_ ?_|refine ka_ ?_ _));exact BK147.out⟩,⟨by repeat (first|(with_reducible first|exact HB.out|apply ba_|apply pd_|apply b1_|refine bs_ ?_ GE146.out|refine bs_ ?_ GE147.out)|exact HB.out)⟩⟩
  ·replace c9:=bm_ c9
   subst c9
   have H1:((spec_l01Link.f k a3_0).bind fun t149=>(if t149=true then ((spec_l01Bad.f k a3_1).bind fun t150=>(if t150=true then (spec_l07Attr.j0 k a1 a2 true a0_0 a0_1 l0_2 l0_3 l0_4 l0_5 l0_6 a0_7 a0_8 a3_0 a3_1) else ((spec_l01Has.f k l0_6 a3_0).bind fun t151=>(spec_l07Attr.j0 k a1 a2 t151 a0_0 a0_1 l0_2 l0_3 l0_4 l0_5 l0_6 a0_7 a0_8 a3_0 a3_1)))) else ((spec_l01Has.f k l0_6 a3_0).bind fun t152=>(spec_l07Attr.j0 k a1 a2 t152 a0_0 a0_1 l0_2 l0_3 l0_4 l0_5 l0_6 a0_7 a0_8 a3_0 a3_1))))=some r:=by rw [if_neg (show ¬ (false=true) by decide)] at H;exact H
   clear H
   have H:=H1
   clear H1
   replace H:=ob_ H
   obtain ⟨t149,A120,H⟩:=H
   replace H:(if t149=true then ((spec_l01Bad.f k a3_1).bind fun t150=>(if t150=true then (spec_l07Attr.j0 k a1 a2 true a0_0 a0_1 l0_2 l0_3 l0_4 l0_5 l0_6 a0_7 a0_8 a3_0 a3_1) else ((spec_l01Has.f k l0_6 a3_0).bind fun t151=>(spec_l07Attr.j0 k a1 a2 t151 a0_0 a0_1 l0_2 l0_3 l0_4 l0_5 l0_6 a0_7 a0_8 a3_0 a3_1)))) else ((spec_l01Has.f k l0_6 a3_0).bind fun t152=>(spec_l07Attr.j0 k a1 a2 t152 a0_0 a0_1 l0_2 l0_3 l0_4 l0_5 l0_6 a0_7 a0_8 a3_0 a3_1)))=some r:=H
   have A12:=A_ A120
   clear A120
   by_cases c13:t149=true
   ·subst c13
    have H1:((spec_l01Bad.f k a3_1).bind fun t150=>(if t150=true then (spec_l07Attr.j0 k a1 a2 true a0_0 a0_1 l0_2 l0_3 l0_4 l0_5 l0_6 a0_7 a0_8 a3_0 a3_1) else ((spec_l01Has.f k l0_6 a3_0).bind fun t151=>(spec_l07Attr.j0 k a1 a2 t151 a0_0 a0_1 l0_2 l0_3 l0_4 l0_5 l0_6 a0_7 a0_8 a3_0 a3_1))))=some r:=by rw [if_pos rfl] at H;exact H
    clear H
    have H:=H1
    clear H1
    replace H:=ob_ H
    obtain ⟨t150,A140,H⟩:=H
    replace H:(if t150=true then (spec_l07Attr.j0 k a1 a2 true a0_0 a0_1 l0_2 l0_3 l0_4 l0_5 l0_6 a0_7 a0_8 a3_0 a3_1) else ((spec_l01Has.f k l0_6 a3_0).bind fun t151=>(spec_l07Attr.j0 k a1 a2 t151 a0_0 a0_1 l0_2 l0_3 l0_4 l0_5 l0_6 a0_7 a0_8 a3_0 a3_1)))=some r:=H
    have A14:=A_ A140
    clear A140
    by_cases c15:t150=true
    ·subst c15
     have H1:(spec_l07Attr.j0 k a1 a2 true a0_0 a0_1 l0_2 l0_3 l0_4 l0_5 l0_6 a0_7 a0_8 a3_0 a3_1)=some r:=by rw [if_pos rfl] at H;exact H
     clear H
     have H:=H1
     clear H1
     have H':=A_ H
     clear H
     have hnb16:=NB147_146.out
     have hnc16:=NB146_147.out
     have hcz17_0:w7.cell? ⟨gb147,0,none⟩=some (.string a3_0):=(bc_ BK147.out 0).trans rfl
     have hcz17_1:w7.cell? ⟨gb147,1,none⟩=some (.string a3_1):=(bc_ BK147.out 1).trans rfl
     have hfz17_0:=bf_ BK147.out 0
     have hfz17_1:=bf_ BK147.out 1
     go_wp2_with (first|(go_at_call 74;(with_reducible refine (spec_l01Handler.calls a3_0 false _ A8.out).mono ?_);rintro e w' ⟨rfl,⟨nd,rfl⟩⟩;(try first|exact ⟨rfl,_,ww_ _ _ _⟩|exact ⟨rfl,_,Eq.trans (ww_ _ _ _) (congrArg (World.drewN _) (Nat.add_assoc _ _ _))⟩))|(go_at_call 75;(with_reducible refine (spec_l01Link.calls k a3_0 true _ A12.out).mono ?_);rintro e w18 ⟨rfl,hb⟩;have n0_:=A_ (kb_ (g:=gb146) (o:=.cells #[.bool a0_0,.bool a0_1,.slice A0_2 l0_2.length c0_2,.slice A0_3 l0_3.length c0_3,.slice A0_4 l0_4.length c0_4,.slice A0_5 l0_5.length c0_5,.slice A0_6 l0_6.length c0_6,.bool a0_7,.bool a0_8] 25 (0,0)) (by (with_reducible repeat (first|refine kn_ ?_ _|refine kd_ ?_|refine ka_ ?_ _));exact BK146.out) hb);have n1_:=A_ (kb_ (g:=gb147) (o:=.cells #[.string a3_0,.string a3_1] 51 (0,0)) (by (with_reducible repeat (first|refine kn_ ?_ _|refine kd_ ?_|refine ka_ ?_ _));exact BK147.out) hb);have n2_:=A_ (bp_ (by repeat (first|(with_reducible first|exact HB.out|apply ba_|apply pd_|apply b1_|refine bs_ ?_ GE146.out|refine bs_ ?_ GE147.out)|exact HB.out)) hb);clear BK146;clear BK147;clear HB;have BK146:=n0_;have BK147:=n1_;have HB:=n2_;clear n0_ n1_ n2_;(try clear hb);(try clear hb2);(try clear hk);(try clear hi);have hcz19_0:w18.cell? ⟨gb147,0,none⟩=some (.string a3_0):=(bc_ BK147.out 0).trans rfl;have hcz19_1:w18.cell? ⟨gb147,1,none⟩=some (.string a3_1):=(bc_ BK147.out 1).trans rfl;have hfz19_0:=bf_ BK147.out 0;have hfz19_1:=bf_ BK147.out 1)|(go_at_call 76;(with_reducible refine (spec_l01Bad.calls k a3_1 true _ A14.out).mono ?_);rintro e w' ⟨rfl,⟨nd,rfl⟩⟩;(try first|exact ⟨rfl,_,ww_ _ _ _⟩|exact ⟨rfl,_,Eq.trans (ww_ _ _ _) (congrArg (World.drewN _) (Nat.add_assoc _ _ _))⟩)))
     repeat (go_quiet (first|(go_at_call 74;(with_reducible refine (spec_l01Handler.calls a3_0 false _ A8.out).mono ?_);rintro e w' ⟨rfl,⟨nd,rfl⟩⟩;(try first|exact ⟨rfl,_,ww_ _ _ _⟩|exact ⟨rfl,_,Eq.trans (ww_ _ _ _) (congrArg (World.drewN _) (Nat.add_assoc _ _ _))⟩))|(go_at_call 75;(with_reducible refine (spec_l01Link.calls k a3_0 true _ A12.out).mono ?_);rintro e w18 ⟨rfl,hb⟩;have n0_:=A_ (kb_ (g:=gb146) (o:=.cells #[.bool a0_0,.bool a0_1,.slice A0_2 l0_2.length c0_2,.slice A0_3 l0_3.length c0_3,.slice A0_4 l0_4.length c0_4,.slice A0_5 l0_5.length c0_5,.slice A0_6 l0_6.length c0_6,.bool a0_7,.bool a0_8] 25 (0,0)) (by (with_reducible repeat (first|refine kn_ ?_ _|refine kd_ ?_|refine ka_ ?_ _));exact BK146.out) hb);have n1_:=A_ (kb_ (g:=gb147) (o:=.cells #[.string a3_0,.string a3_1] 51 (0,0)) (by (with_reducible repeat (first|refine kn_ ?_ _|refine kd_ ?_|refine ka_ ?_ _));exact BK147.out) hb);have n2_:=A_ (bp_ (by repeat (first|(with_reducible first|exact HB.out|apply ba_|apply pd_|apply b1_|refine bs_ ?_ GE146.out|refine bs_ ?_ GE147.out)|exact HB.out)) hb);clear BK146;clear BK147;clear HB;have BK146:=n0_;have BK147:=n1_;have HB:=n2_;clear n0_ n1_ n2_;(try clear hb);(try clear hb2);(try clear hk);(try clear hi);have hcz19_0:w18.cell? ⟨gb147,0,none⟩=some (.string a3_0):=(bc_ BK147.out 0).trans rfl;have hcz19_1:w18.cell? ⟨gb147,1,none⟩=some (.string a3_1):=(bc_ BK147.out 1).trans rfl;have hfz19_0:=bf_ BK147.out 0;have hfz19_1:=bf_ BK147.out 1)|(go_at_call 76;(with_reducible refine (spec_l01Bad.calls k a3_1 true _ A14.out).mono ?_);rintro e w' ⟨rfl,⟨nd,rfl⟩⟩;(try first|exact ⟨rfl,_,ww_ _ _ _⟩|exact ⟨rfl,_,Eq.trans (ww_ _ _ _) (congrArg (World.drewN _) (Nat.add_assoc _ _ _))⟩)));try go_wp2_with (first|(go_at_call 74;(with_reducible refine (spec_l01Handler.calls a3_0 false _ A8.out).mono ?_);rintro e w' ⟨rfl,⟨nd,rfl⟩⟩;(try first|exact ⟨rfl,_,ww_ _ _ _⟩|exact ⟨rfl,_,Eq.trans (ww_ _ _ _) (congrArg (World.drewN _) (Nat.add_assoc _ _ _))⟩))|(go_at_call 75;(with_reducible refine (spec_l01Link.calls k a3_0 true _ A12.out).mono ?_);rintro e w18 ⟨rfl,hb⟩;have n0_:=A_ (kb_ (g:=gb146) (o:=.cells #[.bool a0_0,.bool a0_1,.slice A0_2 l0_2.length c0_2,.slice A0_3 l0_3.length c0_3,.slice A0_4 l0_4.length c0_4,.slice A0_5 l0_5.length c0_5,.slice A0_6 l0_6.length c0_6,.bool a0_7,.bool a0_8] 25 (0,0)) (by (with_reducible repeat (first|refine kn_ ?_ _|refine kd_ ?_|refine ka_ ?_ _));exact BK146.out) hb);have n1_:=A_ (kb_ (g:=gb147) (o:=.cells #[.string a3_0,.string a3_1] 51 (0,0)) (by (with_reducible repeat (first|refine kn_ ?_ _|refine kd_ ?_|refine ka_ ?_ _));exact BK147.out) hb);have n2_:=A_ (bp_ (by repeat (first|(with_reducible first|exact HB.out|apply ba_|apply pd_|apply b1_|refine bs_ ?_ GE146.out|refine bs_ ?_ GE147.out)|exact HB.out)) hb);clear BK146;clear BK147;clear HB;have BK146:=n0_;have BK147:=n1_;have HB:=n2_;clear n0_ n1_ n2_;(try clear hb);(try clear hb2);(try clear hk);(try clear hi);have hcz19_0:w18.cell? ⟨gb147,0,none⟩=some (.string a3_0):=(bc_ BK147.out 0).trans rfl;have hcz19_1:w18.cell? ⟨gb147,1,none⟩=some (.string a3_1):=(bc_ BK147.out 1).trans rfl;have hfz19_0:=bf_ BK147.out 0;have hfz19_1:=bf_ BK147.out 1)|(go_at_call 76;(with_reducible refine (spec_l01Bad.calls k a3_1 true _ A14.out).mono ?_);rintro e w' ⟨rfl,⟨nd,rfl⟩⟩;(try first|exact ⟨rfl,_,ww_ _ _ _⟩|exact ⟨rfl,_,Eq.trans (ww_ _ _ _) (congrArg (World.drewN _) (Nat.add_assoc _ _ _))⟩))))
     go_meet
     case rel=>exact ⟨_,(true),(by first|rfl|(simp;done)|(simp [*];done)),H',⟨by first|omega|exact Nat.le_refl _⟩,⟨by (with_reducible repeat (first|refine kn_ ?_ _|refine kd_ ?_|refine ka_ ?_ _));exact BK146.out⟩,⟨by (with_reducible repeat (first|refine kn_ ?_ _|refine kd_ ?_|refine ka_ ?_ _));exact BK147.out⟩,⟨by repeat (first|(with_reducible first|exact HB.out|apply ba_|apply pd_|apply b1_|refine bs_ ?_ GE146.out|refine bs_ ?_ GE147.out)|exact HB.out)⟩⟩
    ·replace c15:=bm_ c15
     subst c15
     have H1:((spec_l01Has.f k l0_6 a3_0).bind fun t151=>(spec_l07Attr.j0 k a1 a2 t151 a0_0 a0_1 l0_2 l0_3 l0_4 l0_5 l0_6 a0_7 a0_8 a3_0 a3_1))=some r:=by rw [if_neg (show ¬ (false=true) by decide)] at H;exact H
     clear H
     have H:=H1
     clear H1
     replace H:=ob_ H
     obtain ⟨t151,A200,H⟩:=H
     replace H:(spec_l07Attr.j0 k a1 a2 t151 a0_0 a0_1 l0_2 l0_3 l0_4 l0_5 l0_6 a0_7 a0_8 a3_0 a3_1)=some r:=H
     have A20:=A_ A200
     clear A200
     have H':=A_ H
     clear H
     have hnb21:=NB147_146.out
     have hnc21:=NB146_147.out
     have hcz22_0:w7.cell? ⟨gb147,0,none⟩=some (.string a3_0):=(bc_ BK147.out 0).trans rfl
     have hcz22_1:w7.cell? ⟨gb147,1,none⟩=some (.string a3_1):=(bc_ BK147.out 1).trans rfl
     have hfz22_0:=bf_ BK147.out 0
     have hfz22_1:=bf_ BK147.out 1
     go_wp2_with (first|(go_at_call 74;(with_reducible refine (spec_l01Handler.calls a3_0 false _ A8.out).mono ?_);rintro e w' ⟨rfl,⟨nd,rfl⟩⟩;(try first|exact ⟨rfl,_,ww_ _ _ _⟩|exact ⟨rfl,_,Eq.trans (ww_ _ _ _) (congrArg (World.drewN _) (Nat.add_assoc _ _ _))⟩))|(go_at_call 75;(with_reducible refine (spec_l01Link.calls k a3_0 true _ A12.out).mono ?_);rintro e w23 ⟨rfl,hb⟩;have n0_:=A_ (kb_ (g:=gb146) (o:=.cells #[.bool a0_0,.bool a0_1,.slice A0_2 l0_2.length c0_2,.slice A0_3 l0_3.length c0_3,.slice A0_4 l0_4.length c0_4,.slice A0_5 l0_5.length c0_5,.slice A0_6 l0_6.length c0_6,.bool a0_7,.bool a0_8] 25 (0,0)) (by (with_reducible repeat (first|refine kn_ ?_ _|refine kd_ ?_|refine ka_ ?_ _));exact BK146.out) hb);have n1_:=A_ (kb_ (g:=gb147) (o:=.cells #[.string a3_0,.string a3_1] 51 (0,0)) (by (with_reducible repeat (first|refine kn_ ?_ _|refine kd_ ?_|refine ka_ ?_ _));exact BK147.out) hb);have n2_:=A_ (bp_ (by repeat (first|(with_reducible first|exact HB.out|apply ba_|apply pd_|apply b1_|refine bs_ ?_ GE146.out|refine bs_ ?_ GE147.out)|exact HB.out)) hb);clear BK146;clear BK147;clear HB;have BK146:=n0_;have BK147:=n1_;have HB:=n2_;clear n0_ n1_ n2_;(try clear hb);(try clear hb2);(try clear hk);(try clear hi);have hcz24_0:w23.cell? ⟨gb147,0,none⟩=some (.string a3_0):=(bc_ BK147.out 0).trans rfl;have hcz24_1:w23.cell? ⟨gb147,1,none⟩=some (.string a3_1):=(bc_ BK147.out 1).trans rfl;have hfz24_0:=bf_ BK147.out 0;have hfz24_1:=bf_ BK147.out 1)|(go_at_call 76;(with_reducible refine (spec_l01Bad.calls k a3_1 false _ A14.out).mono ?_);rintro e w' ⟨rfl,⟨nd,rfl⟩⟩;(try first|exact ⟨rfl,_,ww_ _ _ _⟩|exact ⟨rfl,_,Eq.trans (ww_ _ _ _) (congrArg (World.drewN _) (Nat.add_assoc _ _ _))⟩);have hcz25_0:w23.cell? ⟨gb146,0,none⟩=some (.bool a0_0):=(bc_ BK146.out 0).trans rfl;have hcz25_1:w23.cell? ⟨gb146,1,none⟩=some (.bool a0_1):=(bc_ BK146.out 1).trans rfl;have hcz25_2:w23.cell? ⟨gb146,2,none⟩=some (.slice A0_2 l0_2.length c0_2):=(bc_ BK146.out 2).trans rfl;have hcz25_3:w23.cell? ⟨gb146,3,none⟩=some (.slice A0_3 l0_3.length c0_3):=(bc_ BK146.out 3).trans rfl;have hcz25_4:w23.cell? ⟨gb146,4,none⟩=some (.slice A0_4 l0_4.length c0_4):=(bc_ BK146.out 4).trans rfl;have hcz25_5:w23.cell? ⟨gb146,5,none⟩=some (.slice A0_5 l0_5.length c0_5):=(bc_ BK146.out 5).trans rfl;have hcz25_6:w23.cell? ⟨gb146,6,none⟩=some (.slice A0_6 l0_6.length c0_6):=(bc_ BK146.out 6).trans rfl;have hcz25_7:w23.cell? ⟨gb146,7,none⟩=some (.bool a0_7):=(bc_ BK146.out 7).trans rfl;have hcz25_8:w23.cell? ⟨gb146,8,none⟩=some (.bool a0_8):=(bc_ BK146.out 8).trans rfl;have hfz25_0:=bf_ BK146.out 0;have hfz25_1:=bf_ BK146.out 1;have hfz25_2:=bf_ BK146.out 2;have hfz25_3:=bf_ BK146.out 3;have hfz25_4:=bf_ BK146.out 4;have hfz25_5:=bf_ BK146.out 5;have hfz25_6:=bf_ BK146.out 6;have hfz25_7:=bf_ BK146.out 7;have hfz25_8:=bf_ BK146.out 8)|(go_at_call 70;(with_reducible refine (spec_l01Has.calls k _ _ l0_6 a3_0 t151 _ ?side1 ?side2 A20.out).mono ?_);(case side1=>repeat (first|exact (cb_ HR0_6.out (by repeat (first|(with_reducible first|exact HB.out|apply ba_|apply pd_|apply b1_|refine bs_ ?_ GE146.out|refine bs_ ?_ GE147.out)|exact HB.out)))|(with_reducible refine ca_ ?_ _)|(with_reducible refine cn_ ?_ _)|(with_reducible refine cd_ ?_)));(case side2=>exact HC0_6.out);rintro e w' ⟨rfl,⟨nd,rfl⟩⟩;(try first|exact ⟨rfl,_,ww_ _ _ _⟩|exact ⟨rfl,_,Eq.trans (ww_ _ _ _) (congrArg (World.drewN _) (Nat.add_assoc _ _ _))⟩)))
     repeat (go_quiet (first|(go_at_call 74;(with_reducible refine (spec_l01Handler.calls a3_0 false _ A8.out).mono ?_);rintro e w' ⟨rfl,⟨nd,rfl⟩⟩;(try first|exact ⟨rfl,_,ww_ _ _ _⟩|exact ⟨rfl,_,Eq.trans (ww_ _ _ _) (congrArg (World.drewN _) (Nat.add_assoc _ _ _))⟩))|(go_at_call 75;(with_reducible refine (spec_l01Link.calls k a3_0 true _ A12.out).mono ?_);rintro e w23 ⟨rfl,hb⟩;have n0_:=A_ (kb_ (g:=gb146) (o:=.cells #[.bool a0_0,.bool a0_1,.slice A0_2 l0_2.length c0_2,.slice A0_3 l0_3.length c0_3,.slice A0_4 l0_4.length c0_4,.slice A0_5 l0_5.length c0_5,.slice A0_6 l0_6.length c0_6,.bool a0_7,.bool a0_8] 25 (0,0)) (by (with_reducible repeat (first|refine kn_ ?_ _|refine kd_ ?_|refine ka_ ?_ _));exact BK146.out) hb);have n1_:=A_ (kb_ (g:=gb147) (o:=.cells #[.string a3_0,.string a3_1] 51 (0,0)) (by (with_reducible repeat (first|refine kn_ ?_ _|refine kd_ ?_|refine ka_ ?_ _));exact BK147.out) hb);have n2_:=A_ (bp_ (by repeat (first|(with_reducible first|exact HB.out|apply ba_|apply pd_|apply b1_|refine bs_ ?_ GE146.out|refine bs_ ?_ GE147.out)|exact HB.out)) hb);clear BK146;clear BK147;clear HB;have BK146:=n0_;have BK147:=n1_;have HB:=n2_;clear n0_ n1_ n2_;(try clear hb);(try clear hb2);(try clear hk);(try clear hi);have hcz24_0:w23.cell? ⟨gb147,0,none⟩=some (.string a3_0):=(bc_ BK147.out 0).trans rfl;have hcz24_1:w23.cell? ⟨gb147,1,none⟩=some (.string a3_1):=(bc_ BK147.out 1).trans rfl;have hfz24_0:=bf_ BK147.out 0;have hfz24_1:=bf_ BK147.out 1)|(go_at_call 76;(with_reducible refine (spec_l01Bad.calls k a3_1 false _ A14.out).mono ?_);rintro e w' ⟨rfl,⟨nd,rfl⟩⟩;(try first|exact ⟨rfl,_,ww_ _ _ _⟩|exact ⟨rfl,_,Eq.trans (ww_ _ _ _) (congrArg (World.drewN _) (Nat.add_assoc _ _ _))⟩);have hcz25_0:w23.cell? ⟨gb146,0,none⟩=some (.bool a0_0):=(bc_ BK146.out 0).trans rfl;have hcz25_1:w23.cell? ⟨gb146,1,none⟩=some (.bool a0_1):=(bc_ BK146.out 1).trans rfl;have hcz25_2:w23.cell? ⟨gb146,2,none⟩=some (.slice A0_2 l0_2.length c0_2):=(bc_ BK146.out 2).trans rfl;have hcz25_3:w23.cell? ⟨gb146,3,none⟩=some (.slice A0_3 l0_3.length c0_3):=(bc_ BK146.out 3).trans rfl;have hcz25_4:w23.cell? ⟨gb146,4,none⟩=some (.slice A0_4 l0_4.length c0_4):=(bc_ BK146.out 4).trans rfl;have hcz25_5:w23.cell? ⟨gb146,5,none⟩=some (.slice A0_5 l0_5.length c0_5):=(bc_ BK146.out 5).trans rfl;have hcz25_6:w23.cell? ⟨gb146,6,none⟩=some (.slice A0_6 l0_6.length c0_6):=(bc_ BK146.out 6).trans rfl;have hcz25_7:w23.cell? ⟨gb146,7,none⟩=some (.bool a0_7):=(bc_ BK146.out 7).trans rfl;have hcz25_8:w23.cell? ⟨gb146,8,none⟩=some (.bool a0_8):=(bc_ BK146.out 8).trans rfl;have hfz25_0:=bf_ BK146.out 0;have hfz25_1:=bf_ BK146.out 1;have hfz25_2:=bf_ BK146.out 2;have hfz25_3:=bf_ BK146.out 3;have hfz25_4:=bf_ BK146.out 4;have hfz25_5:=bf_ BK146.out 5;have hfz25_6:=bf_ BK146.out 6;have hfz25_7:=bf_ BK146.out 7;have hfz25_8:=bf_ BK146.out 8)|(go_at_call 70;(with_reducible refine (spec_l01Has.calls k _ _ l0_6 a3_0 t151 _ ?side1 ?side2 A20.out).mono ?_);(case side1=>repeat (first|exact (cb_ HR0_6.out (by repeat (first|(with_reducible first|exact HB.out|apply ba_|apply pd_|apply b1_|refine bs_ ?_ GE146.out|refine bs_ ?_ GE147.out)|exact HB.out)))|(with_reducible refine ca_ ?_ _)|(with_reducible refine cn_ ?_ _)|(with_reducible refine cd_ ?_)));(case side2=>exact HC0_6.out);rintro e w' ⟨rfl,⟨nd,rfl⟩⟩;(try first|exact ⟨rfl,_,ww_ _ _ _⟩|exact ⟨rfl,_,Eq.trans (ww_ _ _ _) (congrArg (World.drewN _) (Nat.add_assoc _ _ _))⟩)));try go_wp2_with (first|(go_at_call 74;(with_reducible refine (spec_l01Handler.calls a3_0 false _ A8.out).mono ?_);rintro e w' ⟨rfl,⟨nd,rfl⟩⟩;(try first|exact ⟨rfl,_,ww_ _ _ _⟩|exact ⟨rfl,_,Eq.trans (ww_ _ _ _) (congrArg (World.drewN _) (Nat.add_assoc _ _ _))⟩))|(go_at_call 75;(with_reducible refine (spec_l01Link.calls k a3_0 true _ A12.out).mono ?_);rintro e w23 ⟨rfl,hb⟩;have n0_:=A_ (kb_ (g:=gb146) (o:=.cells #[.bool a0_0,.bool a0_1,.slice A0_2 l0_2.length c0_2,.slice A0_3 l0_3.length c0_3,.slice A0_4 l0_4.length c0_4,.slice A0_5 l0_5.length c0_5,.slice A0_6 l0_6.length c0_6,.bool a0_7,.bool a0_8] 25 (0,0)) (by (with_reducible repeat (first|refine kn_ ?_ _|refine kd_ ?_|refine ka_ ?_ _));exact BK146.out) hb);have n1_:=A_ (kb_ (g:=gb147) (o:=.cells #[.string a3_0,.string a3_1] 51 (0,0)) (by (with_reducible repeat (first|refine kn_ ?_ _|refine kd_ ?_|refine ka_ ?_ _));exact BK147.out) hb);have n2_:=A_ (bp_ (by repeat (first|(with_reducible first|exact HB.out|apply ba_|apply pd_|apply b1_|refine bs_ ?_ GE146.out|refine bs_ ?_ GE147.out)|exact HB.out)) hb);clear BK146;clear BK147;clear HB;have BK146:=n0_;have BK147:=n1_;have HB:=n2_;clear n0_ n1_ n2_;(try clear hb);(try clear hb2);(try clear hk);(try clear hi);have hcz24_0:w23.cell? ⟨gb147,0,none⟩=some (.string a3_0):=(bc_ BK147.out 0).trans rfl;have hcz24_1:w23.cell? ⟨gb147,1,none⟩=some (.string a3_1):=(bc_ BK147.out 1).trans rfl;have hfz24_0:=bf_ BK147.out 0;have hfz24_1:=bf_ BK147.out 1)|(go_at_call 76;(with_reducible refine (spec_l01Bad.calls k a3_1 false _ A14.out).mono ?_);rintro e w' ⟨rfl,⟨nd,rfl⟩⟩;(try first|exact ⟨rfl,_,ww_ _ _ _⟩|exact ⟨rfl,_,Eq.trans (ww_ _ _ _) (congrArg (World.drewN _) (Nat.add_assoc _ _ _))⟩);have hcz25_0:w23.cell? ⟨gb146,0,none⟩=some (.bool a0_0):=(bc_ BK146.out 0).trans rfl;have hcz25_1:w23.cell? ⟨gb146,1,none⟩=some (.bool a0_1):=(bc_ BK146.out 1).trans rfl;have hcz25_2:w23.cell? ⟨gb146,2,none⟩=some (.slice A0_2 l0_2.length c0_2):=(bc_ BK146.out 2).trans rfl;have hcz25_3:w23.cell? ⟨gb146,3,none⟩=some (.slice A0_3 l0_3.length c0_3):=(bc_ BK146.out 3).trans rfl;have hcz25_4:w23.cell? ⟨gb146,4,none⟩=some (.slice A0_4 l0_4.length c0_4):=(bc_ BK146.out 4).trans rfl;have hcz25_5:w23.cell? ⟨gb146,5,none⟩=some (.slice A0_5 l0_5.length c0_5):=(bc_ BK146.out 5).trans rfl;have hcz25_6:w23.cell? ⟨gb146,6,none⟩=some (.slice A0_6 l0_6.length c0_6):=(bc_ BK146.out 6).trans rfl;have hcz25_7:w23.cell? ⟨gb146,7,none⟩=some (.bool a0_7):=(bc_ BK146.out 7).trans rfl;have hcz25_8:w23.cell? ⟨gb146,8,none⟩=some (.bool a0_8):=(bc_ BK146.out 8).trans rfl;have hfz25_0:=bf_ BK146.out 0;have hfz25_1:=bf_ BK146.out 1;have hfz25_2:=bf_ BK146.out 2;have hfz25_3:=bf_ BK146.out 3;have hfz25_4:=bf_ BK146.out 4;have hfz25_5:=bf_ BK146.out 5;have hfz25_6:=bf_ BK146.out 6;have hfz25_7:=bf_ BK146.out 7;have hfz25_8:=bf_ BK146.out 8)|(go_at_call 70;(with_reducible refine (spec_l01Has.calls k _ _ l0_6 a3_0 t151 _ ?side1 ?side2 A20.out).mono ?_);(case side1=>repeat (first|exact (cb_ HR0_6.out (by repeat (first|(with_reducible first|exact HB.out|apply ba_|apply pd_|apply b1_|refine bs_ ?_ GE146.out|refine bs_ ?_ GE147.out)|exact HB.out)))|(with_reducible refine ca_ ?_ _)|(with_reducible refine cn_ ?_ _)|(with_reducible refine cd_ ?_)));(case side2=>exact HC0_6.out);rintro e w' ⟨rfl,⟨nd,rfl⟩⟩;(try first|exact ⟨rfl,_,ww_ _ _ _⟩|exact ⟨rfl,_,Eq.trans (ww_ _ _ _) (congrArg (World.drewN _) (Nat.add_assoc _ _ _))⟩))))
     go_meet
     case rel=>exact ⟨_,(t151),(by first|rfl|(simp;done)|(simp [*];done)),H',⟨by first|omega|exact Nat.le_refl _⟩,⟨by (with_reducible repeat (first|refine kn_ ?_ _|refine kd_ ?_|refine ka_ ?_ _));exact BK146.out⟩,⟨by (with_reducible repeat (first|refine kn_ ?_ _|refine kd_ ?_|refine ka_ ?_ _));exact BK147.out⟩,⟨by repeat (first|(with_reducible first|exact HB.out|apply ba_|apply pd_|apply b1_|refine bs_ ?_ GE146.out|refine bs_ ?_ GE147.out)|exact HB.out)⟩⟩
   ·replace c13:=bm_ c13
    subst c13
    have H1:((spec_l01Has.f k l0_6 a3_0).bind fun t152=>(spec_l07Attr.j0 k a1 a2 t152 a0_0 a0_1 l0_2 l0_3 l0_4 l0_5 l0_6 a0_7 a0_8 a3_0 a3_1))=some r:=by rw [if_neg (show ¬ (false=true) by decide)] at H;exact H
    clear H
    have H:=H1
    clear H1
    replace H:=ob_ H
    obtain ⟨t152,A260,H⟩:=H
    replace H:(spec_l07Attr.j0 k a1 a2 t152 a0_0 a0_1 l0_2 l0_3 l0_4 l0_5 l0_6 a0_7 a0_8 a3_0 a3_1)=some r:=H
    have A26:=A_ A260
    clear A260
    have H':=A_ H
    clear H
    have hnb27:=NB147_146.out
    have hnc27:=NB146_147.out
    have hcz28_0:w7.cell? ⟨gb147,0,none⟩=some (.string a3_0):=(bc_ BK147.out 0).trans rfl
    have hcz28_1:w7.cell? ⟨gb147,1,none⟩=some (.string a3_1):=(bc_ BK147.out 1).trans rfl
    have hfz28_0:=bf_ BK147.out 0
    have hfz28_1:=bf_ BK147.out 1
    go_wp2_with (first|(go_at_call 74;(with_reducible refine (spec_l01Handler.calls a3_0 false _ A8.out).mono ?_);rintro e w' ⟨rfl,⟨nd,rfl⟩⟩;(try first|exact ⟨rfl,_,ww_ _ _ _⟩|exact ⟨rfl,_,Eq.trans (ww_ _ _ _) (congrArg (World.drewN _) (Nat.add_assoc _ _ _))⟩))|(go_at_call 75;(with_reducible refine (spec_l01Link.calls k a3_0 false _ A12.out).mono ?_);rintro e w29 ⟨rfl,hb⟩;have n0_:=A_ (kb_ (g:=gb146) (o:=.cells #[.bool a0_0,.bool a0_1,.slice A0_2 l0_2.length c0_2,.slice A0_3 l0_3.length c0_3,.slice A0_4 l0_4.length c0_4,.slice A0_5 l0_5.length c0_5,.slice A0_6 l0_6.length c0_6,.bool a0_7,.bool a0_8] 25 (0,0)) (by (with_reducible repeat (first|refine kn_ ?_ _|refine kd_ ?_|refine ka_ ?_ _));exact BK146.out) hb);have n1_:=A_ (kb_ (g:=gb147) (o:=.cells #[.string a3_0,.string a3_1] 51 (0,0)) (by (with_reducible repeat (first|refine kn_ ?_ _|refine kd_ ?_|refine ka_ ?_ _));exact BK147.out) hb);have n2_:=A_ (bp_ (by repeat (first|(with_reducible first|exact HB.out|apply ba_|apply pd_|apply b1_|refine bs_ ?_ GE146.out|refine bs_ ?_ GE147.out)|exact HB.out)) hb);clear BK146;clear BK147;clear HB;have BK146:=n0_;have BK147:=n1_;have HB:=n2_;clear n0_ n1_ n2_;(try clear hb);(try clear hb2);(try clear hk);(try clear hi);have hcz30_0:w29.cell? ⟨gb146,0,none⟩=some (.bool a0_0):=(bc_ BK146.out 0).trans rfl;have hcz30_1:w29.cell? ⟨gb146,1,none⟩=some (.bool a0_1):=(bc_ BK146.out 1).trans rfl;have hcz30_2:w29.cell? ⟨gb146,2,none⟩=some (.slice A0_2 l0_2.length c0_2):=(bc_ BK146.out 2).trans rfl;have hcz30_3:w29.cell? ⟨gb146,3,none⟩=some (.slice A0_3 l0_3.length c0_3):=(bc_ BK146.out 3).trans rfl;have hcz30_4:w29.cell? ⟨gb146,4,none⟩=some (.slice A0_4 l0_4.length c0_4):=(bc_ BK146.out 4).trans rfl;have hcz30_5:w29.cell? ⟨gb146,5,none⟩=some (.slice A0_5 l0_5.length c0_5):=(bc_ BK146.out 5).trans rfl;have hcz30_6:w29.cell? ⟨gb146,6,none⟩=some (.slice A0_6 l0_6.length c0_6):=(bc_ BK146.out 6).trans rfl;have hcz30_7:w29.cell? ⟨gb146,7,none⟩=some (.bool a0_7):=(bc_ BK146.out 7).trans rfl;have hcz30_8:w29.cell? ⟨gb146,8,none⟩=some (.bool a0_8):=(bc_ BK146.out 8).trans rfl;have hfz30_0:=bf_ BK146.out 0;have hfz30_1:=bf_ BK146.out 1;have hfz30_2:=bf_ BK146.out 2;have hfz30_3:=bf_ BK146.out 3;have hfz30_4:=bf_ BK146.out 4;have hfz30_5:=bf_ BK146.out 5;have hfz30_6:=bf_ BK146.out 6;have hfz30_7:=bf_ BK146.out 7;have hfz30_8:=bf_ BK146.out 8;have hcz31_0:w29.cell? ⟨gb147,0,none⟩=some (.string a3_0):=(bc_ BK147.out 0).trans rfl;have hcz31_1:w29.cell? ⟨gb147,1,none⟩=some (.string a3_1):=(bc_ BK147.out 1).trans rfl;have hfz31_0:=bf_ BK147.out 0;have hfz31_1:=bf_ BK147.out 1)|(go_at_call 70;(with_reducible refine (spec_l01Has.calls k _ _ l0_6 a3_0 t152 _ ?side1 ?side2 A26.out).mono ?_);(case side1=>repeat (first|exact (cb_ HR0_6.out HB.out)|(with_reducible refine ca_ ?_ _)|(with_reducible refine cn_ ?_ _)|(with_reducible refine cd_ ?_)));(case side2=>exact HC0_6.out);rintro e w' ⟨rfl,⟨nd,rfl⟩⟩;(try first|exact ⟨rfl,_,ww_ _ _ _⟩|exact ⟨rfl,_,Eq.trans (ww_ _ _ _) (congrArg (World.drewN _) (Nat.add_assoc _ _ _))⟩)))
    repeat (go_quiet (first|(go_at_call 74;(with_reducible refine (spec_l01Handler.calls a3_0 false _ A8.out).mono ?_);rintro e w' ⟨rfl,⟨nd,rfl⟩⟩;(try first|exact ⟨rfl,_,ww_ _ _ _⟩|exact ⟨rfl,_,Eq.trans (ww_ _ _ _) (congrArg (World.drewN _) (Nat.add_assoc _ _ _))⟩))|(go_at_call 75;(with_reducible refine (spec_l01Link.calls k a3_0 false _ A12.out).mono ?_);rintro e w29 ⟨rfl,hb⟩;have n0_:=A_ (kb_ (g:=gb146) (o:=.cells #[.bool a0_0,.bool a0_1,.slice A0_2 l0_2.length c0_2,.slice A0_3 l0_3.length c0_3,.slice A0_4 l0_4.length c0_4,.slice A0_5 l0_5.length c0_5,.slice A0_6 l0_6.length c0_6,.bool a0_7,.bool a0_8] 25 (0,0)) (by (with_reducible repeat (first|refine kn_ ?_ _|refine kd_ ?_|refine ka_ ?_ _));exact BK146.out) hb);have n1_:=A_ (kb_ (g:=gb147) (o:=.cells #[.string a3_0,.string a3_1] 51 (0,0)) (by (with_reducible repeat (first|refine kn_ ?_ _|refine kd_ ?_|refine ka_ ?_ _));exact BK147.out) hb);have n2_:=A_ (bp_ (by repeat (first|(with_reducible first|exact HB.out|apply ba_|apply pd_|apply b1_|refine bs_ ?_ GE146.out|refine bs_ ?_ GE147.out)|exact HB.out)) hb);clear BK146;clear BK147;clear HB;have BK146:=n0_;have BK147:=n1_;have HB:=n2_;clear n0_ n1_ n2_;(try clear hb);(try clear hb2);(try clear hk);(try clear hi);have hcz30_0:w29.cell? ⟨gb146,0,none⟩=some (.bool a0_0):=(bc_ BK146.out 0).trans rfl;have hcz30_1:w29.cell? ⟨gb146,1,none⟩=some (.bool a0_1):=(bc_ BK146.out 1).trans rfl;have hcz30_2:w29.cell? ⟨gb146,2,none⟩=some (.slice A0_2 l0_2.length c0_2):=(bc_ BK146.out 2).trans rfl;have hcz30_3:w29.cell? ⟨gb146,3,none⟩=some (.slice A0_3 l0_3.length c0_3):=(bc_ BK146.out 3).trans rfl;have hcz30_4:w29.cell? ⟨gb146,4,none⟩=some (.slice A0_4 l0_4.length c0_4):=(bc_ BK146.out 4).trans rfl;have hcz30_5:w29.cell? ⟨gb146,5,none⟩=some (.slice A0_5 l0_5.length c0_5):=(bc_ BK146.out 5).trans rfl;have hcz30_6:w29.cell? ⟨gb146,6,none⟩=some (.slice A0_6 l0_6.length c0_6):=(bc_ BK146.out 6).trans rfl;have hcz30_7:w29.cell? ⟨gb146,7,none⟩=some (.bool a0_7):=(bc_ BK146.out 7).trans rfl;have hcz30_8:w29.cell? ⟨gb146,8,none⟩=some (.bool a0_8):=(bc_ BK146.out 8).trans rfl;have hfz30_0:=bf_ BK146.out 0;have hfz30_1:=bf_ BK146.out 1;have hfz30_2:=bf_ BK146.out 2;have hfz30_3:=bf_ BK146.out 3;have hfz30_4:=bf_ BK146.out 4;have hfz30_5:=bf_ BK146.out 5;have hfz30_6:=bf_ BK146.out 6;have hfz30_7:=bf_ BK146.out 7;have hfz30_8:=bf_ BK146.out 8;have hcz31_0:w29.cell? ⟨gb147,0,none⟩=some (.string a3_0):=(bc_ BK147.out 0).trans rfl;have hcz31_1:w29.cell? ⟨gb147,1,none⟩=some (.string a3_1):=(bc_ BK147.out 1).trans rfl;have hfz31_0:=bf_ BK147.out 0;have hfz31_1:=bf_ BK147.out 1)|(go_at_call 70;(with_reducible refine (spec_l01Has.calls k _ _ l0_6 a3_0 t152 _ ?side1 ?side2 A26.out).mono ?_);(case side1=>repeat (first|exact (cb_ HR0_6.out HB.out)|(with_reducible refine ca_ ?_ _)|(with_reducible refine cn_ ?_ _)|(with_reducible refine cd_ ?_)));(case side2=>exact HC0_6.out);rintro e w' ⟨rfl,⟨nd,rfl⟩⟩;(try first|exact ⟨rfl,_,ww_ _ _ _⟩|exact ⟨rfl,_,Eq.trans (ww_ _ _ _) (congrArg (World.drewN _) (Nat.add_assoc _ _ _))⟩)));try go_wp2_with (first|(go_at_call 74;(with_reducible refine (spec_l01Handler.calls a3_0 false _ A8.out).mono ?_);rintro e w' ⟨rfl,⟨nd,rfl⟩⟩;(try first|exact ⟨rfl,_,ww_ _ _ _⟩|exact ⟨rfl,_,Eq.trans (ww_ _ _ _) (congrArg (World.drewN _) (Nat.add_assoc _ _ _))⟩))|(go_at_call 75;(with_reducible refine (spec_l01Link.calls k a3_0 false _ A12.out).mono ?_);rintro e w29 ⟨rfl,hb⟩;have n0_:=A_ (kb_ (g:=gb146) (o:=.cells #[.bool a0_0,.bool a0_1,.slice A0_2 l0_2.length c0_2,.slice A0_3 l0_3.length c0_3,.slice A0_4 l0_4.length c0_4,.slice A0_5 l0_5.length c0_5,.slice A0_6 l0_6.length c0_6,.bool a0_7,.bool a0_8] 25 (0,0)) (by (with_reducible repeat (first|refine kn_ ?_ _|refine kd_ ?_|refine ka_ ?_ _));exact BK146.out) hb);have n1_:=A_ (kb_ (g:=gb147) (o:=.cells #[.string a3_0,.string a3_1] 51 (0,0)) (by (with_reducible repeat (first|refine kn_ ?_ _|refine kd_ ?_|refine ka_ ?_ _));exact BK147.out) hb);have n2_:=A_ (bp_ (by repeat (first|(with_reducible first|exact HB.out|apply ba_|apply pd_|apply b1_|refine bs_ ?_ GE146.out|refine bs_ ?_ GE147.out)|exact HB.out)) hb);clear BK146;clear BK147;clear HB;have BK146:=n0_;have BK147:=n1_;have HB:=n2_;clear n0_ n1_ n2_;(try clear hb);(try clear hb2);(try clear hk);(try clear hi);have hcz30_0:w29.cell? ⟨gb146,0,none⟩=some (.bool a0_0):=(bc_ BK146.out 0).trans rfl;have hcz30_1:w29.cell? ⟨gb146,1,none⟩=some (.bool a0_1):=(bc_ BK146.out 1).trans rfl;have hcz30_2:w29.cell? ⟨gb146,2,none⟩=some (.slice A0_2 l0_2.length c0_2):=(bc_ BK146.out 2).trans rfl;have hcz30_3:w29.cell? ⟨gb146,3,none⟩=some (.slice A0_3 l0_3.length c0_3):=(bc_ BK146.out 3).trans rfl;have hcz30_4:w29.cell? ⟨gb146,4,none⟩=some (.slice A0_4 l0_4.length c0_4):=(bc_ BK146.out 4).trans rfl;have hcz30_5:w29.cell? ⟨gb146,5,none⟩=some (.slice A0_5 l0_5.length c0_5):=(bc_ BK146.out 5).trans rfl;have hcz30_6:w29.cell? ⟨gb146,6,none⟩=some (.slice A0_6 l0_6.length c0_6):=(bc_ BK146.out 6).trans rfl;have hcz30_7:w29.cell? ⟨gb146,7,none⟩=some (.bool a0_7):=(bc_ BK146.out 7).trans rfl;have hcz30_8:w29.cell? ⟨gb146,8,none⟩=some (.bool a0_8):=(bc_ BK146.out 8).trans rfl;have hfz30_0:=bf_ BK146.out 0;have hfz30_1:=bf_ BK146.out 1;have hfz30_2:=bf_ BK146.out 2;have hfz30_3:=bf_ BK146.out 3;have hfz30_4:=bf_ BK146.out 4;have hfz30_5:=bf_ BK146.out 5;have hfz30_6:=bf_ BK146.out 6;have hfz30_7:=bf_ BK146.out 7;have hfz30_8:=bf_ BK146.out 8;have hcz31_0:w29.cell? ⟨gb147,0,none⟩=some (.string a3_0):=(bc_ BK147.out 0).trans rfl;have hcz31_1:w29.cell? ⟨gb147,1,none⟩=some (.string a3_1):=(bc_ BK147.out 1).trans rfl;have hfz31_0:=bf_ BK147.out 0;have hfz31_1:=bf_ BK147.out 1)|(go_at_call 70;(with_reducible refine (spec_l01Has.calls k _ _ l0_6 a3_0 t152 _ ?side1 ?side2 A26.out).mono ?_);(case side1=>repeat (first|exact (cb_ HR0_6.out HB.out)|(with_reducible refine ca_ ?_ _)|(with_reducible refine cn_ ?_ _)|(with_reducible refine cd_ ?_)));(case side2=>exact HC0_6.out);rintro e w' ⟨rfl,⟨nd,rfl⟩⟩;(try first|exact ⟨rfl,_,ww_ _ _ _⟩|exact ⟨rfl,_,Eq.trans (ww_ _ _ _) (congrArg (World.drewN _) (Nat.add_assoc _ _ _))⟩))))
    go_meet
    case rel=>exact ⟨_,(t152),(by first|rfl|(simp;done)|(simp [*];done)),H',⟨by first|omega|exact Nat.le_refl _⟩,⟨by (with_reducible repeat (first|refine kn_ ?_ _|refine kd_ ?_|refine ka_ ?_ _));exact BK146.out⟩,⟨by (with_reducible repeat (first|refine kn_ ?_ _|refine kd_ ?_|refine ka_ ?_ _));exact BK147.out⟩,⟨by repeat (first|(with_reducible first|exact HB.out|apply ba_|apply pd_|apply b1_|refine bs_ ?_ GE146.out|refine bs_ ?_ GE147.out)|exact HB.out)⟩⟩
 case rest =>
  clear HC5
  try clear c1
  try clear c2
  try clear p2
  try clear c4
  try clear c9
  try clear c10
  try clear c13
  try clear c15
  try clear c16
  try clear c21
  try clear c27
  try clear hcz11_0
  try clear hcz11_1
  try clear hcz17_0
  try clear hcz17_1
  try clear hcz19_0
  try clear hcz19_1
  try clear hcz22_0
  try clear hcz22_1
  try clear hcz24_0
  try clear hcz24_1
  try clear hcz25_0
  try clear hcz25_1
  try clear hcz25_2
  try clear hcz25_3
  try clear hcz25_4
  try clear hcz25_5
  try clear hcz25_6
  try clear hcz25_7
  try clear hcz25_8
  try clear hcz28_0
  try clear hcz28_1
  try clear hcz30_0
  try clear hcz30_1
  try clear hcz30_2
  try clear hcz30_3
  try clear hcz30_4
  try clear hcz30_5
  try clear hcz30_6
  try clear hcz30_7
  try clear hcz30_8
  try clear hcz31_0
  try clear hcz31_1
  try clear hfz11_0
  try clear hfz11_1
  try clear hfz17_0
  try clear hfz17_1
  try clear hfz19_0
  try clear hfz19_1
  try clear hfz22_0
  try clear hfz22_1
  try clear hfz24_0
  try clear hfz24_1
  try clear hfz25_0
  try clear hfz25_1
  try clear hfz25_2
  try clear hfz25_3
  try clear hfz25_4
  try clear hfz25_5
  try clear hfz25_6
  try clear hfz25_7
  try clear hfz25_8
  try clear hfz28_0
  try clear hfz28_1
  try clear hfz30_0
  try clear hfz30_1
  try clear hfz30_2
  try clear hfz30_3
  try clear hfz30_4
  try clear hfz30_5
  try clear hfz30_6
  try clear hfz30_7
  try clear hfz30_8
  try clear hfz31_0
  try clear hfz31_1
  obtain ⟨kq,x29_4,rfl,HA,HJ4,BK146,BK147,HB⟩:=hcut
  cases kq with
  | zero=>exact absurd HA.out (by simp [spec_l07Attr.j0])
  | succ kj4 =>
   have H:=HA.out
   clear HA
   simp only [spec_l07Attr.j0] at H
   by_cases c32:x29_4=true
   ·subst c32
    have H1:(some false)=some r:=by rw [if_pos rfl] at H;exact H
    clear H
    have H:=H1
    clear H1
    obtain rfl:=oi_ H
    go_wp2
    repeat (go_quiet (fail);try go_wp2)
    go_ret
    exact ⟨by first|rfl|(simp [errW_none,errW_some] <;> rfl)|(simp [*,errW_none,errW_some] <;> rfl),by repeat (first|(with_reducible first|exact HB.out|apply ba_|apply pd_|apply b1_|refine bs_ ?_ GE146.out|refine bs_ ?_ GE147.out)|exact HB.out)⟩
   ·replace c32:=bm_ c32
    subst c32
    have H1:(if a0_1=true then ((spec_l01Has.f kj4 l0_5 a3_0).bind fun t153=>(if t153=true then (spec_l07Attr.j1 kj4 a1 a2 true a0_0 a0_1 l0_2 l0_3 l0_4 l0_5 l0_6 a0_7 a0_8 a3_0 a3_1) else (if a0_8=true then (if (a3_0.size:Int)>5 then (if 0≤5 then (if 5≤(a3_0.size:Int) then (spec_l07Attr.j1 kj4 a1 a2 ((a3_0.extract 0 5).toList == ([100,97,116,97,45]:List UInt8)) a0_0 a0_1 l0_2 l0_3 l0_4 l0_5 l0_6 a0_7 a0_8 a3_0 a3_1) else (none)) else (none)) else (spec_l07Attr.j1 kj4 a1 a2 false a0_0 a0_1 l0_2 l0_3 l0_4 l0_5 l0_6 a0_7 a0_8 a3_0 a3_1)) else (spec_l07Attr.j1 kj4 a1 a2 false a0_0 a0_1 l0_2 l0_3 l0_4 l0_5 l0_6 a0_7 a0_8 a3_0 a3_1)))) else (spec_l07Attr.j1 kj4 a1 a2 true a0_0 a0_1 l0_2 l0_3 l0_4 l0_5 l0_6 a0_7 a0_8 a3_0 a3_1))=some r:=by rw [if_neg (show ¬ (false=true) by decide)] at H;exact H
    clear H
    have H:=H1
    clear H1
    have HC33:=A_ H
    clear H
    go_upto_region 3 with (fail)
    repeat (go_quiet (fail);go_upto_region 3 with (fail))
    go_cut [55] (fun v55 wc=>∃ (kq:Nat) (x55_32:Bool),v55=.bool x55_32∧Aside0 (spec_l07Attr.j1 kq a1 a2 x55_32 a0_0 a0_1 l0_2 l0_3 l0_4 l0_5 l0_6 a0_7 a0_8 a3_0 a3_1=some r)∧Aside0 (kq≤kj4)∧Aside0 (wc.heap[gb146]? = some (.cells #[.bool a0_0,.bool a0_1,(.slice A0_2 l0_2.length c0_2),(.slice A0_3 l0_3.length c0_3),(.slice A0_4 l0_4.length c0_4),(.slice A0_5 l0_5.length c0_5),(.slice A0_6 l0_6.length c0_6),.bool a0_7,.bool a0_8] 25 (0,0)))∧Aside0 (wc.heap[gb147]? = some (.cells #[.string a3_0,.string a3_1] 51 (0,0)))∧Aside0 (Below w.heap.size w wc))
    case first =>
     have H:=HC33.out
     clear HC33
     by_cases c34:a0_1=true
     ·subst c34
      have H1:((spec_l01Has.f kj4 l0_5 a3_0).bind fun t153=>(if t153=true then (spec_l07Attr.j1 kj4 a1 a2 true a0_0 true l0_2 l0_3 l0_4 l0_5 l0_6 a0_7 a0_8 a3_0 a3_1) else (if a0_8=true then (if (a3_0.size:Int)>5 then (if 0≤5 then (if 5≤(a3_0.size:Int) then (spec_l07Attr.j1 kj4 a1 a2 ((a3_0.extract 0 5).toList == ([100,97,116,97,45]:List UInt8)) a0_0 true l0_2 l0_3 l0_4 l0_5 l0_6 a0_7 a0_8 a3_0 a3_1) else (none)) else (none)) else (spec_l07Attr.j1 kj4 a1 a2 false a0_0 true l0_2 l0_3 l0_4 l0_5 l0_6 a0_7 a0_8 a3_0 a3_1)) else (spec_l07Attr.j1 kj4 a1 a2 false a0_0 true l0_2 l0_3 l0_4 l0_5 l0_6 a0_7 a0_8 a3_0 a3_1))))=some r:=by rw [if_pos rfl] at H;exact H
      clear H
      have H:=H1
      clear H1
      replace H:=ob_ H
      obtain ⟨t153,A350,H⟩:=H
      replace H:(if t153=true then (spec_l07Attr.j1 kj4 a1 a2 true a0_0 true l0_2 l0_3 l0_4 l0_5 l0_6 a0_7 a0_8 a3_0 a3_1) else (if a0_8=true then (if (a3_0.size:Int)>5 then (if 0≤5 then (if 5≤(a3_0.size:Int) then (spec_l07Attr.j1 kj4 a1 a2 ((a3_0.extract 0 5).toList == ([100,97,116,97,45]:List UInt8)) a0_0 true l0_2 l0_3 l0_4 l0_5 l0_6 a0_7 a0_8 a3_0 a3_1) else (none)) else (none)) else (spec_l07Attr.j1 kj4 a1 a2 false a0_0 true l0_2 l0_3 l0_4 l0_5 l0_6 a0_7 a0_8 a3_0 a3_1)) else (spec_l07Attr.j1 kj4 a1 a2 false a0_0 true l0_2 l0_3 l0_4 l0_5 l0_6 a0_7 a0_8 a3_0 a3_1)))=some r:=H
      have A35:=A_ A350
      clear A350
      by_cases c36:t153=true
      ·subst c36
       have H1:(spec_l07Attr.j1 kj4 a1 a2 true a0_0 true l0_2 l0_3 l0_4 l0_5 l0_6 a0_7 a0_8 a3_0 a3_1)=some r:=by rw [if_pos rfl] at H;exact H
       clear H
       have H:=H1
       clear H1
       have H':=A_ H
       clear H
       have hnb37:=NB146_147.out
       have hnc37:=NB147_146.out
       have hcz38_0:wc.cell? ⟨gb146,0,none⟩=some (.bool a0_0):=(bc_ BK146.out 0).trans rfl
       have hcz38_1:wc.cell? ⟨gb146,1,none⟩=some (.bool true):=(bc_ BK146.out 1).trans rfl
       have hcz38_2:wc.cell? ⟨gb146,2,none⟩=some (.slice A0_2 l0_2.length c0_2):=(bc_ BK146.out 2).trans rfl
       have hcz38_3:wc.cell? ⟨gb146,3,none⟩=some (.slice A0_3 l0_3.length c0_3):=(bc_ BK146.out 3).trans rfl
       have hcz38_4:wc.cell? ⟨gb146,4,none⟩=some (.slice A0_4 l0_4.length c0_4):=(bc_ BK146.out 4).trans rfl
       have hcz38_5:wc.cell? ⟨gb146,5,none⟩=some (.slice A0_5 l0_5.length c0_5):=(bc_ BK146.out 5).trans rfl
       have hcz38_6:wc.cell? ⟨gb146,6,none⟩=some (.slice A0_6 l0_6.length c0_6):=(bc_ BK146.out 6).trans rfl
       have hcz38_7:wc.cell? ⟨gb146,7,none⟩=some (.bool a0_7):=(bc_ BK146.out 7).trans rfl
       have hcz38_8:wc.cell? ⟨gb146,8,none⟩=some (.bool a0_8):=(bc_ BK146.out 8).trans rfl
       have hfz38_0:=bf_ BK146.out 0
       have hfz38_1:=bf_ BK146.out 1
       have hfz38_2:=bf_ BK146.out 2
       have hfz38_3:=bf_ BK146.out 3
       have hfz38_4:=bf_ BK146.out 4
       have hfz38_5:=bf_ BK146.out 5
       have hfz38_6:=bf_ BK146.out 6
       have hfz38_7:=bf_ BK146.out 7
       have hfz38_8:=bf_ BK146.out 8
       have hcz39_0:wc.cell? ⟨gb147,0,none⟩=some (.string a3_0):=(bc_ BK147.out 0).trans rfl
       have hcz39_1:wc.cell? ⟨gb147,1,none⟩=some (.string a3_1):=(bc_ BK147.out 1).trans rfl
       have hfz39_0:=bf_ BK147.out 0
       have hfz39_1:=bf_ BK147.out 1
       go_wp2_with (first|(go_at_call 70;(with_reducible refine (spec_l01Has.calls kj4 _ _ l0_5 a3_0 true _ ?side1 ?side2 A35.out).mono ?_);(case side1=>repeat (first|exact (cb_ HR0_5.out HB.out)|(with_reducible refine ca_ ?_ _)|(with_reducible refine cn_ ?_ _)|(with_reducible refine cd_ ?_)));(case side2=>exact HC0_5.out);rintro e w' ⟨rfl,⟨nd,rfl⟩⟩;(try first|exact ⟨rfl,_,ww_ _ _ _⟩|exact ⟨rfl,_,Eq.trans (ww_ _ _ _) (congrArg (World.drewN _) (Nat.add_assoc _ _ _))⟩)))
       repeat (go_quiet (first|(go_at_call 70;(with_reducible refine (spec_l01Has.calls kj4 _ _ l0_5 a3_0 true _ ?side1 ?side2 A35.out).mono ?_);(case side1=>repeat (first|exact (cb_ HR0_5.out HB.out)|(with_reducible refine ca_ ?_ _)|(with_reducible refine cn_ ?_ _)|(with_reducible refine cd_ ?_)));(case side2=>exact HC0_5.out);rintro e w' ⟨rfl,⟨nd,rfl⟩⟩;(try first|exact ⟨rfl,_,ww_ _ _ _⟩|exact ⟨rfl,_,Eq.trans (ww_ _ _ _) (congrArg (World.drewN _) (Nat.add_assoc _ _ _))⟩)));try go_wp2_with (first|(go_at_call 70;(with_reducible refine (spec_l01Has.calls kj4 _ _ l0_5 a3_0 true _ ?side1 ?side2 A35.out).mono ?_);(case side1=>repeat (first|exact (cb_ HR0_5.out HB.out)|(with_reducible refine ca_ ?_ _)|(with_reducible refine cn_ ?_ _)|(with_reducible refine cd_ ?_)));(case side2=>exact HC0_5.out);rintro e w' ⟨rfl,⟨nd,rfl⟩⟩;(try first|exact ⟨rfl,_,ww_ _ _ _⟩|exact ⟨rfl,_,Eq.trans (ww_ _ _ _) (congrArg (World.drewN _) (Nat.add_assoc _ _ _))⟩))))
       go_meet
       case rel=>exact ⟨_,(true),(by first|rfl|(simp;done)|(simp [*];done)),H',⟨by have:=HJ4.out;first|omega|exact Nat.le_refl _⟩,⟨by (with_reducible repeat (first|refine kn_ ?_ _|refine kd_ ?_|refine ka_ ?_ _));exact BK146.out⟩,⟨by (with_reducible repeat (first|refine kn_ ?_ _|refine kd_ ?_|refine ka_ ?_ _));exact BK147.out⟩,⟨by repeat (first|(with_reducible first|exact HB.out|apply ba_|apply pd_|apply b1_|refine bs_ ?_ GE146.out|refine bs_ ?_ GE147.out)|exact HB.out)⟩⟩
      ·replace c36:=bm_ c36
       subst c36
       have H1:(if a0_8=true then (if (a3_0.size:Int)>5 then (if 0≤5 then (if 5≤(a3_0.size:Int) then (spec_l07Attr.j1 kj4 a1 a2 ((a3_0.extract 0 5).toList == ([100,97,116,97,45]:List UInt8)) a0_0 true l0_2 l0_3 l0_4 l0_5 l0_6 a0_7 a0_8 a3_0 a3_1) else (none)) else (none)) else (spec_l07Attr.j1 kj4 a1 a2 false a0_0 true l0_2 l0_3 l0_4 l0_5 l0_6 a0_7 a0_8 a3_0 a3_1)) else (spec_l07Attr.j1 kj4 a1 a2 false a0_0 true l0_2 l0_3 l0_4 l0_5 l0_6 a0_7 a0_8 a3_0 a3_1))=some r:=by rw [if_neg (show ¬ (false=true) by decide)] at H;exact H
       clear H
       have H:=H1
       clear H1
       by_cases c40:a0_8=true
       ·subst c40
        have H1:(if (a3_0.size:Int)>5 then (if 0≤5 then (if 5≤(a3_0.size:Int) then (spec_l07Attr.j1 kj4 a1 a2 ((a3_0.extract 0 5).toList == ([100,97,116,97,45]:List UInt8)) a0_0 true l0_2 l0_3 l0_4 l0_5 l0_6 a0_7 true a3_0 a3_1) else (none)) else (none)) else (spec_l07Attr.j1 kj4 a1 a2 false a0_0 true l0_2 l0_3 l0_4 l0_5 l0_6 a0_7 true a3_0 a3_1))=some r:=by rw [if_pos rfl] at H;exact H
        clear H
        have H:=H1
        clear H1
        by_cases c41:(a3_0.size:Int)>5
        ·rw [if_pos c41] at H
         have c41b0:decide (5<(a3_0.size:Int))=true:=dt_ c41
         have c41b1:decide (5<a3_0.size)=true:=dt_ (by omega)
         clear c41
         (first|rw [c41b0]|(simp only [i64_w,i32_w];rw [c41b0])|skip)
         by_cases c42:0≤5
         ·rw [if_pos c42] at H
          have c42b0:=eq_true c42
          have c42b1:decide (0≤5)=true:=dt_ c42
          clear c42
          by_cases c43:5≤(a3_0.size:Int)
          ·rw [if_pos c43] at H
           have c43b0:=eq_true c43
           have c43b1:decide (5≤(a3_0.size:Int))=true:=dt_ c43
           clear c43
           have H':=A_ H
           clear H
           have hnb44:=NB146_147.out
           have hnc44:=NB147_146.out
           have hcz45_0:wc.cell? ⟨gb146,0,none⟩=some (.bool a0_0):=(bc_ BK146.out 0).trans rfl
           have hcz45_1:wc.cell? ⟨gb146,1,none⟩=some (.bool true):=(bc_ BK146.out 1).trans rfl
           have hcz45_2:wc.cell? ⟨gb146,2,none⟩=some (.slice A0_2 l0_2.length c0_2):=(bc_ BK146.out 2).trans rfl
           have hcz45_3:wc.cell? ⟨gb146,3,none⟩=some (.slice A0_3 l0_3.length c0_3):=(bc_ BK146.out 3).trans rfl
           have hcz45_4:wc.cell? ⟨gb146,4,none⟩=some (.slice A0_4 l0_4.length c0_4):=(bc_ BK146.out 4).trans rfl
           have hcz45_5:wc.cell? ⟨gb146,5,none⟩=some (.slice A0_5 l0_5.length c0_5):=(bc_ BK146.out 5).trans rfl
           have hcz45_6:wc.cell? ⟨gb146,6,none⟩=some (.slice A0_6 l0_6.length c0_6):=(bc_ BK146.out 6).trans rfl
           have hcz45_7:wc.cell? ⟨gb146,7,none⟩=some (.bool a0_7):=(bc_ BK146.out 7).trans rfl
           have hcz45_8:wc.cell? ⟨gb146,8,none⟩=some (.bool true):=(bc_ BK146.out 8).trans rfl
           have hfz45_0:=bf_ BK146.out 0
           have hfz45_1:=bf_ BK146.out 1
           have hfz45_2:=bf_ BK146.out 2
           have hfz45_3:=bf_ BK146.out 3
           have hfz45_4:=bf_ BK146.out 4
           have hfz45_5:=bf_ BK146.out 5
           have hfz45_6:=bf_ BK146.out 6
           have hfz45_7:=bf_ BK146.out 7
           have hfz45_8:=bf_ BK146.out 8
           have hcz46_0:wc.cell? ⟨gb147,0,none⟩=some (.string a3_0):=(bc_ BK147.out 0).trans rfl
           have hcz46_1:wc.cell? ⟨gb147,1,none⟩=some (.string a3_1):=(bc_ BK147.out 1).trans rfl
           have hfz46_0:=bf_ BK147.out 0
           have hfz46_1:=bf_ BK147.out 1
           go_wp2_with (first|(go_at_call 70;(with_reducible refine (spec_l01Has.calls kj4 _ _ l0_5 a3_0 false _ ?side1 ?side2 A35.out).mono ?_);(case side1=>repeat (first|exact (cb_ HR0_5.out HB.out)|(with_reducible refine ca_ ?_ _)|(with_reducible refine cn_ ?_ _)|(with_reducible refine cd_ ?_)));(case side2=>exact HC0_5.out);rintro e w' ⟨rfl,⟨nd,rfl⟩⟩;(try first|exact ⟨rfl,_,ww_ _ _ _⟩|exact ⟨rfl,_,Eq.trans (ww_ _ _ _) (congrArg (World.drewN _) (Nat.add_assoc _ _ _))⟩)))
           repeat (go_quiet (first|(go_at_call 70;(with_reducible refine (spec_l01Has.calls kj4 _ _ l0_5 a3_0 false _ ?side1 ?side2 A35.out).mono ?_);(case side1=>repeat (first|exact (cb_ HR0_5.out HB.out)|(with_reducible refine ca_ ?_ _)|(with_reducible refine cn_ ?_ _)|(with_reducible refine cd_ ?_)));(case side2=>exact HC0_5.out);rintro e w' ⟨rfl,⟨nd,rfl⟩⟩;(try first|exact ⟨rfl,_,ww_ _ _ _⟩|exact ⟨rfl,_,Eq.trans (ww_ _ _ _) (congrArg (World.drewN _) (Nat.add_assoc _ _ _))⟩)));try go_wp2_with (first|(go_at_call 70;(with_reducible refine (spec_l01Has.calls kj4 _ _ l0_5 a3_0 false _ ?side1 ?side2 A35.out).mono ?_);(case side1=>repeat (first|exact (cb_ HR0_5.out HB.out)|(with_reducible refine ca_ ?_ _)|(with_reducible refine cn_ ?_ _)|(with_reducible refine cd_ ?_)));(case side2=>exact HC0_5.out);rintro e w' ⟨rfl,⟨nd,rfl⟩⟩;(try first|exact ⟨rfl,_,ww_ _ _ _⟩|exact ⟨rfl,_,Eq.trans (ww_ _ _ _) (congrArg (World.drewN _) (Nat.add_assoc _ _ _))⟩))))
           go_meet
           case rel=>exact ⟨_,(((a3_0.extract 0 5).toList == ([100,97,116,97,45]:List UInt8))),(by first|rfl|(simp;done)|(simp [*];done)),H',⟨by have:=HJ4.out;first|omega|exact Nat.le_refl _⟩,⟨by (with_reducible repeat (first|refine kn_ ?_ _|refine kd_ ?_|refine ka_ ?_ _));exact BK146.out⟩,⟨by (with_reducible repeat (first|refine kn_ ?_ _|refine kd_ ?_|refine ka_ ?_ _));exact BK147.out⟩,⟨by repeat (first|(with_reducible first|exact HB.out|apply ba_|apply pd_|apply b1_|refine bs_ ?_ GE146.out|refine bs_ ?_ GE147.out)|exact HB.out)⟩⟩
          ·rw [if_neg c43] at H
           exact absurd H (by simp)
         ·rw [if_neg c42] at H
          exact absurd H (by simp)
        ·rw [if_neg c41] at H
         have c41b0:decide (5<(a3_0.size:Int))=false:=df_ c41
         have c41b1:decide (5<a3_0.size)=false:=df_ (by omega)
         clear c41
         (first|rw [c41b0]|(simp only [i64_w,i32_w];rw [c41b0])|skip)
         have H':=A_ H
         clear H
         have hnb47:=NB146_147.out
         have hnc47:=NB147_146.out
         have hcz48_0:wc.cell? ⟨gb146,0,none⟩=some (.bool a0_0):=(bc_ BK146.out 0).trans rfl
         have hcz48_1:wc.cell? ⟨gb146,1,none⟩=some (.bool true):=(bc_ BK146.out 1).trans rfl
         have hcz48_2:wc.cell? ⟨gb146,2,none⟩=some (.slice A0_2 l0_2.length c0_2):=(bc_ BK146.out 2).trans rfl
         have hcz48_3:wc.cell? ⟨gb146,3,none⟩=some (.slice A0_3 l0_3.length c0_3):=(bc_ BK146.out 3).trans rfl
         have hcz48_4:wc.cell? ⟨gb146,4,none⟩=some (.slice A0_4 l0_4.length c0_4):=(bc_ BK146.out 4).trans rfl
         have hcz48_5:wc.cell? ⟨gb146,5,none⟩=some (.slice A0_5 l0_5.length c0_5):=(bc_ BK146.out 5).trans rfl
         have hcz48_6:wc.cell? ⟨gb146,6,none⟩=some (.slice A0_6 l0_6.length c0_6):=(bc_ BK146.out 6).trans rfl
         have hcz48_7:wc.cell? ⟨gb146,7,none⟩=some (.bool a0_7):=(bc_ BK146.out 7).trans rfl
         have hcz48_8:wc.cell? ⟨gb146,8,none⟩=some (.bool true):=(bc_ BK146.out 8).trans rfl
         have hfz48_0:=bf_ BK146.out 0
         have hfz48_1:=bf_ BK146.out 1
         have hfz48_2:=bf_ BK146.out 2
         have hfz48_3:=bf_ BK146.out 3
         have hfz48_4:=bf_ BK146.out 4
         have hfz48_5:=bf_ BK146.out 5
         have hfz48_6:=bf_ BK146.out 6
         have hfz48_7:=bf_ BK146.out 7
         have hfz48_8:=bf_ BK146.out 8
         have hcz49_0:wc.cell? ⟨gb147,0,none⟩=some (.string a3_0):=(bc_ BK147.out 0).trans rfl
         have hcz49_1:wc.cell? ⟨gb147,1,none⟩=some (.string a3_1):=(bc_ BK147.out 1).trans rfl
         have hfz49_0:=bf_ BK147.out 0
         have hfz49_1:=bf_ BK147.out 1
         go_wp2_with (first|(go_at_call 70;(with_reducible refine (spec_l01Has.calls kj4 _ _ l0_5 a3_0 false _ ?side1 ?side2 A35.out).mono ?_);(case side1=>repeat (first|exact (cb_ HR0_5.out HB.out)|(with_reducible refine ca_ ?_ _)|(with_reducible refine cn_ ?_ _)|(with_reducible refine cd_ ?_)));(case side2=>exact HC0_5.out);rintro e w' ⟨rfl,⟨nd,rfl⟩⟩;(try first|exact ⟨rfl,_,ww_ _ _ _⟩|exact ⟨rfl,_,Eq.trans (ww_ _ _ _) (congrArg (World.drewN _) (Nat.add_assoc _ _ _))⟩)))
         repeat (go_quiet (first|(go_at_call 70;(with_reducible refine (spec_l01Has.calls kj4 _ _ l0_5 a3_0 false _ ?side1 ?side2 A35.out).mono ?_);(case side1=>repeat (first|exact (cb_ HR0_5.out HB.out)|(with_reducible refine ca_ ?_ _)|(with_reducible refine cn_ ?_ _)|(with_reducible refine cd_ ?_)));(case side2=>exact HC0_5.out);rintro e w' ⟨rfl,⟨nd,rfl⟩⟩;(try first|exact ⟨rfl,_,ww_ _ _ _⟩|exact ⟨rfl,_,Eq.trans (ww_ _ _ _) (congrArg (World.drewN _) (Nat.add_assoc _ _ _))⟩)));try go_wp2_with (first|(go_at_call 70;(with_reducible refine (spec_l01Has.calls kj4 _ _ l0_5 a3_0 false _ ?side1 ?side2 A35.out).mono ?_);(case side1=>repeat (first|exact (cb_ HR0_5.out HB.out)|(with_reducible refine ca_ ?_ _)|(with_reducible refine cn_ ?_ _)|(with_reducible refine cd_ ?_)));(case side2=>exact HC0_5.out);rintro e w' ⟨rfl,⟨nd,rfl⟩⟩;(try first|exact ⟨rfl,_,ww_ _ _ _⟩|exact ⟨rfl,_,Eq.trans (ww_ _ _ _) (congrArg (World.drewN _) (Nat.add_assoc _ _ _))⟩))))
         go_meet
         case rel=>exact ⟨_,(false),(by first|rfl|(simp;done)|(simp [*];done)),H',⟨by have:=HJ4.out;first|omega|exact Nat.le_refl _⟩,⟨by (with_reducible repeat (first|refine kn_ ?_ _|refine kd_ ?_|refine ka_ ?_ _));exact BK146.out⟩,⟨by (with_reducible repeat (first|refine kn_ ?_ _|refine kd_ ?_|refine ka_ ?_ _));exact BK147.out⟩,⟨by repeat (first|(with_reducible first|exact HB.out|apply ba_|apply pd_|apply b1_|refine bs_ ?_ GE146.out|refine bs_ ?_ GE147.out)|exact HB.out)⟩⟩
       ·replace c40:=bm_ c40
        subst c40
        have H1:(spec_l07Attr.j1 kj4 a1 a2 false a0_0 true l0_2 l0_3 l0_4 l0_5 l0_6 a0_7 false a3_0 a3_1)=some r:=by rw [if_neg (show ¬ (false=true) by decide)] at H;exact H
        clear H
        have H:=H1
        clear H1
        have H':=A_ H
        clear H
        have hnb50:=NB146_147.out
        have hnc50:=NB147_146.out
        have hcz51_0:wc.cell? ⟨gb146,0,none⟩=some (.bool a0_0):=(bc_ BK146.out 0).trans rfl
        have hcz51_1:wc.cell? ⟨gb146,1,none⟩=some (.bool true):=(bc_ BK146.out 1).trans rfl
        have hcz51_2:wc.cell? ⟨gb146,2,none⟩=some (.slice A0_2 l0_2.length c0_2):=(bc_ BK146.out 2).trans rfl
        have hcz51_3:wc.cell? ⟨gb146,3,none⟩=some (.slice A0_3 l0_3.length c0_3):=(bc_ BK146.out 3).trans rfl
        have hcz51_4:wc.cell? ⟨gb146,4,none⟩=some (.slice A0_4 l0_4.length c0_4):=(bc_ BK146.out 4).trans rfl
        have hcz51_5:wc.cell? ⟨gb146,5,none⟩=some (.slice A0_5 l0_5.length c0_5):=(bc_ BK146.out 5).trans rfl
        have hcz51_6:wc.cell? ⟨gb146,6,none⟩=some (.slice A0_6 l0_6.length c0_6):=(bc_ BK146.out 6).trans rfl
        have hcz51_7:wc.cell? ⟨gb146,7,none⟩=some (.bool a0_7):=(bc_ BK146.out 7).trans rfl
        have hcz51_8:wc.cell? ⟨gb146,8,none⟩=some (.bool false):=(bc_ BK146.out 8).trans rfl
        have hfz51_0:=bf_ BK146.out 0
        have hfz51_1:=bf_ BK146.out 1
        have hfz51_2:=bf_ BK146.out 2
        have hfz51_3:=bf_ BK146.out 3
        have hfz51_4:=bf_ BK146.out 4
        have hfz51_5:=bf_ BK146.out 5
        have hfz51_6:=bf_ BK146.out 6
        have hfz51_7:=bf_ BK146.out 7
        have hfz51_8:=bf_ BK146.out 8
        have hcz52_0:wc.cell? ⟨gb147,0,none⟩=some (.string a3_0):=(bc_ BK147.out 0).trans rfl
        have hcz52_1:wc.cell? ⟨gb147,1,none⟩=some (.string a3_1):=(bc_ BK147.out 1).trans rfl
        have hfz52_0:=bf_ BK147.out 0
        have hfz52_1:=bf_ BK147.out 1
        go_wp2_with (first|(go_at_call 70;(with_reducible refine (spec_l01Has.calls kj4 _ _ l0_5 a3_0 false _ ?side1 ?side2 A35.out).mono ?_);(case side1=>repeat (first|exact (cb_ HR0_5.out HB.out)|(with_reducible refine ca_ ?_ _)|(with_reducible refine cn_ ?_ _)|(with_reducible refine cd_ ?_)));(case side2=>exact HC0_5.out);rintro e w' ⟨rfl,⟨nd,rfl⟩⟩;(try first|exact ⟨rfl,_,ww_ _ _ _⟩|exact ⟨rfl,_,Eq.trans (ww_ _ _ _) (congrArg (World.drewN _) (Nat.add_assoc _ _ _))⟩)))
        repeat (go_quiet (first|(go_at_call 70;(with_reducible refine (spec_l01Has.calls kj4 _ _ l0_5 a3_0 false _ ?side1 ?side2 A35.out).mono ?_);(case side1=>repeat (first|exact (cb_ HR0_5.out HB.out)|(with_reducible refine ca_ ?_ _)|(with_reducible refine cn_ ?_ _)|(with_reducible refine cd_ ?_)));(case side2=>exact HC0_5.out);rintro e w' ⟨rfl,⟨nd,rfl⟩⟩;(try first|exact ⟨rfl,_,ww_ _ _ _⟩|exact ⟨rfl,_,Eq.trans (ww_ _ _ _) (congrArg (World.drewN _) (Nat.add_assoc _ _ _))⟩)));try go_wp2_with (first|(go_at_call 70;(with_reducible refine (spec_l01Has.calls kj4 _ _ l0_5 a3_0 false _ ?side1 ?side2 A35.out).mono ?_);(case side1=>repeat (first|exact (cb_ HR0_5.out HB.out)|(with_reducible refine ca_ ?_ _)|(with_reducible refine cn_ ?_ _)|(with_reducible refine cd_ ?_)));(case side2=>exact HC0_5.out);rintro e w' ⟨rfl,⟨nd,rfl⟩⟩;(try first|exact ⟨rfl,_,ww_ _ _ _⟩|exact ⟨rfl,_,Eq.trans (ww_ _ _ _) (congrArg (World.drewN _) (Nat.add_assoc _ _ _))⟩))))
        go_meet
        case rel=>exact ⟨_,(false),(by first|rfl|(simp;done)|(simp [*];done)),H',⟨by have:=HJ4.out;first|omega|exact Nat.le_refl _⟩,⟨by (with_reducible repeat (first|refine kn_ ?_ _|refine kd_ ?_|refine ka_ ?_ _));exact BK146.out⟩,⟨by (with_reducible repeat (first|refine kn_ ?_ _|refine kd_ ?_|refine ka_ ?_ _));exact BK147.out⟩,⟨by repeat (first|(with_reducible first|exact HB.out|apply ba_|apply pd_|apply b1_|refine bs_ ?_ GE146.out|refine bs_ ?_ GE147.out)|exact HB.out)⟩⟩
     ·replace c34:=bm_ c34
      subst c34
      have H1:(spec_l07Attr.j1 kj4 a1 a2 true a0_0 false l0_2 l0_3 l0_4 l0_5 l0_6 a0_7 a0_8 a3_0 a3_1)=some r:=by rw [if_neg (show ¬ (false=true) by decide)] at H;exact H
      clear H
      have H:=H1
      clear H1
      have H':=A_ H
      clear H
      have hnb53:=NB146_147.out
      have hnc53:=NB147_146.out
      have hcz54_0:wc.cell? ⟨gb146,0,none⟩=some (.bool a0_0):=(bc_ BK146.out 0).trans rfl
      have hcz54_1:wc.cell? ⟨gb146,1,none⟩=some (.bool false):=(bc_ BK146.out 1).trans rfl
      have hcz54_2:wc.cell? ⟨gb146,2,none⟩=some (.slice A0_2 l0_2.length c0_2):=(bc_ BK146.out 2).trans rfl
      have hcz54_3:wc.cell? ⟨gb146,3,none⟩=some (.slice A0_3 l0_3.length c0_3):=(bc_ BK146.out 3).trans rfl
      have hcz54_4:wc.cell? ⟨gb146,4,none⟩=some (.slice A0_4 l0_4.length c0_4):=(bc_ BK146.out 4).trans rfl
      have hcz54_5:wc.cell? ⟨gb146,5,none⟩=some (.slice A0_5 l0_5.length c0_5):=(bc_ BK146.out 5).trans rfl
      have hcz54_6:wc.cell? ⟨gb146,6,none⟩=some (.slice A0_6 l0_6.length c0_6):=(bc_ BK146.out 6).trans rfl
      have hcz54_7:wc.cell? ⟨gb146,7,none⟩=some (.bool a0_7):=(bc_ BK146.out 7).trans rfl
      have hcz54_8:wc.cell? ⟨gb146,8,none⟩=some (.bool a0_8):=(bc_ BK146.out 8).trans rfl
      have hfz54_0:=bf_ BK146.out 0
      have hfz54_1:=bf_ BK146.out 1
      have hfz54_2:=bf_ BK146.out 2
      have hfz54_3:=bf_ BK146.out 3
      have hfz54_4:=bf_ BK146.out 4
      have hfz54_5:=bf_ BK146.out 5
      have hfz54_6:=bf_ BK146.out 6
      have hfz54_7:=bf_ BK146.out 7
      have hfz54_8:=bf_ BK146.out 8
      go_wp2
      repeat (go_quiet (fail);try go_wp2)
      go_meet
      case rel=>exact ⟨_,(true),(by first|rfl|(simp;done)|(simp [*];done)),H',⟨by have:=HJ4.out;first|omega|exact Nat.le_refl _⟩,⟨by (with_reducible repeat (first|refine kn_ ?_ _|refine kd_ ?_|refine ka_ ?_ _));exact BK146.out⟩,⟨by (with_reducible repeat (first|refine kn_ ?_ _|refine kd_ ?_|refine ka_ ?_ _));exact BK147.out⟩,⟨by repeat (first|(with_reducible first|exact HB.out|apply ba_|apply pd_|apply b1_|refine bs_ ?_ GE146.out|refine bs_ ?_ GE147.out)|exact HB.out)⟩⟩
    case rest =>
     clear HC33
     try clear c1
     try clear c2
     try clear p2
     try clear c3
     try clear c4
     try clear c5
     try clear c9
     try clear c10
     try clear c13
     try clear c15
     try clear c16
     try clear c21
     try clear c27
     try clear c32
     try clear c34
     try clear c36
     try clear c37
     try clear c40
     try clear c41
     try clear c41b0
     try clear c41b1
     try clear c42
     try clear c42b0
     try clear c42b1
     try clear c43
     try clear c43b0
     try clear c43b1
     try clear c44
     try clear c47
     try clear c50
     try clear c53
     try clear hcz11_0
     try clear hcz11_1
     try clear hcz17_0
     try clear hcz17_1
     try clear hcz19_0
     try clear hcz19_1
     try clear hcz22_0
     try clear hcz22_1
     try clear hcz24_0
     try clear hcz24_1
     try clear hcz25_0
     try clear hcz25_1
     try clear hcz25_2
     try clear hcz25_3
     try clear hcz25_4
     try clear hcz25_5
     try clear hcz25_6
     try clear hcz25_7
     try clear hcz25_8
     try clear hcz28_0
     try clear hcz28_1
     try clear hcz30_0
     try clear hcz30_1
     try clear hcz30_2
     try clear hcz30_3
     try clear hcz30_4
     try clear hcz30_5
     try clear hcz30_6
     try clear hcz30_7
     try clear hcz30_8
     try clear hcz31_0
     try clear hcz31_1
     try clear hcz38_0
     try clear hcz38_1
     try clear hcz38_2
     try clear hcz38_3
     try clear hcz38_4
     try clear hcz38_5
     try clear hcz38_6
     try clear hcz38_7
     try clear hcz38_8
     try clear hcz39_0
     try clear hcz39_1
     try clear hcz45_0
     try clear hcz45_1
     try clear hcz45_2
     try clear hcz45_3
     try clear hcz45_4
     try clear hcz45_5
     try clear hcz45_6
     try clear hcz45_7
     try clear hcz45_8
     try clear hcz46_0
     try clear hcz46_1
     try clear hcz48_0
     try clear hcz48_1
     try clear hcz48_2
     try clear hcz48_3
     try clear hcz48_4
     try clear hcz48_5
     try clear hcz48_6
     try clear hcz48_7
     try clear hcz48_8
     try clear hcz49_0
     try clear hcz49_1
     try clear hcz51_0
     try clear hcz51_1
     try clear hcz51_2
     try clear hcz51_3
     try clear hcz51_4
     try clear hcz51_5
     try clear hcz51_6
     try clear hcz51_7
     try clear hcz51_8
     try clear hcz52_0
     try clear hcz52_1
     try clear hcz54_0
     try clear hcz54_1
     try clear hcz54_2
     try clear hcz54_3
     try clear hcz54_4
     try clear hcz54_5
     try clear hcz54_6
     try clear hcz54_7
     try clear hcz54_8
     try clear hfz11_0
     try clear hfz11_1
     try clear hfz17_0
     try clear hfz17_1
     try clear hfz19_0
     try clear hfz19_1
     try clear hfz22_0
     try clear hfz22_1
     try clear hfz24_0
     try clear hfz24_1
     try clear hfz25_0
     try clear hfz25_1
     try clear hfz25_2
     try clear hfz25_3
     try clear hfz25_4
     try clear hfz25_5
     try clear hfz25_6
     try clear hfz25_7
     try clear hfz25_8
     try clear hfz28_0
     try clear hfz28_1
     try clear hfz30_0
     try clear hfz30_1
     try clear hfz30_2
     try clear hfz30_3
     try clear hfz30_4
     try clear hfz30_5
     try clear hfz30_6
     try clear hfz30_7
     try clear hfz30_8
     try clear hfz31_0
     try clear hfz31_1
     try clear hfz38_0
     try clear hfz38_1
     try clear hfz38_2
     try clear hfz38_3
     try clear hfz38_4
     try clear hfz38_5
     try clear hfz38_6
     try clear hfz38_7
     try clear hfz38_8
     try clear hfz39_0
     try clear hfz39_1
     try clear hfz45_0
     try clear hfz45_1
     try clear hfz45_2
     try clear hfz45_3
     try clear hfz45_4
     try clear hfz45_5
     try clear hfz45_6
     try clear hfz45_7
     try clear hfz45_8
     try clear hfz46_0
     try clear hfz46_1
     try clear hfz48_0
     try clear hfz48_1
     try clear hfz48_2
     try clear hfz48_3
     try clear hfz48_4
     try clear hfz48_5
     try clear hfz48_6
     try clear hfz48_7
     try clear hfz48_8
     try clear hfz49_0
     try clear hfz49_1
     try clear hfz51_0
     try clear hfz51_1
     try clear hfz51_2
     try clear hfz51_3
     try clear hfz51_4
     try clear hfz51_5
     try clear hfz51_6
     try clear hfz51_7
     try clear hfz51_8
     try clear hfz52_0
     try clear hfz52_1
     try clear hfz54_0
     try clear hfz54_1
     try clear hfz54_2
     try clear hfz54_3
     try clear hfz54_4
     try clear hfz54_5
     try clear hfz54_6
     try clear hfz54_7
     try clear hfz54_8
     try clear p2
     obtain ⟨kq,x55_32,rfl,HA,HJ32,BK146,BK147,HB⟩:=hcut
     cases kq with
     | zero=>exact absurd HA.out (by simp [spec_l07Attr.j1])
     | succ kj32 =>
      have H:=HA.out
      clear HA
      simp only [spec_l07Attr.j1] at H
      by_cases c55:x55_32=true
      ·subst c55
       have H1:(some true)=some r:=by rw [if_pos rfl] at H;exact H
       clear H
       have H:=H1
       clear H1
       obtain rfl:=oi_ H
       go_wp2
       repeat (go_quiet (fail);try go_wp2)
       go_ret
       exact ⟨by first|rfl|(simp [errW_none,errW_some] <;> rfl)|(simp [*,errW_none,errW_some] <;> rfl),by repeat (first|(with_reducible first|exact HB.out|apply ba_|apply pd_|apply b1_|refine bs_ ?_ GE146.out|refine bs_ ?_ GE147.out)|exact HB.out)⟩
      ·replace c55:=bm_ c55
       subst c55
       have H1:((spec_l07At.f kj32 l0_2 a1 a2).bind fun t154=>(if t154≥0 then (if 0≤t154 then (if t154<(l0_2.length:Int) then ((spec_l01Has.f kj32 ((rd_T56 l0_2 t154).f2) a3_0).bind fun t156=>(some t156)) else (none)) else (none)) else (some false)))=some r:=by rw [if_neg (show ¬ (false=true) by decide)] at H;exact H
       clear H
       have H:=H1
       clear H1
       replace H:=ob_ H
       obtain ⟨t154,A560,H⟩:=H
       replace H:(if t154≥0 then (if 0≤t154 then (if t154<(l0_2.length:Int) then ((spec_l01Has.f kj32 ((rd_T56 l0_2 t154).f2) a3_0).bind fun t156=>(some t156)) else (none)) else (none)) else (some false))=some r:=H
       have A56:=A_ A560
       clear A560
       by_cases c57:t154≥0
       ·rw [if_pos c57] at H
        have c57b0:decide (0≤t154)=true:=dt_ c57
        clear c57
        by_cases c58:0≤t154
        ·rw [if_pos c58] at H
         have c58b0:decide (0≤t154)=true:=dt_ c58
         clear c58
         by_cases c59:t154<(l0_2.length:Int)
         ·rw [if_pos c59] at H
          have c59b0:decide (t154<(l0_2.length:Int))=true:=dt_ c59
          clear c59
          replace H:=ob_ H
          obtain ⟨t156,A600,H⟩:=H
          replace H:(some t156)=some r:=H
          have A60:=A_ A600
          clear A600
          obtain rfl:=oi_ H
          have hnb61:=NB146_147.out
          have hnc61:=NB147_146.out
          have hcz62_0:wc.cell? ⟨gb146,0,none⟩=some (.bool a0_0):=(bc_ BK146.out 0).trans rfl
          have hcz62_1:wc.cell? ⟨gb146,1,none⟩=some (.bool a0_1):=(bc_ BK146.out 1).trans rfl
          have hcz62_2:wc.cell? ⟨gb146,2,none⟩=some (.slice A0_2 l0_2.length c0_2):=(bc_ BK146.out 2).trans rfl
          have hcz62_3:wc.cell? ⟨gb146,3,none⟩=some (.slice A0_3 l0_3.length c0_3):=(bc_ BK146.out 3).trans rfl
          have hcz62_4:wc.cell? ⟨gb146,4,none⟩=some (.slice A0_4 l0_4.length c0_4):=(bc_ BK146.out 4).trans rfl
          have hcz62_5:wc.cell? ⟨gb146,5,none⟩=some (.slice A0_5 l0_5.length c0_5):=(bc_ BK146.out 5).trans rfl
          have hcz62_6:wc.cell? ⟨gb146,6,none⟩=some (.slice A0_6 l0_6.length c0_6):=(bc_ BK146.out 6).trans rfl
          have hcz62_7:wc.cell? ⟨gb146,7,none⟩=some (.bool a0_7):=(bc_ BK146.out 7).trans rfl
          have hcz62_8:wc.cell? ⟨gb146,8,none⟩=some (.bool a0_8):=(bc_ BK146.out 8).trans rfl
          have hfz62_0:=bf_ BK146.out 0
          have hfz62_1:=bf_ BK146.out 1
          have hfz62_2:=bf_ BK146.out 2
          have hfz62_3:=bf_ BK146.out 3
          have hfz62_4:=bf_ BK146.out 4
          have hfz62_5:=bf_ BK146.out 5
          have hfz62_6:=bf_ BK146.out 6
          have hfz62_7:=bf_ BK146.out 7
          have hfz62_8:=bf_ BK146.out 8
          go_wp2_with (first|(go_at_call 77;(with_reducible refine (spec_l07At.calls kj32 _ _ l0_2 a1 a2 t154 _ ?side1 ?side2 A56.out).mono ?_);(case side1=>repeat (first|exact (cb_ HR0_2.out HB.out)|(with_reducible refine ca_ ?_ _)|(with_reducible refine cn_ ?_ _)|(with_reducible refine cd_ ?_)));(case side2=>exact HC0_2.out);rintro e w' ⟨rfl,⟨nd,rfl⟩⟩;(try first|exact ⟨rfl,_,ww_ _ _ _⟩|exact ⟨rfl,_,Eq.trans (ww_ _ _ _) (congrArg (World.drewN _) (Nat.add_assoc _ _ _))⟩);have p155:0≤(t154:Int):=od_ (by first|(with_reducible assumption)|assumption);have q155:t154<(l0_2.length:Int):=od_ (by first|(with_reducible assumption)|assumption);obtain ⟨ad155,A155_2,c155_2,e155,hx155_0,hx155_1,hx155_2,hl155_2,hi155_2⟩:=at_T56 HR0_2.out t154 p155 q155;cases e155;replace hx155_0:=(HB.out.cell (bl_ w _ hx155_0)).trans hx155_0;replace hx155_1:=(HB.out.cell (bl_ w _ hx155_1)).trans hx155_1;replace hx155_2:=(HB.out.cell (bl_ w _ hx155_2)).trans hx155_2;have HR155_2:=A_ hi155_2;have HC155_2:=A_ hl155_2;clear hi155_2 hl155_2;replace p155:=eq_true p155;replace q155:=eq_true q155;have hcz63_0:wc.cell? ⟨gb147,0,none⟩=some (.string a3_0):=(bc_ BK147.out 0).trans rfl;have hcz63_1:wc.cell? ⟨gb147,1,none⟩=some (.string a3_1):=(bc_ BK147.out 1).trans rfl;have hfz63_0:=bf_ BK147.out 0;have hfz63_1:=bf_ BK147.out 1)|(go_at_call 70;(with_reducible refine (spec_l01Has.calls kj32 _ _ ((rd_T56 l0_2 t154).f2) a3_0 t156 _ ?side1 ?side2 A60.out).mono ?_);(case side1=>repeat (first|exact (cb_ HR155_2.out (by repeat (first|(with_reducible first|exact HB.out|apply ba_|apply pd_|apply b1_|refine bs_ ?_ GE146.out|refine bs_ ?_ GE147.out)|exact HB.out)))|(with_reducible refine ca_ ?_ _)|(with_reducible refine cn_ ?_ _)|(with_reducible refine cd_ ?_)));(case side2=>exact HC155_2.out);rintro e w' ⟨rfl,⟨nd,rfl⟩⟩;(try first|exact ⟨rfl,_,ww_ _ _ _⟩|exact ⟨rfl,_,Eq.trans (ww_ _ _ _) (congrArg (World.drewN _) (Nat.add_assoc _ _ _))⟩)))
          repeat (go_quiet (first|(go_at_call 77;(with_reducible refine (spec_l07At.calls kj32 _ _ l0_2 a1 a2 t154 _ ?side1 ?side2 A56.out).mono ?_);(case side1=>repeat (first|exact (cb_ HR0_2.out HB.out)|(with_reducible refine ca_ ?_ _)|(with_reducible refine cn_ ?_ _)|(with_reducible refine cd_ ?_)));(case side2=>exact HC0_2.out);rintro e w' ⟨rfl,⟨nd,rfl⟩⟩;(try first|exact ⟨rfl,_,ww_ _ _ _⟩|exact ⟨rfl,_,Eq.trans (ww_ _ _ _) (congrArg (World.drewN _) (Nat.add_assoc _ _ _))⟩);have p155:0≤(t154:Int):=od_ (by first|(with_reducible assumption)|assumption);have q155:t154<(l0_2.length:Int):=od_ (by first|(with_reducible assumption)|assumption);obtain ⟨ad155,A155_2,c155_2,e155,hx155_0,hx155_1,hx155_2,hl155_2,hi155_2⟩:=at_T56 HR0_2.out t154 p155 q155;cases e155;replace hx155_0:=(HB.out.cell (bl_ w _ hx155_0)).trans hx155_0;replace hx155_1:=(HB.out.cell (bl_ w _ hx155_1)).trans hx155_1;replace hx155_2:=(HB.out.cell (bl_ w _ hx155_2)).trans hx155_2;have HR155_2:=A_ hi155_2;have HC155_2:=A_ hl155_2;clear hi155_2 hl155_2;replace p155:=eq_true p155;replace q155:=eq_true q155;have hcz63_0:wc.cell? ⟨gb147,0,none⟩=some (.string a3_0):=(bc_ BK147.out 0).trans rfl;have hcz63_1:wc.cell? ⟨gb147,1,none⟩=some (.string a3_1):=(bc_ BK147.out 1).trans rfl;have hfz63_0:=bf_ BK147.out 0;have hfz63_1:=bf_ BK147.out 1)|(go_at_call 70;(with_reducible refine (spec_l01Has.calls kj32 _ _ ((rd_T56 l0_2 t154).f2) a3_0 t156 _ ?side1 ?side2 A60.out).mono ?_);(case side1=>repeat (first|exact (cb_ HR155_2.out (by repeat (first|(with_reducible first|exact HB.out|apply ba_|apply pd_|apply b1_|refine bs_ ?_ GE146.out|refine bs_ ?_ GE147.out)|exact HB.out)))|(with_reducible refine ca_ ?_ _)|(with_reducible refine cn_ ?_ _)|(with_reducible refine cd_ ?_)));(case side2=>exact HC155_2.out);rintro e w' ⟨rfl,⟨nd,rfl⟩⟩;(try first|exact ⟨rfl,_,ww_ _ _ _⟩|exact ⟨rfl,_,Eq.trans (ww_ _ _ _) (congrArg (World.drewN _) (Nat.add_assoc _ _ _))⟩)));try go_wp2_with (first|(go_at_call 77;(with_reducible refine (spec_l07At.calls kj32 _ _ l0_2 a1 a2 t154 _ ?side1 ?side2 A56.out).mono ?_);(case side1=>repeat (first|exact (cb_ HR0_2.out HB.out)|(with_reducible refine ca_ ?_ _)|(with_reducible refine cn_ ?_ _)|(with_reducible refine cd_ ?_)));(case side2=>exact HC0_2.out);rintro e w' ⟨rfl,⟨nd,rfl⟩⟩;(try first|exact ⟨rfl,_,ww_ _ _ _⟩|exact ⟨rfl,_,Eq.trans (ww_ _ _ _) (congrArg (World.drewN _) (Nat.add_assoc _ _ _))⟩);have p155:0≤(t154:Int):=od_ (by first|(with_reducible assumption)|assumption);have q155:t154<(l0_2.length:Int):=od_ (by first|(with_reducible assumption)|assumption);obtain ⟨ad155,A155_2,c155_2,e155,hx155_0,hx155_1,hx155_2,hl155_2,hi155_2⟩:=at_T56 HR0_2.out t154 p155 q155;cases e155;replace hx155_0:=(HB.out.cell (bl_ w _ hx155_0)).trans hx155_0;replace hx155_1:=(HB.out.cell (bl_ w _ hx155_1)).trans hx155_1;replace hx155_2:=(HB.out.cell (bl_ w _ hx155_2)).trans hx155_2;have HR155_2:=A_ hi155_2;have HC155_2:=A_ hl155_2;clear hi155_2 hl155_2;replace p155:=eq_true p155;replace q155:=eq_true q155;have hcz63_0:wc.cell? ⟨gb147,0,none⟩=some (.string a3_0):=(bc_ BK147.out 0).trans rfl;have hcz63_1:wc.cell? ⟨gb147,1,none⟩=some (.string a3_1):=(bc_ BK147.out 1).trans rfl;have hfz63_0:=bf_ BK147.out 0;have hfz63_1:=bf_ BK147.out 1)|(go_at_call 70;(with_reducible refine (spec_l01Has.calls kj32 _ _ ((rd_T56 l0_2 t154).f2) a3_0 t156 _ ?side1 ?side2 A60.out).mono ?_);(case side1=>repeat (first|exact (cb_ HR155_2.out (by repeat (first|(with_reducible first|exact HB.out|apply ba_|apply pd_|apply b1_|refine bs_ ?_ GE146.out|refine bs_ ?_ GE147.out)|exact HB.out)))|(with_reducible refine ca_ ?_ _)|(with_reducible refine cn_ ?_ _)|(with_reducible refine cd_ ?_)));(case side2=>exact HC155_2.out);rintro e w' ⟨rfl,⟨nd,rfl⟩⟩;(try first|exact ⟨rfl,_,ww_ _ _ _⟩|exact ⟨rfl,_,Eq.trans (ww_ _ _ _) (congrArg (World.drewN _) (Nat.add_assoc _ _ _))⟩))))
          go_ret
          exact ⟨by first|rfl|(simp [errW_none,errW_some] <;> rfl)|(simp [*,errW_none,errW_some] <;> rfl),by repeat (first|(with_reducible first|exact HB.out|apply ba_|apply pd_|apply b1_|refine bs_ ?_ GE146.out|refine bs_ ?_ GE147.out)|exact HB.out)⟩
         ·rw [if_neg c59] at H
          exact absurd H (by simp)
        ·rw [if_neg c58] at H
         exact absurd H (by simp)
       ·rw [if_neg c57] at H
        have c57b0:decide (0≤t154)=false:=df_ c57
        clear c57
        obtain rfl:=oi_ H
        have hnb64:=NB146_147.out
        have hnc64:=NB147_146.out
        have hcz65_0:wc.cell? ⟨gb146,0,none⟩=some (.bool a0_0):=(bc_ BK146.out 0).trans rfl
        have hcz65_1:wc.cell? ⟨gb146,1,none⟩=some (.bool a0_1):=(bc_ BK146.out 1).trans rfl
        have hcz65_2:wc.cell? ⟨gb146,2,none⟩=some (.slice A0_2 l0_2.length c0_2):=(bc_ BK146.out 2).trans rfl
        have hcz65_3:wc.cell? ⟨gb146,3,none⟩=some (.slice A0_3 l0_3.length c0_3):=(bc_ BK146.out 3).trans rfl
        have hcz65_4:wc.cell? ⟨gb146,4,none⟩=some (.slice A0_4 l0_4.length c0_4):=(bc_ BK146.out 4).trans rfl
        have hcz65_5:wc.cell? ⟨gb146,5,none⟩=some (.slice A0_5 l0_5.length c0_5):=(bc_ BK146.out 5).trans rfl
        have hcz65_6:wc.cell? ⟨gb146,6,none⟩=some (.slice A0_6 l0_6.length c0_6):=(bc_ BK146.out 6).trans rfl
        have hcz65_7:wc.cell? ⟨gb146,7,none⟩=some (.bool a0_7):=(bc_ BK146.out 7).trans rfl
        have hcz65_8:wc.cell? ⟨gb146,8,none⟩=some (.bool a0_8):=(bc_ BK146.out 8).trans rfl
        have hfz65_0:=bf_ BK146.out 0
        have hfz65_1:=bf_ BK146.out 1
        have hfz65_2:=bf_ BK146.out 2
        have hfz65_3:=bf_ BK146.out 3
        have hfz65_4:=bf_ BK146.out 4
        have hfz65_5:=bf_ BK146.out 5
        have hfz65_6:=bf_ BK146.out 6
        have hfz65_7:=bf_ BK146.out 7
        have hfz65_8:=bf_ BK146.out 8
        go_wp2_with (first|(go_at_call 77;(with_reducible refine (spec_l07At.calls kj32 _ _ l0_2 a1 a2 t154 _ ?side1 ?side2 A56.out).mono ?_);(case side1=>repeat (first|exact (cb_ HR0_2.out HB.out)|(with_reducible refine ca_ ?_ _)|(with_reducible refine cn_ ?_ _)|(with_reducible refine cd_ ?_)));(case side2=>exact HC0_2.out);rintro e w' ⟨rfl,⟨nd,rfl⟩⟩;(try first|exact ⟨rfl,_,ww_ _ _ _⟩|exact ⟨rfl,_,Eq.trans (ww_ _ _ _) (congrArg (World.drewN _) (Nat.add_assoc _ _ _))⟩)))
        repeat (go_quiet (first|(go_at_call 77;(with_reducible refine (spec_l07At.calls kj32 _ _ l0_2 a1 a2 t154 _ ?side1 ?side2 A56.out).mono ?_);(case side1=>repeat (first|exact (cb_ HR0_2.out HB.out)|(with_reducible refine ca_ ?_ _)|(with_reducible refine cn_ ?_ _)|(with_reducible refine cd_ ?_)));(case side2=>exact HC0_2.out);rintro e w' ⟨rfl,⟨nd,rfl⟩⟩;(try first|exact ⟨rfl,_,ww_ _ _ _⟩|exact ⟨rfl,_,Eq.trans (ww_ _ _ _) (congrArg (World.drewN _) (Nat.add_assoc _ _ _))⟩)));try go_wp2_with (first|(go_at_call 77;(with_reducible refine (spec_l07At.calls kj32 _ _ l0_2 a1 a2 t154 _ ?side1 ?side2 A56.out).mono ?_);(case side1=>repeat (first|exact (cb_ HR0_2.out HB.out)|(with_reducible refine ca_ ?_ _)|(with_reducible refine cn_ ?_ _)|(with_reducible refine cd_ ?_)));(case side2=>exact HC0_2.out);rintro e w' ⟨rfl,⟨nd,rfl⟩⟩;(try first|exact ⟨rfl,_,ww_ _ _ _⟩|exact ⟨rfl,_,Eq.trans (ww_ _ _ _) (congrArg (World.drewN _) (Nat.add_assoc _ _ _))⟩))))
        go_ret
        exact ⟨by first|rfl|(simp [errW_none,errW_some] <;> rfl)|(simp [*,errW_none,errW_some] <;> rfl),by repeat (first|(with_reducible first|exact HB.out|apply ba_|apply pd_|apply b1_|refine bs_ ?_ GE146.out|refine bs_ ?_ GE147.out)|exact HB.out)⟩
end Go.Proofs.Ytmeafbneklphnaa.PFnExactAllowsAttr
