/- By a program of this session, out of the kit's print and contracts made by hand: the machine side of a law; Lean checks it. No conditions. -/
import Derived.Test.YtmeafbneklphnaaPFnExactAllowsAttrx0
import Derived.Test.YtmeafbneklphnaaPFnExactAllowsAttrx5
import Derived.Test.YtmeafbneklphnaaPFnExactAllowsAttrx7
import Derived.Test.YtmeafbneklphnaaPFnExactAllowsAttrx15
import Derived.Test.YtmeafbneklphnaaPFnExactAllowsAttrx16
namespace Go.Proofs.Ytmeafbneklphnaa.PFnExactAllowsAttr
open Go.RowKit Go.Proofs.YtmeafbneklphnaaW.PrintWords Go.Proofs.YtmeafbneklphnaaW.PrintLast Go.Proofs.YtmeafbneklphnaaW.PrintMore
attribute [local go_sem] max2_int min2_int max_two min_two max_three min_three max_four min_four
set_option linter.unusedVariables false
set_option linter.unusedSimpArgs false
/-! ### impl_Config_keeps: function 52 -/
mutual
def impl_Config_keeps.j0:Nat→Int→ByteArray→Bool→Bool→Bool→List (S56)→List (S56)→List (S56)→List ByteArray→List ByteArray→Bool→Bool→ByteArray→ByteArray→Option (Bool)
 | 0,_,_,_,_,_,_,_,_,_,_,_,_,_,_=>none
 | k+1,x1,x2,x18,x259000,x259001,x259002,x259003,x259004,x259005,x259006,x259007,x259008,x260000,x260001=>if x18=true then (some false) else (if x259001=true then ((slices_Contains_string_string.f k x259005 x260000).bind fun t262=>(impl_Config_keeps.j1 k x1 x2 t262 x259000 x259001 x259002 x259003 x259004 x259005 x259006 x259007 x259008 x260000 x260001)) else (impl_Config_keeps.j1 k x1 x2 true x259000 x259001 x259002 x259003 x259004 x259005 x259006 x259007 x259008 x260000 x260001))
def impl_Config_keeps.j1:Nat→Int→ByteArray→Bool→Bool→Bool→List (S56)→List (S56)→List (S56)→List ByteArray→List ByteArray→Bool→Bool→ByteArray→ByteArray→Option (Bool)
 | 0,_,_,_,_,_,_,_,_,_,_,_,_,_,_=>none
 | k+1,x1,x2,x28,x259000,x259001,x259002,x259003,x259004,x259005,x259006,x259007,x259008,x260000,x260001=>if x28=true then (some true) else (if x259008=true then ((strings_HasPrefix.f x260000 (⟨#[100,97,116,97,45]⟩:ByteArray)).bind fun t263=>(if t263=true then (impl_Config_keeps.j2 k x1 x2 (decide ((x260000.size:Int)>5)) x259000 x259001 x259002 x259003 x259004 x259005 x259006 x259007 x259008 x260000 x260001) else (impl_Config_keeps.j2 k x1 x2 false x259000 x259001 x259002 x259003 x259004 x259005 x259006 x259007 x259008 x260000 x260001))) else (impl_Config_keeps.j2 k x1 x2 false x259000 x259001 x259002 x259003 x259004 x259005 x259006 x259007 x259008 x260000 x260001))
def impl_Config_keeps.j2:Nat→Int→ByteArray→Bool→Bool→Bool→List (S56)→List (S56)→List (S56)→List ByteArray→List ByteArray→Bool→Bool→ByteArray→ByteArray→Option (Bool)
 | 0,_,_,_,_,_,_,_,_,_,_,_,_,_,_=>none
 | k+1,x1,x2,x41,x259000,x259001,x259002,x259003,x259004,x259005,x259006,x259007,x259008,x260000,x260001=>if x41=true then (some true) else ((impl_ruleAt.f x259002 x1 x2).bind fun t264=>(if t264≥0 then (if 0≤t264 then (if t264<(x259002.length:Int) then ((slices_Contains_string_string.f k ((rd_T56 x259002 t264).f2) x260000).bind fun t266=>(some t266)) else (none)) else (none)) else (some false)))
end
def impl_Config_keeps.f (k:Nat) (a0_0:Bool) (a0_1:Bool) (l0_2:List (S56)) (l0_3:List (S56)) (l0_4:List (S56)) (l0_5:List ByteArray) (l0_6:List ByteArray) (a0_7:Bool) (a0_8:Bool) (a1:Int) (a2:ByteArray) (a3_0:ByteArray) (a3_1:ByteArray):Option (Bool):=(impl_Attr_isHarm.f k a3_0 a3_1).bind fun t260=>(if t260=true then (impl_Config_keeps.j0 k a1 a2 true a0_0 a0_1 l0_2 l0_3 l0_4 l0_5 l0_6 a0_7 a0_8 a3_0 a3_1) else ((slices_Contains_string_string.f k l0_6 a3_0).bind fun t261=>(impl_Config_keeps.j0 k a1 a2 t261 a0_0 a0_1 l0_2 l0_3 l0_4 l0_5 l0_6 a0_7 a0_8 a3_0 a3_1)))
theorem impl_Config_keeps.mono_l:∀ k,(∀ y0 y1 y2 y3 y4 y5 y6 y7 y8 y9 y10 y11 y12 y13,LeO (impl_Config_keeps.j0 k y0 y1 y2 y3 y4 y5 y6 y7 y8 y9 y10 y11 y12 y13) (impl_Config_keeps.j0 (k+1) y0 y1 y2 y3 y4 y5 y6 y7 y8 y9 y10 y11 y12 y13))∧(∀ y0 y1 y2 y3 y4 y5 y6 y7 y8 y9 y10 y11 y12 y13,LeO (impl_Config_keeps.j1 k y0 y1 y2 y3 y4 y5 y6 y7 y8 y9 y10 y11 y12 y13) (impl_Config_keeps.j1 (k+1) y0 y1 y2 y3 y4 y5 y6 y7 y8 y9 y10 y11 y12 y13))∧(∀ y0 y1 y2 y3 y4 y5 y6 y7 y8 y9 y10 y11 y12 y13,LeO (impl_Config_keeps.j2 k y0 y1 y2 y3 y4 y5 y6 y7 y8 y9 y10 y11 y12 y13) (impl_Config_keeps.j2 (k+1) y0 y1 y2 y3 y4 y5 y6 y7 y8 y9 y10 y11 y12 y13))
 | 0=>⟨fun _ _ _ _ _ _ _ _ _ _ _ _ _ _ r h=>by simp [impl_Config_keeps.j0] at h,fun _ _ _ _ _ _ _ _ _ _ _ _ _ _ r h=>by simp [impl_Config_keeps.j1] at h,fun _ _ _ _ _ _ _ _ _ _ _ _ _ _ r h=>by simp [impl_Config_keeps.j2] at h⟩
 | k+1=>by
  obtain ⟨ih0,ih1,ih2⟩:=impl_Config_keeps.mono_l k
  refine ⟨?_,?_,?_⟩
  ·intro y0 y1 y2 y3 y4 y5 y6 y7 y8 y9 y10 y11 y12 y13
   unfold impl_Config_keeps.j0
   repeat' first
   | (with_reducible exact ih0 _ _ _ _ _ _ _ _ _ _ _ _ _ _)
   | (with_reducible exact ih1 _ _ _ _ _ _ _ _ _ _ _ _ _ _)
   | (with_reducible exact ih2 _ _ _ _ _ _ _ _ _ _ _ _ _ _)
   | (with_reducible exact impl_Attr_isHarm.mono _ _ _)
   | (with_reducible exact slices_Contains_string_string.mono _ _ _)
   | (with_reducible exact LeO.refl _)
   | (with_reducible exact LeO.none _)
   | (with_reducible refine LeO.ite ?_ ?_)
   | (with_reducible refine LeO.bind ?_ (fun _=>?_))
   | exact ih0 _ _ _ _ _ _ _ _ _ _ _ _ _ _
   | exact ih1 _ _ _ _ _ _ _ _ _ _ _ _ _ _
   | exact ih2 _ _ _ _ _ _ _ _ _ _ _ _ _ _
   | exact impl_Attr_isHarm.mono _ _ _
   | exact slices_Contains_string_string.mono _ _ _
   | exact LeO.none _
   | refine LeO.ite ?_ ?_
   | refine LeO.bind ?_ (fun _=>?_)
  ·intro y0 y1 y2 y3 y4 y5 y6 y7 y8 y9 y10 y11 y12 y13
   unfold impl_Config_keeps.j1
   repeat' first
   | (with_reducible exact ih0 _ _ _ _ _ _ _ _ _ _ _ _ _ _)
   | (with_reducible exact ih1 _ _ _ _ _ _ _ _ _ _ _ _ _ _)
   | (with_reducible exact ih2 _ _ _ _ _ _ _ _ _ _ _ _ _ _)
   | (with_reducible exact impl_Attr_isHarm.mono _ _ _)
   | (with_reducible exact slices_Contains_string_string.mono _ _ _)
   | (with_reducible exact LeO.refl _)
   | (with_reducible exact LeO.none _)
   | (with_reducible refine LeO.ite ?_ ?_)
   | (with_reducible refine LeO.bind ?_ (fun _=>?_))
   | exact ih0 _ _ _ _ _ _ _ _ _ _ _ _ _ _
   | exact ih1 _ _ _ _ _ _ _ _ _ _ _ _ _ _
   | exact ih2 _ _ _ _ _ _ _ _ _ _ _ _ _ _
   | exact impl_Attr_isHarm.mono _ _ _
   | exact slices_Contains_string_string.mono _ _ _
   | exact LeO.none _
   | refine LeO.ite ?_ ?_
   | refine LeO.bind ?_ (fun _=>?_)
  ·intro y0 y1 y2 y3 y4 y5 y6 y7 y8 y9 y10 y11 y12 y13
   unfold impl_Config_keeps.j2
   repeat' first
   | (with_reducible exact ih0 _ _ _ _ _ _ _ _ _ _ _ _ _ _)
   | (with_reducible exact ih1 _ _ _ _ _ _ _ _ _ _ _ _ _ _)
   | (with_reducible exact ih2 _ _ _ _ _ _ _ _ _ _ _ _ _ _)
   | (with_reducible exact impl_Attr_isHarm.mono _ _ _)
   | (with_reducible exact slices_Contains_string_string.mono _ _ _)
   | (with_reducible exact LeO.refl _)
   | (with_reducible exact LeO.none _)
   | (with_reducible refine LeO.ite ?_ ?_)
   | (with_reducible refine LeO.bind ?_ (fun _=>?_))
   | exact ih0 _ _ _ _ _ _ _ _ _ _ _ _ _ _
   | exact ih1 _ _ _ _ _ _ _ _ _ _ _ _ _ _
   | exact ih2 _ _ _ _ _ _ _ _ _ _ _ _ _ _
   | exact impl_Attr_isHarm.mono _ _ _
   | exact slices_Contains_string_string.mono _ _ _
   | exact LeO.none _
   | refine LeO.ite ?_ ?_
   | refine LeO.bind ?_ (fun _=>?_)
theorem impl_Config_keeps.mono:∀ a0 a1 a2 a3 a4 a5 a6 a7 a8 a9 a10 a11 a12 k,LeO (impl_Config_keeps.f k a0 a1 a2 a3 a4 a5 a6 a7 a8 a9 a10 a11 a12) (impl_Config_keeps.f (k+1) a0 a1 a2 a3 a4 a5 a6 a7 a8 a9 a10 a11 a12):=by
 intro a0 a1 a2 a3 a4 a5 a6 a7 a8 a9 a10 a11 a12 k
 obtain ⟨ih0,ih1,ih2⟩:=impl_Config_keeps.mono_l k
 unfold impl_Config_keeps.f
 repeat' first
  | (with_reducible exact ih0 _ _ _ _ _ _ _ _ _ _ _ _ _ _)
  | (with_reducible exact ih1 _ _ _ _ _ _ _ _ _ _ _ _ _ _)
  | (with_reducible exact ih2 _ _ _ _ _ _ _ _ _ _ _ _ _ _)
  | (with_reducible exact impl_Attr_isHarm.mono _ _ _)
  | (with_reducible exact slices_Contains_string_string.mono _ _ _)
  | (with_reducible exact LeO.refl _)
  | (with_reducible exact LeO.none _)
  | (with_reducible refine LeO.ite ?_ ?_)
  | (with_reducible refine LeO.bind ?_ (fun _=>?_))
  | exact ih0 _ _ _ _ _ _ _ _ _ _ _ _ _ _
  | exact ih1 _ _ _ _ _ _ _ _ _ _ _ _ _ _
  | exact ih2 _ _ _ _ _ _ _ _ _ _ _ _ _ _
  | exact impl_Attr_isHarm.mono _ _ _
  | exact slices_Contains_string_string.mono _ _ _
  | exact LeO.none _
  | refine LeO.ite ?_ ?_
  | refine LeO.bind ?_ (fun _=>?_)
set_option maxHeartbeats 8000000 in
set_option maxRecDepth 100000 in
theorem impl_Config_keeps.calls (k:Nat) (a0_0:Bool) (a0_1:Bool) (A0_2:Option Addr) (c0_2:Nat) (l0_2:List (S56)) (A0_3:Option Addr) (c0_3:Nat) (l0_3:List (S56)) (A0_4:Option Addr) (c0_4:Nat) (l0_4:List (S56)) (A0_5:Option Addr) (c0_5:Nat) (l0_5:List ByteArray) (A0_6:Option Addr) (c0_6:Nat) (l0_6:List ByteArray) (a0_7:Bool) (a0_8:Bool) (a1:Int) (a2:ByteArray) (a3_0:ByteArray) (a3_1:ByteArray) (r:Bool) (w:World) (hr0_2:Kd.C k56 w A0_2 l0_2.length l0_2) (hc0_2:l0_2.length≤c0_2) (hr0_3:Kd.C k56 w A0_3 l0_3.length l0_3) (hc0_3:l0_3.length≤c0_3) (hr0_4:Kd.C k56 w A0_4 l0_4.length l0_4) (hc0_4:l0_4.length≤c0_4) (hr0_5:Kd.C Kd.string w A0_5 l0_5.length l0_5) (hc0_5:l0_5.length≤c0_5) (hr0_6:Kd.C Kd.string w A0_6 l0_6.length l0_6) (hc0_6:l0_6.length≤c0_6) (h:impl_Config_keeps.f k a0_0 a0_1 l0_2 l0_3 l0_4 l0_5 l0_6 a0_7 a0_8 a1 a2 a3_0 a3_1=some r) :
 Calls Try.prog 52 #[.agg #[.bool a0_0,.bool a0_1,.slice A0_2 l0_2.length c0_2,.slice A0_3 l0_3.length c0_3,.slice A0_4 l0_4.length c0_4,.slice A0_5 l0_5.length c0_5,.slice A0_6 l0_6.length c0_6,.bool a0_7,.bool a0_8],.int .i64 a1,.string a2,.agg #[.string a3_0,.string a3_1]] w fun e w'=>e=.returned (.bool r)∧Below w.heap.size w w':=by
 have hu25:=Try.underlying25
 have hu51:=Try.underlying51
 have HR0_2:=A_ hr0_2
 have HC0_2:=A_ hc0_2
 clear hr0_2 hc0_2
 have HR0_3:=A_ hr0_3
 have HC0_3:=A_ hc0_3
 clear hr0_3 hc0_3
 have HR0_4:=A_ hr0_4
 have HC0_4:=A_ hc0_4
 clear hr0_4 hc0_4
 have HR0_5:=A_ hr0_5
 have HC0_5:=A_ hc0_5
 clear hr0_5 hc0_5
 have HR0_6:=A_ hr0_6
 have HC0_6:=A_ hc0_6
 clear hr0_6 hc0_6
 have HB:=A_ (Below.refl w.heap.size w)
 have H:((impl_Attr_isHarm.f k a3_0 a3_1).bind fun t260=>(if t260=true then (impl_Config_keeps.j0 k a1 a2 true a0_0 a0_1 l0_2 l0_3 l0_4 l0_5 l0_6 a0_7 a0_8 a3_0 a3_1) else ((slices_Contains_string_string.f k l0_6 a3_0).bind fun t261=>(impl_Config_keeps.j0 k a1 a2 t261 a0_0 a0_1 l0_2 l0_3 l0_4 l0_5 l0_6 a0_7 a0_8 a3_0 a3_1))))=some r:=h
 clear h
 have HC5:=A_ H
 clear H
 go_enter Try.func52,Try.ntmps52
 go_upto_region 1 with (first|((with_reducible refine gate_dst (N:=4) rfl ?_);(try (refine gate_guard (by rfl) ?_;dsimp only));refine box_event ?hg (N:=4) ?hd (cs:=#[.bool a0_0,.bool a0_1,.slice A0_2 l0_2.length c0_2,.slice A0_3 l0_3.length c0_3,.slice A0_4 l0_4.length c0_4,.slice A0_5 l0_5.length c0_5,.slice A0_6 l0_6.length c0_6,.bool a0_7,.bool a0_8]) (t:=25) ?hr ?_;(case hd=>rfl);(case hg=>rfl);(case hr=>first|(go_simp;done)|(go_simp;rfl));intro gb258 hg w6 hbox hb;have n0_:=A_ (bp_ (by repeat (first|(with_reducible first|exact HB.out|apply ba_|apply pd_|apply b1_)|exact HB.out)) hb);have n1_:=A_ (hbox);have n2_:=A_ ((by rw [hg];exact (bz_ (by repeat (first|(with_reducible first|exact HB.out|apply ba_|apply pd_|apply b1_)|exact HB.out))):w.heap.size≤gb258));have n3_:=A_ ((by rw [hg];exact (bz_ (by repeat (first|(with_reducible first|exact HB.out|apply ba_|apply pd_|apply b1_)|exact HB.out))):w.heap.size≤gb258));clear HB;have HB:=n0_;have BK258:=n1_;have GW258:=n2_;have GE258:=n3_;clear n0_ n1_ n2_ n3_;clear hb hbox hg)|((with_reducible refine gate_dst (N:=7) rfl ?_);(try (refine gate_guard (by rfl) ?_;dsimp only));refine box_event ?hg (N:=7) ?hd (cs:=#[.string a3_0,.string a3_1]) (t:=51) ?hr ?_;(case hd=>rfl);(case hg=>rfl);(case hr=>first|(go_simp;done)|(go_simp;rfl));intro gb259 hg w7 hbox hb;have n0_:=A_ (kb_ (g:=gb258) (o:=.cells #[.bool a0_0,.bool a0_1,.slice A0_2 l0_2.length c0_2,.slice A0_3 l0_3.length c0_3,.slice A0_4 l0_4.length c0_4,.slice A0_5 l0_5.length c0_5,.slice A0_6 l0_6.length c0_6,.bool a0_7,.bool a0_8] 25 (0,0)) (by (with_reducible repeat (first|refine kn_ ?_ _|refine kd_ ?_|refine ka_ ?_ _));exact BK258.out) hb);have n1_:=A_ (bp_ (by repeat (first|(with_reducible first|exact HB.out|apply ba_|apply pd_|apply b1_|refine bs_ ?_ GE258.out)|exact HB.out)) hb);have n2_:=A_ (hbox);have n3_:=A_ ((by rw [hg];exact (bz_ (by repeat (first|(with_reducible first|exact HB.out|apply ba_|apply pd_|apply b1_|refine bs_ ?_ GE258.out)|exact HB.out))):w.heap.size≤gb259));have n4_:=A_ ((by rw [hg];exact (bz_ (by repeat (first|(with_reducible first|exact HB.out|apply ba_|apply pd_|apply b1_|refine bs_ ?_ GE258.out)|exact HB.out))):w.heap.size≤gb259));have n5_:=A_ ((by rw [hg];exact Nat.ne_of_lt (blk_lt (g:=gb258) (o:=.cells #[.bool a0_0,.bool a0_1,.slice A0_2 l0_2.length c0_2,.slice A0_3 l0_3.length c0_3,.slice A0_4 l0_4.length c0_4,.slice A0_5 l0_5.length c0_5,.slice A0_6 l0_6.length c0_6,.bool a0_7,.bool a0_8] 25 (0,0)) (by (with_reducible repeat (first|refine kn_ ?_ _|refine kd_ ?_|refine ka_ ?_ _));exact BK258.out)):gb258≠gb259));have n6_:=A_ ((by rw [hg];exact Nat.ne_of_gt (blk_lt (g:=gb258) (o:=.cells #[.bool a0_0,.bool a0_1,.slice A0_2 l0_2.length c0_2,.slice A0_3 l0_3.length c0_3,.slice A0_4 l0_4.length c0_4,.slice A0_5 l0_5.length c0_5,.slice A0_6 l0_6.length c0_6,.bool a0_7,.bool a0_8] 25 (0,0)) (by (with_reducible repeat (first|refine kn_ ?_ _|refine kd_ ?_|refine ka_ ?_ _));exact BK258.out)):gb259≠gb258));clear BK258;clear HB;have BK258:=n0_;have HB:=n1_;have BK259:=n2_;have GW259:=n3_;have GE259:=n4_;have NB258_259:=n5_;have NB259_258:=n6_;clear n0_ n1_ n2_ n3_ n4_ n5_ n6_;clear hb hbox hg))
 repeat (go_quiet (first|((with_reducible refine gate_dst (N:=4) rfl ?_);(try (refine gate_guard (by rfl) ?_;dsimp only));refine box_event ?hg (N:=4) ?hd (cs:=#[.bool a0_0,.bool a0_1,.slice A0_2 l0_2.length c0_2,.slice A0_3 l0_3.length c0_3,.slice A0_4 l0_4.length c0_4,.slice A0_5 l0_5.length c0_5,.slice A0_6 l0_6.length c0_6,.bool a0_7,.bool a0_8]) (t:=25) ?hr ?_;(case hd=>rfl);(case hg=>rfl);(case hr=>first|(go_simp;done)|(go_simp;rfl));intro gb258 hg w6 hbox hb;have n0_:=A_ (bp_ (by repeat (first|(with_reducible first|exact HB.out|apply ba_|apply pd_|apply b1_)|exact HB.out)) hb);have n1_:=A_ (hbox);have n2_:=A_ ((by rw [hg];exact (bz_ (by repeat (first|(with_reducible first|exact HB.out|apply ba_|apply pd_|apply b1_)|exact HB.out))):w.heap.size≤gb258));have n3_:=A_ ((by rw [hg];exact (bz_ (by repeat (first|(with_reducible first|exact HB.out|apply ba_|apply pd_|apply b1_)|exact HB.out))):w.heap.size≤gb258));clear HB;have HB:=n0_;have BK258:=n1_;have GW258:=n2_;have GE258:=n3_;clear n0_ n1_ n2_ n3_;clear hb hbox hg)|((with_reducible refine gate_dst (N:=7) rfl ?_);(try (refine gate_guard (by rfl) ?_;dsimp only));refine box_event ?hg (N:=7) ?hd (cs:=#[.string a3_0,.string a3_1]) (t:=51) ?hr ?_;(case hd=>rfl);(case hg=>rfl);(case hr=>first|(go_simp;done)|(go_simp;rfl));intro gb259 hg w7 hbox hb;have n0_:=A_ (kb_ (g:=gb258) (o:=.cells #[.bool a0_0,.bool a0_1,.slice A0_2 l0_2.length c0_2,.slice A0_3 l0_3.length c0_3,.slice A0_4 l0_4.length c0_4,.slice A0_5 l0_5.length c0_5,.slice A0_6 l0_6.length c0_6,.bool a0_7,.bool a0_8] 25 (0,0)) (by (with_reducible repeat (first|refine kn_ ?_ _|refine kd_ ?_|refine ka_ ?_ _));exact BK258.out) hb);have n1_:=A_ (bp_ (by repeat (first|(with_reducible first|exact HB.out|apply ba_|apply pd_|apply b1_|refine bs_ ?_ GE258.out)|exact HB.out)) hb);have n2_:=A_ (hbox);have n3_:=A_ ((by rw [hg];exact (bz_ (by repeat (first|(with_reducible first|exact HB.out|apply ba_|apply pd_|apply b1_|refine bs_ ?_ GE258.out)|exact HB.out))):w.heap.size≤gb259));have n4_:=A_ ((by rw [hg];exact (bz_ (by repeat (first|(with_reducible first|exact HB.out|apply ba_|apply pd_|apply b1_|refine bs_ ?_ GE258.out)|exact HB.out))):w.heap.size≤gb259));have n5_:=A_ ((by rw [hg];exact Nat.ne_of_lt (blk_lt (g:=gb258) (o:=.cells #[.bool a0_0,.bool a0_1,.slice A0_2 l0_2.length c0_2,.slice A0_3 l0_3.length c0_3,.slice A0_4 l0_4.length c0_4,.slice A0_5 l0_5.length c0_5,.slice A0_6 l0_6.length c0_6,.bool a0_7,.bool a0_8] 25 (0,0)) (by (with_reducible repeat (first|refine kn_ ?_ _|refine kd_ ?_|refine ka_ ?_ _));exact BK258.out)):gb258≠gb259));have n6_:=A_ ((by rw [hg];exact Nat.ne_of_gt (blk_lt (g:=gb258) (o:=.cells #[.bool a0_0,.bool a0_1,.slice A0_2 l0_2.length c0_2,.slice A0_3 l0_3.length c0_3,.slice A0_4 l0_4.length c0_4,.slice A0_5 l0_5.length c0_5,.slice A0_6 l0_6.length c0_6,.bool a0_7,.bool a0_8] 25 (0,0)) (by (with_reducible repeat (first|refine kn_ ?_ _|refine kd_ ?_|refine ka_ ?_ _));exact BK258.out)):gb259≠gb258));clear BK258;clear HB;have BK258:=n0_;have HB:=n1_;have BK259:=n2_;have GW259:=n3_;have GE259:=n4_;have NB258_259:=n5_;have NB259_258:=n6_;clear n0_ n1_ n2_ n3_ n4_ n5_ n6_;clear hb hbox hg));go_upto_region 1 with (first|((with_reducible refine gate_dst (N:=4) rfl ?_);(try (refine gate_guard (by rfl) ?_;dsimp only));refine box_event ?hg (N:=4) ?hd (cs:=#[.bool a0_0,.bool a0_1,.slice A0_2 l0_2.length c0_2,.slice A0_3 l0_3.length c0_3,.slice A0_4 l0_4.length c0_4,.slice A0_5 l0_5.length c0_5,.slice A0_6 l0_6.length c0_6,.bool a0_7,.bool a0_8]) (t:=25) ?hr ?_;(case hd=>rfl);(case hg=>rfl);(case hr=>first|(go_simp;done)|(go_simp;rfl));intro gb258 hg w6 hbox hb;have n0_:=A_ (bp_ (by repeat (first|(with_reducible first|exact HB.out|apply ba_|apply pd_|apply b1_)|exact HB.out)) hb);have n1_:=A_ (hbox);have n2_:=A_ ((by rw [hg];exact (bz_ (by repeat (first|(with_reducible first|exact HB.out|apply ba_|apply pd_|apply b1_)|exact HB.out))):w.heap.size≤gb258));have n3_:=A_ ((by rw [hg];exact (bz_ (by repeat (first|(with_reducible first|exact HB.out|apply ba_|apply pd_|apply b1_)|exact HB.out))):w.heap.size≤gb258));clear HB;have HB:=n0_;have BK258:=n1_;have GW258:=n2_;have GE258:=n3_;clear n0_ n1_ n2_ n3_;clear hb hbox hg)|((with_reducible refine gate_dst (N:=7) rfl ?_);(try (refine gate_guard (by rfl) ?_;dsimp only));refine box_event ?hg (N:=7) ?hd (cs:=#[.string a3_0,.string a3_1]) (t:=51) ?hr ?_;(case hd=>rfl);(case hg=>rfl);(case hr=>first|(go_simp;done)|(go_simp;rfl));intro gb259 hg w7 hbox hb;have n0_:=A_ (kb_ (g:=gb258) (o:=.cells #[.bool a0_0,.bool a0_1,.slice A0_2 l0_2.length c0_2,.slice A0_3 l0_3.length c0_3,.slice A0_4 l0_4.length c0_4,.slice A0_5 l0_5.length c0_5,.slice A0_6 l0_6.length c0_6,.bool a0_7,.bool a0_8] 25 (0,0)) (by (with_reducible repeat (first|refine kn_ ?_ _|refine kd_ ?_|refine ka_ ?_ _));exact BK258.out) hb);have n1_:=A_ (bp_ (by repeat (first|(with_reducible first|exact HB.out|apply ba_|apply pd_|apply b1_|refine bs_ ?_ GE258.out)|exact HB.out)) hb);have n2_:=A_ (hbox);have n3_:=A_ ((by rw [hg];exact (bz_ (by repeat (first|(with_reducible first|exact HB.out|apply ba_|apply pd_|apply b1_|refine bs_ ?_ GE258.out)|exact HB.out))):w.heap.size≤gb259));have n4_:=A_ ((by rw [hg];exact (bz_ (by repeat (first|(with_reducible first|exact HB.out|apply ba_|apply pd_|apply b1_|refine bs_ ?_ GE258.out)|exact HB.out))):w.heap.size≤gb259));have n5_:=A_ ((by rw [hg];exact Nat.ne_of_lt (blk_lt (g:=gb258) (o:=.cells #[.bool a0_0,.bool a0_1,.slice A0_2 l0_2.length c0_2,.slice A0_3 l0_3.length c0_3,.slice A0_4 l0_4.length c0_4,.slice A0_5 l0_5.length c0_5,.slice A0_6 l0_6.length c0_6,.bool a0_7,.bool a0_8] 25 (0,0)) (by (with_reducible repeat (first|refine kn_ ?_ _|refine kd_ ?_|refine ka_ ?_ _));exact BK258.out)):gb258≠gb259));have n6_:=A_ ((by rw [hg];exact Nat.ne_of_gt (blk_lt (g:=gb258) (o:=.cells #[.bool a0_0,.bool a0_1,.slice A0_2 l0_2.length c0_2,.slice A0_3 l0_3.length c0_3,.slice A0_4 l0_4.length c0_4,.slice A0_5 l0_5.length c0_5,.slice A0_6 l0_6.length c0_6,.bool a0_7,.bool a0_8] 25 (0,0)) (by (with_reducible repeat (first|refine kn_ ?_ _|refine kd_ ?_|refine ka_ ?_ _));exact BK258.out)):gb259≠gb258));clear BK258;clear HB;have BK258:=n0_;have HB:=n1_;have BK259:=n2_;have GW259:=n3_;have GE259:=n4_;have NB258_259:=n5_;have NB259_258:=n6_;clear n0_ n1_ n2_ n3_ n4_ n5_ n6_;clear hb hbox hg)))
 (try simp only [Act.put,ls_,lz_,lc_])
 go_cut [18] (fun v18 wc=>∃ (kq:Nat) (x18_4:Bool),v18=.bool x18_4∧Aside0 (impl_Config_keeps.j0 kq a1 a2 x18_4 a0_0 a0_1 l0_2 l0_3 l0_4 l0_5 l0_6 a0_7 a0_8 a3_0 a3_1=some r)∧Aside0 (kq≤k)∧Aside0 (wc.heap[gb258]? = some (.cells #[.bool a0_0,.bool a0_1,(.slice A0_2 l0_2.length c0_2),(.slice A0_3 l0_3.length c0_3),(.slice A0_4 l0_4.length c0_4),(.slice A0_5 l0_5.length c0_5),(.slice A0_6 l0_6.length c0_6),.bool a0_7,.bool a0_8] 25 (0,0)))∧Aside0 (wc.heap[gb259]? = some (.cells #[.string a3_0,.string a3_1] 51 (0,0)))∧Aside0 (Below w.heap.size w wc))
 case first =>
  have H:=HC5.out
  clear HC5
  replace H:=ob_ H
  obtain ⟨t260,A80,H⟩:=H
  replace H:(if t260=true then (impl_Config_keeps.j0 k a1 a2 true a0_0 a0_1 l0_2 l0_3 l0_4 l0_5 l0_6 a0_7 a0_8 a3_0 a3_1) else ((slices_Contains_string_string.f k l0_6 a3_0).bind fun t261=>(impl_Config_keeps.j0 k a1 a2 t261 a0_0 a0_1 l0_2 l0_3 l0_4 l0_5 l0_6 a0_7 a0_8 a3_0 a3_1)))=some r:=H
  have A8:=A_ A80
  clear A80
  by_cases c9:t260=true
  ·subst c9
   have H1:(impl_Config_keeps.j0 k a1 a2 true a0_0 a0_1 l0_2 l0_3 l0_4 l0_5 l0_6 a0_7 a0_8 a3_0 a3_1)=some r:=by rw [if_pos rfl] at H;exact H
   clear H
   have H:=H1
   clear H1
   have H':=A_ H
   clear H
   have hnb10:=NB259_258.out
   have hnc10:=NB258_259.out
   have hcz11_0:w7.cell? ⟨gb259,0,none⟩=some (.string a3_0):=(bc_ BK259.out 0).trans rfl
   have hcz11_1:w7.cell? ⟨gb259,1,none⟩=some (.string a3_1):=(bc_ BK259.out 1).trans rfl
   have hfz11_0:=bf_ BK259.out 0
   have hfz11_1:=bf_ BK259.out 1
   go_wp2_with (first|(go_at_call 80;(with_reducible refine (impl_Attr_isHarm.calls k a3_0 a3_1 true _ A8.out).mono ?_);rintro e w12 ⟨rfl,hb⟩;have n0_:=A_ (kb_ (g:=gb258) (o:=.cells #[.bool a0_0,.bool a0_1,.slice A0_2 l0_2.length c0_2,.slice A0_3 l0_3.length c0_3,.slice A0_4 l0_4.length c0_4,.slice A0_5 l0_5.length c0_5,.slice A0_6 l0_6.length c0_6,.bool a0_7,.bool a0_8] 25 (0,0)) (by (with_reducible repeat (first|refine kn_ ?_ _|refine kd_ ?_|refine ka_ ?_ _));exact BK258.out) hb);have n1_:=A_ (kb_ (g:=gb259) (o:=.cells #[.string a3_0,.string a3_1] 51 (0,0)) (by (with_reducible repeat (first|refine kn_ ?_ _|refine kd_ ?_|refine ka_ ?_ _));exact BK259.out) hb);have n2_:=A_ (bp_ (by repeat (first|(with_reducible first|exact HB.out|apply ba_|apply pd_|apply b1_|refine bs_ ?_ GE258.out|refine bs_ ?_ GE259.out)|exact HB.out)) hb);clear BK258;clear BK259;clear HB;have BK258:=n0_;have BK259:=n1_;have HB:=n2_;clear n0_ n1_ n2_;(try clear hb);(try clear hb2);(try clear hk);(try clear hi)))
   repeat (go_quiet (first|(go_at_call 80;(with_reducible refine (impl_Attr_isHarm.calls k a3_0 a3_1 true _ A8.out).mono ?_);rintro e w12 ⟨rfl,hb⟩;have n0_:=A_ (kb_ (g:=gb258) (o:=.cells #[.bool a0_0,.bool a0_1,.slice A0_2 l0_2.length c0_2,.slice A0_3 l0_3.length c0_3,.slice A0_4 l0_4.length c0_4,.slice A0_5 l0_5.length c0_5,.slice A0_6 l0_6.length c0_6,.bool a0_7,.bool a0_8] 25 (0,0)) (by (with_reducible repeat (first|refine kn_ ?_ _|refine kd_ ?_|refine ka_ ?_ _));exact BK258.out) hb);have n1_:=A_ (kb_ (g:=gb259) (o:=.cells #[.string a3_0,.string a3_1] 51 (0,0)) (by (with_reducible repeat (first|refine kn_ ?_ _|refine kd_ ?_|refine ka_ ?_ _));exact BK259.out) hb);have n2_:=A_ (bp_ (by repeat (first|(with_reducible first|exact HB.out|apply ba_|apply pd_|apply b1_|refine bs_ ?_ GE258.out|refine bs_ ?_ GE259.out)|exact HB.out)) hb);clear BK258;clear BK259;clear HB;have BK258:=n0_;have BK259:=n1_;have HB:=n2_;clear n0_ n1_ n2_;(try clear hb);(try clear hb2);(try clear hk);(try clear hi)));try go_wp2_with (first|(go_at_call 80;(with_reducible refine (impl_Attr_isHarm.calls k a3_0 a3_1 true _ A8.out).mono ?_);rintro e w12 ⟨rfl,hb⟩;have n0_:=A_ (kb_ (g:=gb258) (o:=.cells #[.bool a0_0,.bool a0_1,.slice A0_2 l0_2.length c0_2,.slice A0_3 l0_3.length c0_3,.slice A0_4 l0_4.length c0_4,.slice A0_5 l0_5.length c0_5,.slice A0_6 l0_6.length c0_6,.bool a0_7,.bool a0_8] 25 (0,0)) (by (with_reducible repeat (first|refine kn_ ?_ _|refine kd_ ?_|refine ka_ ?_ _));exact BK258.out) hb);have n1_:=A_ (kb_ (g:=gb259) (o:=.cells #[.string a3_0,.string a3_1] 51 (0,0)) (by (with_reducible repeat (first|refine kn_ ?_ _|refine kd_ ?_|refine ka_ ?_ _));exact BK259.out) hb);have n2_:=A_ (bp_ (by repeat (first|(with_reducible first|exact HB.out|apply ba_|apply pd_|apply b1_|refine bs_ ?_ GE258.out|refine bs_ ?_ GE259.out)|exact HB.out)) hb);clear BK258;clear BK259;clear HB;have BK258:=n0_;have BK259:=n1_;have HB:=n2_;clear n0_ n1_ n2_;(try clear hb);(try clear hb2);(try clear hk);(try clear hi))))
   go_meet
   case rel=>exact ⟨_,(true),(by first|rfl|(simp;done)|(simp [*];done)),H',⟨by first|omega|exact Nat.le_refl _⟩,⟨by (with_reducible repeat (first|refine kn_ ?_ _|refine kd_ ?_|refine ka_ ?_ _));exact BK258.out⟩,⟨by (with_reducible repeat (first|refine kn_ ?_ _|refine kd_ ?_|refine ka_ ?_ _));exact BK259.out⟩,⟨by repeat (first|(with_reducible first|exact HB.out|apply ba_|apply pd_|apply b1_|refine bs_ ?_ GE258.out|refine bs_ ?_ GE259.out)|exact HB.out)⟩⟩
  ·replace c9:=bm_ c9
   subst c9
   have H1:((slices_Contains_string_string.f k l0_6 a3_0).bind fun t261=>(impl_Config_keeps.j0 k a1 a2 t261 a0_0 a0_1 l0_2 l0_3 l0_4 l0_5 l0_6 a0_7 a0_8 a3_0 a3_1))=some r:=by rw [if_neg (show ¬ (false=true) by decide)] at H;exact H
   clear H
   have H:=H1
   clear H1
   replace H:=ob_ H
   obtain ⟨t261,A130,H⟩:=H
   replace H:(impl_Config_keeps.j0 k a1 a2 t261 a0_0 a0_1 l0_2 l0_3 l0_4 l0_5 l0_6 a0_7 a0_8 a3_0 a3_1)=some r:=H
   have A13:=A_ A130
   clear A130
   have H':=A_ H
   clear H
   have hnb14:=NB259_258.out
   have hnc14:=NB258_259.out
   have hcz15_0:w7.cell? ⟨gb259,0,none⟩=some (.string a3_0):=(bc_ BK259.out 0).trans rfl
   have hcz15_1:w7.cell? ⟨gb259,1,none⟩=some (.string a3_1):=(bc_ BK259.out 1).trans rfl
   have hfz15_0:=bf_ BK259.out 0
   have hfz15_1:=bf_ BK259.out 1
   go_wp2_with (first|(go_at_call 80;(with_reducible refine (impl_Attr_isHarm.calls k a3_0 a3_1 false _ A8.out).mono ?_);rintro e w16 ⟨rfl,hb⟩;have n0_:=A_ (kb_ (g:=gb258) (o:=.cells #[.bool a0_0,.bool a0_1,.slice A0_2 l0_2.length c0_2,.slice A0_3 l0_3.length c0_3,.slice A0_4 l0_4.length c0_4,.slice A0_5 l0_5.length c0_5,.slice A0_6 l0_6.length c0_6,.bool a0_7,.bool a0_8] 25 (0,0)) (by (with_reducible repeat (first|refine kn_ ?_ _|refine kd_ ?_|refine ka_ ?_ _));exact BK258.out) hb);have n1_:=A_ (kb_ (g:=gb259) (o:=.cells #[.string a3_0,.string a3_1] 51 (0,0)) (by (with_reducible repeat (first|refine kn_ ?_ _|refine kd_ ?_|refine ka_ ?_ _));exact BK259.out) hb);have n2_:=A_ (bp_ (by repeat (first|(with_reducible first|exact HB.out|apply ba_|apply pd_|apply b1_|refine bs_ ?_ GE258.out|refine bs_ ?_ GE259.out)|exact HB.out)) hb);clear BK258;clear BK259;clear HB;have BK258:=n0_;have BK259:=n1_;have HB:=n2_;clear n0_ n1_ n2_;(try clear hb);(try clear hb2);(try clear hk);(try clear hi);have hcz17_0:w16.cell? ⟨gb258,0,none⟩=some (.bool a0_0):=(bc_ BK258.out 0).trans rfl;have hcz17_1:w16.cell? ⟨gb258,1,none⟩=some (.bool a0_1):=(bc_ BK258.out 1).trans rfl;have hcz17_2:w16.cell? ⟨gb258,2,none⟩=some (.slice A0_2 l0_2.length c0_2):=(bc_ BK258.out 2).trans rfl;have hcz17_3:w16.cell? ⟨gb258,3,none⟩=some (.slice A0_3 l0_3.length c0_3):=(bc_ BK258.out 3).trans rfl;have hcz17_4:w16.cell? ⟨gb258,4,none⟩=some (.slice A0_4 l0_4.length c0_4):=(bc_ BK258.out 4).trans rfl;have hcz17_5:w16.cell? ⟨gb258,5,none⟩=some (.slice A0_5 l0_5.length c0_5):=(bc_ BK258.out 5).trans rfl;have hcz17_6:w16.cell? ⟨gb258,6,none⟩=some (.slice A0_6 l0_6.length c0_6):=(bc_ BK258.out 6).trans rfl;have hcz17_7:w16.cell? ⟨gb258,7,none⟩=some (.bool a0_7):=(bc_ BK258.out 7).trans rfl;have hcz17_8:w16.cell? ⟨gb258,8,none⟩=some (.bool a0_8):=(bc_ BK258.out 8).trans rfl;have hfz17_0:=bf_ BK258.out 0;have hfz17_1:=bf_ BK258.out 1;have hfz17_2:=bf_ BK258.out 2;have hfz17_3:=bf_ BK258.out 3;have hfz17_4:=bf_ BK258.out 4;have hfz17_5:=bf_ BK258.out 5;have hfz17_6:=bf_ BK258.out 6;have hfz17_7:=bf_ BK258.out 7;have hfz17_8:=bf_ BK258.out 8;have hcz18_0:w16.cell? ⟨gb259,0,none⟩=some (.string a3_0):=(bc_ BK259.out 0).trans rfl;have hcz18_1:w16.cell? ⟨gb259,1,none⟩=some (.string a3_1):=(bc_ BK259.out 1).trans rfl;have hfz18_0:=bf_ BK259.out 0;have hfz18_1:=bf_ BK259.out 1)|(go_at_call 67;(with_reducible refine (slices_Contains_string_string.calls k _ _ l0_6 a3_0 t261 _ ?side1 ?side2 A13.out).mono ?_);(case side1=>repeat (first|exact (cb_ HR0_6.out HB.out)|(with_reducible refine ca_ ?_ _)|(with_reducible refine cn_ ?_ _)|(with_reducible refine cd_ ?_)));(case side2=>exact HC0_6.out);rintro e w' ⟨rfl,⟨nd,rfl⟩⟩;(try first|exact ⟨rfl,_,ww_ _ _ _⟩|exact ⟨rfl,_,Eq.trans (ww_ _ _ _) (congrArg (World.drewN _) (Nat.add_assoc _ _ _))⟩)))
   repeat (go_quiet (first|(go_at_call 80;(with_reducible refine (impl_Attr_isHarm.calls k a3_0 a3_1 false _ A8.out).mono ?_);rintro e w16 ⟨rfl,hb⟩;have n0_:=A_ (kb_ (g:=gb258) (o:=.cells #[.bool a0_0,.bool a0_1,.slice A0_2 l0_2.length c0_2,.slice A0_3 l0_3.length c0_3,.slice A0_4 l0_4.length c0_4,.slice A0_5 l0_5.length c0_5,.slice A0_6 l0_6.length c0_6,.bool a0_7,.bool a0_8] 25 (0,0)) (by (with_reducible repeat (first|refine kn_ ?_ _|refine kd_ ?_|refine ka_ ?_ _));exact BK258.out) hb);have n1_:=A_ (kb_ (g:=gb259) (o:=.cells #[.string a3_0,.string a3_1] 51 (0,0)) (by (with_reducible repeat (first|refine kn_ ?_ _|refine kd_ ?_|refine ka_ ?_ _));exact BK259.out) hb);have n2_:=A_ (bp_ (by repeat (first|(with_reducible first|exact HB.out|apply ba_|apply pd_|apply b1_|refine bs_ ?_ GE258.out|refine bs_ ?_ GE259.out)|exact HB.out)) hb);clear BK258;clear BK259;clear HB;have BK258:=n0_;have BK259:=n1_;have HB:=n2_;clear n0_ n1_ n2_;(try clear hb);(try clear hb2);(try clear hk);(try clear hi);have hcz17_0:w16.cell? ⟨gb258,0,none⟩=some (.bool a0_0):=(bc_ BK258.out 0).trans rfl;have hcz17_1:w16.cell? ⟨gb258,1,none⟩=some (.bool a0_1):=(bc_ BK258.out 1).trans rfl;have hcz17_2:w16.cell? ⟨gb258,2,none⟩=some (.slice A0_2 l0_2.length c0_2):=(bc_ BK258.out 2).trans rfl;have hcz17_3:w16.cell? ⟨gb258,3,none⟩=some (.slice A0_3 l0_3.length c0_3):=(bc_ BK258.out 3).trans rfl;have hcz17_4:w16.cell? ⟨gb258,4,none⟩=some (.slice A0_4 l0_4.length c0_4):=(bc_ BK258.out 4).trans rfl;have hcz17_5:w16.cell? ⟨gb258,5,none⟩=some (.slice A0_5 l0_5.length c0_5):=(bc_ BK258.out 5).trans rfl;have hcz17_6:w16.cell? ⟨gb258,6,none⟩=some (.slice A0_6 l0_6.length c0_6):=(bc_ BK258.out 6).trans rfl;have hcz17_7:w16.cell? ⟨gb258,7,none⟩=some (.bool a0_7):=(bc_ BK258.out 7).trans rfl;have hcz17_8:w16.cell? ⟨gb258,8,none⟩=some (.bool a0_8):=(bc_ BK258.out 8).trans rfl;have hfz17_0:=bf_ BK258.out 0;have hfz17_1:=bf_ BK258.out 1;have hfz17_2:=bf_ BK258.out 2;have hfz17_3:=bf_ BK258.out 3;have hfz17_4:=bf_ BK258.out 4;have hfz17_5:=bf_ BK258.out 5;have hfz17_6:=bf_ BK258.out 6;have hfz17_7:=bf_ BK258.out 7;have hfz17_8:=bf_ BK258.out 8;have hcz18_0:w16.cell? ⟨gb259,0,none⟩=some (.string a3_0):=(bc_ BK259.out 0).trans rfl;have hcz18_1:w16.cell? ⟨gb259,1,none⟩=some (.string a3_1):=(bc_ BK259.out 1).trans rfl;have hfz18_0:=bf_ BK259.out 0;have hfz18_1:=bf_ BK259.out 1)|(go_at_call 67;(with_reducible refine (slices_Contains_string_string.calls k _ _ l0_6 a3_0 t261 _ ?side1 ?side2 A13.out).mono ?_);(case side1=>repeat (first|exact (cb_ HR0_6.out HB.out)|(with_reducible refine ca_ ?_ _)|(with_reducible refine cn_ ?_ _)|(with_reducible refine cd_ ?_)));(case side2=>exact HC0_6.out);rintro e w' ⟨rfl,⟨nd,rfl⟩⟩;(try first|exact ⟨rfl,_,ww_ _ _ _⟩|exact ⟨rfl,_,Eq.trans (ww_ _ _ _) (congrArg (World.drewN _) (Nat.add_assoc _ _ _))⟩)));try go_wp2_with (first|(go_at_call 80;(with_reducible refine (impl_Attr_isHarm.calls k a3_0 a3_1 false _ A8.out).mono ?_);rintro e w16 ⟨rfl,hb⟩;have n0_:=A_ (kb_ (g:=gb258) (o:=.cells #[.bool a0_0,.bool a0_1,.slice A0_2 l0_2.length c0_2,.slice A0_3 l0_3.length c0_3,.slice A0_4 l0_4.length c0_4,.slice A0_5 l0_5.length c0_5,.slice A0_6 l0_6.length c0_6,.bool a0_7,.bool a0_8] 25 (0,0)) (by (with_reducible repeat (first|refine kn_ ?_ _|refine kd_ ?_|refine ka_ ?_ _));exact BK258.out) hb);have n1_:=A_ (kb_ (g:=gb259) (o:=.cells #[.string a3_0,.string a3_1] 51 (0,0)) (by (with_reducible repeat (first|refine kn_ ?_ _|refine kd_ ?_|refine ka_ ?_ _));exact BK259.out) hb);have n2_:=A_ (bp_ (by repeat (first|(with_reducible first|exact HB.out|apply ba_|apply pd_|apply b1_|refine bs_ ?_ GE258.out|refine bs_ ?_ GE259.out)|exact HB.out)) hb);clear BK258;clear BK259;clear HB;have BK258:=n0_;have BK259:=n1_;have HB:=n2_;clear n0_ n1_ n2_;(try clear hb);(try clear hb2);(try clear hk);(try clear hi);have hcz17_0:w16.cell? ⟨gb258,0,none⟩=some (.bool a0_0):=(bc_ BK258.out 0).trans rfl;have hcz17_1:w16.cell? ⟨gb258,1,none⟩=some (.bool a0_1):=(bc_ BK258.out 1).trans rfl;have hcz17_2:w16.cell? ⟨gb258,2,none⟩=some (.slice A0_2 l0_2.length c0_2):=(bc_ BK258.out 2).trans rfl;have hcz17_3:w16.cell? ⟨gb258,3,none⟩=some (.slice A0_3 l0_3.length c0_3):=(bc_ BK258.out 3).trans rfl;have hcz17_4:w16.cell? ⟨gb258,4,none⟩=some (.slice A0_4 l0_4.length c0_4):=(bc_ BK258.out 4).trans rfl;have hcz17_5:w16.cell? ⟨gb258,5,none⟩=some (.slice A0_5 l0_5.length c0_5):=(bc_ BK258.out 5).trans rfl;have hcz17_6:w16.cell? ⟨gb258,6,none⟩=some (.slice A0_6 l0_6.length c0_6):=(bc_ BK258.out 6).trans rfl;have hcz17_7:w16.cell? ⟨gb258,7,none⟩=some (.bool a0_7):=(bc_ BK258.out 7).trans rfl;have hcz17_8:w16.cell? ⟨gb258,8,none⟩=some (.bool a0_8):=(bc_ BK258.out 8).trans rfl;have hfz17_0:=bf_ BK258.out 0;have hfz17_1:=bf_ BK258.out 1;have hfz17_2:=bf_ BK258.out 2;have hfz17_3:=bf_ BK258.out 3;have hfz17_4:=bf_ BK258.out 4;have hfz17_5:=bf_ BK258.out 5;have hfz17_6:=bf_ BK258.out 6;have hfz17_7:=bf_ BK258.out 7;have hfz17_8:=bf_ BK258.out 8;have hcz18_0:w16.cell? ⟨gb259,0,none⟩=some (.string a3_0):=(bc_ BK259.out 0).trans rfl;have hcz18_1:w16.cell? ⟨gb259,1,none⟩=some (.string a3_1):=(bc_ BK259.out 1).trans rfl;have hfz18_0:=bf_ BK259.out 0;have hfz18_1:=bf_ BK259.out 1)|(go_at_call 67;(with_reducible refine (slices_Contains_string_string.calls k _ _ l0_6 a3_0 t261 _ ?side1 ?side2 A13.out).mono ?_);(case side1=>repeat (first|exact (cb_ HR0_6.out HB.out)|(with_reducible refine ca_ ?_ _)|(with_reducible refine cn_ ?_ _)|(with_reducible refine cd_ ?_)));(case side2=>exact HC0_6.out);rintro e w' ⟨rfl,⟨nd,rfl⟩⟩;(try first|exact ⟨rfl,_,ww_ _ _ _⟩|exact ⟨rfl,_,Eq.trans (ww_ _ _ _) (congrArg (World.drewN _) (Nat.add_assoc _ _ _))⟩))))
   go_meet
   case rel=>exact ⟨_,(t261),(by first|rfl|(simp;done)|(simp [*];done)),H',⟨by first|omega|exact Nat.le_refl _⟩,⟨by (with_reducible repeat (first|refine kn_ ?_ _|refine kd_ ?_|refine ka_ ?_ _));exact BK258.out⟩,⟨by (with_reducible repeat (first|refine kn_ ?_ _|refine kd_ ?_|refine ka_ ?_ _));exact BK259.out⟩,⟨by repeat (first|(with_reducible first|exact HB.out|apply ba_|apply pd_|apply b1_|refine bs_ ?_ GE258.out|refine bs_ ?_ GE259.out)|exact HB.out)⟩⟩
 case rest =>
  clear HC5
  try clear c1
  try clear p2
  try clear c5
  try clear c9
  try clear c10
  try clear c14
  try clear hcz11_0
  try clear hcz11_1
  try clear hcz15_0
  try clear hcz15_1
  try clear hcz17_0
  try clear hcz17_1
  try clear hcz17_2
  try clear hcz17_3
  try clear hcz17_4
  try clear hcz17_5
  try clear hcz17_6
  try clear hcz17_7
  try clear hcz17_8
  try clear hcz18_0
  try clear hcz18_1
  try clear hfz11_0
  try clear hfz11_1
  try clear hfz15_0
  try clear hfz15_1
  try clear hfz17_0
  try clear hfz17_1
  try clear hfz17_2
  try clear hfz17_3
  try clear hfz17_4
  try clear hfz17_5
  try clear hfz17_6
  try clear hfz17_7
  try clear hfz17_8
  try clear hfz18_0
  try clear hfz18_1
  obtain ⟨kq,x18_4,rfl,HA,HJ4,BK258,BK259,HB⟩:=hcut
  cases kq with
  | zero=>exact absurd HA.out (by simp [impl_Config_keeps.j0])
  | succ kj4 =>
   have H:=HA.out
   clear HA
   simp only [impl_Config_keeps.j0] at H
   by_cases c19:x18_4=true
   ·subst c19
    have H1:(some false)=some r:=by rw [if_pos rfl] at H;exact H
    clear H
    have H:=H1
    clear H1
    obtain rfl:=oi_ H
    go_wp2
    repeat (go_quiet (fail);try go_wp2)
    go_ret
    exact ⟨by first|rfl|(simp [errW_none,errW_some] <;> rfl)|(simp [*,errW_none,errW_some] <;> rfl),by repeat (first|(with_reducible first|exact HB.out|apply ba_|apply pd_|apply b1_|refine bs_ ?_ GE258.out|refine bs_ ?_ GE259.out)|exact HB.out)⟩
   ·replace c19:=bm_ c19
    subst c19
    have H1:(if a0_1=true then ((slices_Contains_string_string.f kj4 l0_5 a3_0).bind fun t262=>(impl_Config_keeps.j1 kj4 a1 a2 t262 a0_0 a0_1 l0_2 l0_3 l0_4 l0_5 l0_6 a0_7 a0_8 a3_0 a3_1)) else (impl_Config_keeps.j1 kj4 a1 a2 true a0_0 a0_1 l0_2 l0_3 l0_4 l0_5 l0_6 a0_7 a0_8 a3_0 a3_1))=some r:=by rw [if_neg (show ¬ (false=true) by decide)] at H;exact H
    clear H
    have H:=H1
    clear H1
    have HC20:=A_ H
    clear H
    go_upto_region 3 with (fail)
    repeat (go_quiet (fail);go_upto_region 3 with (fail))
    go_cut [28] (fun v28 wc=>∃ (kq:Nat) (x28_19:Bool),v28=.bool x28_19∧Aside0 (impl_Config_keeps.j1 kq a1 a2 x28_19 a0_0 a0_1 l0_2 l0_3 l0_4 l0_5 l0_6 a0_7 a0_8 a3_0 a3_1=some r)∧Aside0 (kq≤kj4)∧Aside0 (wc.heap[gb258]? = some (.cells #[.bool a0_0,.bool a0_1,(.slice A0_2 l0_2.length c0_2),(.slice A0_3 l0_3.length c0_3),(.slice A0_4 l0_4.length c0_4),(.slice A0_5 l0_5.length c0_5),(.slice A0_6 l0_6.length c0_6),.bool a0_7,.bool a0_8] 25 (0,0)))∧Aside0 (wc.heap[gb259]? = some (.cells #[.string a3_0,.string a3_1] 51 (0,0)))∧Aside0 (Below w.heap.size w wc))
    case first =>
     have H:=HC20.out
     clear HC20
     by_cases c21:a0_1=true
     ·subst c21
      have H1:((slices_Contains_string_string.f kj4 l0_5 a3_0).bind fun t262=>(impl_Config_keeps.j1 kj4 a1 a2 t262 a0_0 true l0_2 l0_3 l0_4 l0_5 l0_6 a0_7 a0_8 a3_0 a3_1))=some r:=by rw [if_pos rfl] at H;exact H
      clear H
      have H:=H1
      clear H1
      replace H:=ob_ H
      obtain ⟨t262,A220,H⟩:=H
      replace H:(impl_Config_keeps.j1 kj4 a1 a2 t262 a0_0 true l0_2 l0_3 l0_4 l0_5 l0_6 a0_7 a0_8 a3_0 a3_1)=some r:=H
      have A22:=A_ A220
      clear A220
      have H':=A_ H
      clear H
      have hnb23:=NB258_259.out
      have hnc23:=NB259_258.out
      have hcz24_0:wc.cell? ⟨gb258,0,none⟩=some (.bool a0_0):=(bc_ BK258.out 0).trans rfl
      have hcz24_1:wc.cell? ⟨gb258,1,none⟩=some (.bool true):=(bc_ BK258.out 1).trans rfl
      have hcz24_2:wc.cell? ⟨gb258,2,none⟩=some (.slice A0_2 l0_2.length c0_2):=(bc_ BK258.out 2).trans rfl
      have hcz24_3:wc.cell? ⟨gb258,3,none⟩=some (.slice A0_3 l0_3.length c0_3):=(bc_ BK258.out 3).trans rfl
      have hcz24_4:wc.cell? ⟨gb258,4,none⟩=some (.slice A0_4 l0_4.length c0_4):=(bc_ BK258.out 4).trans rfl
      have hcz24_5:wc.cell? ⟨gb258,5,none⟩=some (.slice A0_5 l0_5.length c0_5):=(bc_ BK258.out 5).trans rfl
      have hcz24_6:wc.cell? ⟨gb258,6,none⟩=some (.slice A0_6 l0_6.length c0_6):=(bc_ BK258.out 6).trans rfl
      have hcz24_7:wc.cell? ⟨gb258,7,none⟩=some (.bool a0_7):=(bc_ BK258.out 7).trans rfl
      have hcz24_8:wc.cell? ⟨gb258,8,none⟩=some (.bool a0_8):=(bc_ BK258.out 8).trans rfl
      have hfz24_0:=bf_ BK258.out 0
      have hfz24_1:=bf_ BK258.out 1
      have hfz24_2:=bf_ BK258.out 2
      have hfz24_3:=bf_ BK258.out 3
      have hfz24_4:=bf_ BK258.out 4
      have hfz24_5:=bf_ BK258.out 5
      have hfz24_6:=bf_ BK258.out 6
      have hfz24_7:=bf_ BK258.out 7
      have hfz24_8:=bf_ BK258.out 8
      have hcz25_0:wc.cell? ⟨gb259,0,none⟩=some (.string a3_0):=(bc_ BK259.out 0).trans rfl
      have hcz25_1:wc.cell? ⟨gb259,1,none⟩=some (.string a3_1):=(bc_ BK259.out 1).trans rfl
      have hfz25_0:=bf_ BK259.out 0
      have hfz25_1:=bf_ BK259.out 1
      go_wp2_with (first|(go_at_call 67;(with_reducible refine (slices_Contains_string_string.calls kj4 _ _ l0_5 a3_0 t262 _ ?side1 ?side2 A22.out).mono ?_);(case side1=>repeat (first|exact (cb_ HR0_5.out HB.out)|(with_reducible refine ca_ ?_ _)|(with_reducible refine cn_ ?_ _)|(with_reducible refine cd_ ?_)));(case side2=>exact HC0_5.out);rintro e w' ⟨rfl,⟨nd,rfl⟩⟩;(try first|exact ⟨rfl,_,ww_ _ _ _⟩|exact ⟨rfl,_,Eq.trans (ww_ _ _ _) (congrArg (World.drewN _) (Nat.add_assoc _ _ _))⟩)))
      repeat (go_quiet (first|(go_at_call 67;(with_reducible refine (slices_Contains_string_string.calls kj4 _ _ l0_5 a3_0 t262 _ ?side1 ?side2 A22.out).mono ?_);(case side1=>repeat (first|exact (cb_ HR0_5.out HB.out)|(with_reducible refine ca_ ?_ _)|(with_reducible refine cn_ ?_ _)|(with_reducible refine cd_ ?_)));(case side2=>exact HC0_5.out);rintro e w' ⟨rfl,⟨nd,rfl⟩⟩;(try first|exact ⟨rfl,_,ww_ _ _ _⟩|exact ⟨rfl,_,Eq.trans (ww_ _ _ _) (congrArg (World.drewN _) (Nat.add_assoc _ _ _))⟩)));try go_wp2_with (first|(go_at_call 67;(with_reducible refine (slices_Contains_string_string.calls kj4 _ _ l0_5 a3_0 t262 _ ?side1 ?side2 A22.out).mono ?_);(case side1=>repeat (first|exact (cb_ HR0_5.out HB.out)|(with_reducible refine ca_ ?_ _)|(with_reducible refine cn_ ?_ _)|(with_reducible refine cd_ ?_)));(case side2=>exact HC0_5.out);rintro e w' ⟨rfl,⟨nd,rfl⟩⟩;(try first|exact ⟨rfl,_,ww_ _ _ _⟩|exact ⟨rfl,_,Eq.trans (ww_ _ _ _) (congrArg (World.drewN _) (Nat.add_assoc _ _ _))⟩))))
      go_meet
      case rel=>exact ⟨_,(t262),(by first|rfl|(simp;done)|(simp [*];done)),H',⟨by have:=HJ4.out;first|omega|exact Nat.le_refl _⟩,⟨by (with_reducible repeat (first|refine kn_ ?_ _|refine kd_ ?_|refine ka_ ?_ _));exact BK258.out⟩,⟨by (with_reducible repeat (first|refine kn_ ?_ _|refine kd_ ?_|refine ka_ ?_ _));exact BK259.out⟩,⟨by repeat (first|(with_reducible first|exact HB.out|apply ba_|apply pd_|apply b1_|refine bs_ ?_ GE258.out|refine bs_ ?_ GE259.out)|exact HB.out)⟩⟩
     ·replace c21:=bm_ c21
      subst c21
      have H1:(impl_Config_keeps.j1 kj4 a1 a2 true a0_0 false l0_2 l0_3 l0_4 l0_5 l0_6 a0_7 a0_8 a3_0 a3_1)=some r:=by rw [if_neg (show ¬ (false=true) by decide)] at H;exact H
      clear H
      have H:=H1
      clear H1
      have H':=A_ H
      clear H
      have hnb26:=NB258_259.out
      have hnc26:=NB259_258.out
      have hcz27_0:wc.cell? ⟨gb258,0,none⟩=some (.bool a0_0):=(bc_ BK258.out 0).trans rfl
      have hcz27_1:wc.cell? ⟨gb258,1,none⟩=some (.bool false):=(bc_ BK258.out 1).trans rfl
      have hcz27_2:wc.cell? ⟨gb258,2,none⟩=some (.slice A0_2 l0_2.length c0_2):=(bc_ BK258.out 2).trans rfl
      have hcz27_3:wc.cell? ⟨gb258,3,none⟩=some (.slice A0_3 l0_3.length c0_3):=(bc_ BK258.out 3).trans rfl
      have hcz27_4:wc.cell? ⟨gb258,4,none⟩=some (.slice A0_4 l0_4.length c0_4):=(bc_ BK258.out 4).trans rfl
      have hcz27_5:wc.cell? ⟨gb258,5,none⟩=some (.slice A0_5 l0_5.length c0_5):=(bc_ BK258.out 5).trans rfl
      have hcz27_6:wc.cell? ⟨gb258,6,none⟩=some (.slice A0_6 l0_6.length c0_6):=(bc_ BK258.out 6).trans rfl
      have hcz27_7:wc.cell? ⟨gb258,7,none⟩=some (.bool a0_7):=(bc_ BK258.out 7).trans rfl
      have hcz27_8:wc.cell? ⟨gb258,8,none⟩=some (.bool a0_8):=(bc_ BK258.out 8).trans rfl
      have hfz27_0:=bf_ BK258.out 0
      have hfz27_1:=bf_ BK258.out 1
      have hfz27_2:=bf_ BK258.out 2
      have hfz27_3:=bf_ BK258.out 3
      have hfz27_4:=bf_ BK258.out 4
      have hfz27_5:=bf_ BK258.out 5
      have hfz27_6:=bf_ BK258.out 6
      have hfz27_7:=bf_ BK258.out 7
      have hfz27_8:=bf_ BK258.out 8
      go_wp2
      repeat (go_quiet (fail);try go_wp2)
      go_meet
      case rel=>exact ⟨_,(true),(by first|rfl|(simp;done)|(simp [*];done)),H',⟨by have:=HJ4.out;first|omega|exact Nat.le_refl _⟩,⟨by (with_reducible repeat (first|refine kn_ ?_ _|refine kd_ ?_|refine ka_ ?_ _));exact BK258.out⟩,⟨by (with_reducible repeat (first|refine kn_ ?_ _|refine kd_ ?_|refine ka_ ?_ _));exact BK259.out⟩,⟨by repeat (first|(with_reducible first|exact HB.out|apply ba_|apply pd_|apply b1_|refine bs_ ?_ GE258.out|refine bs_ ?_ GE259.out)|exact HB.out)⟩⟩
    case rest =>
     clear HC20
     try clear c1
     try clear c2
     try clear p2
     try clear c5
     try clear c9
     try clear c10
     try clear c14
     try clear c19
     try clear c21
     try clear c23
     try clear c26
     try clear hcz11_0
     try clear hcz11_1
     try clear hcz15_0
     try clear hcz15_1
     try clear hcz17_0
     try clear hcz17_1
     try clear hcz17_2
     try clear hcz17_3
     try clear hcz17_4
     try clear hcz17_5
     try clear hcz17_6
     try clear hcz17_7
     try clear hcz17_8
     try clear hcz18_0
     try clear hcz18_1
     try clear hcz24_0
     try clear hcz24_1
     try clear hcz24_2
     try clear hcz24_3
     try clear hcz24_4
     try clear hcz24_5
     try clear hcz24_6
     try clear hcz24_7
     try clear hcz24_8
     try clear hcz25_0
     try clear hcz25_1
     try clear hcz27_0
     try clear hcz27_1
     try clear hcz27_2
     try clear hcz27_3
     try clear hcz27_4
     try clear hcz27_5
     try clear hcz27_6
     try clear hcz27_7
     try clear hcz27_8
     try clear hfz11_0
     try clear hfz11_1
     try clear hfz15_0
     try clear hfz15_1
     try clear hfz17_0
     try clear hfz17_1
     try clear hfz17_2
     try clear hfz17_3
     try clear hfz17_4
     try clear hfz17_5
     try clear hfz17_6
     try clear hfz17_7
     try clear hfz17_8
     try clear hfz18_0
     try clear hfz18_1
     try clear hfz24_0
     try clear hfz24_1
     try clear hfz24_2
     try clear hfz24_3
     try clear hfz24_4
     try clear hfz24_5
     try clear hfz24_6
     try clear hfz24_7
     try clear hfz24_8
     try clear hfz25_0
     try clear hfz25_1
     try clear hfz27_0
     try clear hfz27_1
     try clear hfz27_2
     try clear hfz27_3
     try clear hfz27_4
     try clear hfz27_5
     try clear hfz27_6
     try clear hfz27_7
     try clear hfz27_8
     try clear p2
     obtain ⟨kq,x28_19,rfl,HA,HJ19,BK258,BK259,HB⟩:=hcut
     cases kq with
     | zero=>exact absurd HA.out (by simp [impl_Config_keeps.j1])
     | succ kj19 =>
      have H:=HA.out
      clear HA
      simp only [impl_Config_keeps.j1] at H
      by_cases c28:x28_19=true
      ·subst c28
       have H1:(some true)=some r:=by rw [if_pos rfl] at H;exact H
       clear H
       have H:=H1
       clear H1
       obtain rfl:=oi_ H
       go_wp2
       repeat (go_quiet (fail);try go_wp2)
       go_ret
       exact ⟨by first|rfl|(simp [errW_none,errW_some] <;> rfl)|(simp [*,errW_none,errW_some] <;> rfl),by repeat (first|(with_reducible first|exact HB.out|apply ba_|apply pd_|apply b1_|refine bs_ ?_ GE258.out|refine bs_ ?_ GE259.out)|exact HB.out)⟩
      ·replace c28:=bm_ c28
       subst c28
       have H1:(if a0_8=true then ((strings_HasPrefix.f a3_0 (⟨#[100,97,116,97,45]⟩:ByteArray)).bind fun t263=>(if t263=true then (impl_Config_keeps.j2 kj19 a1 a2 (decide ((a3_0.size:Int)>5)) a0_0 a0_1 l0_2 l0_3 l0_4 l0_5 l0_6 a0_7 a0_8 a3_0 a3_1) else (impl_Config_keeps.j2 kj19 a1 a2 false a0_0 a0_1 l0_2 l0_3 l0_4 l0_5 l0_6 a0_7 a0_8 a3_0 a3_1))) else (impl_Config_keeps.j2 kj19 a1 a2 false a0_0 a0_1 l0_2 l0_3 l0_4 l0_5 l0_6 a0_7 a0_8 a3_0 a3_1))=some r:=by rw [if_neg (show ¬ (false=true) by decide)] at H;exact H
       clear H
       have H:=H1
       clear H1
       have HC29:=A_ H
       clear H
       go_upto_region 5 with (fail)
       repeat (go_quiet (fail);go_upto_region 5 with (fail))
       go_cut [41] (fun v41 wc=>∃ (kq:Nat) (x41_28:Bool),v41=.bool x41_28∧Aside0 (impl_Config_keeps.j2 kq a1 a2 x41_28 a0_0 a0_1 l0_2 l0_3 l0_4 l0_5 l0_6 a0_7 a0_8 a3_0 a3_1=some r)∧Aside0 (kq≤kj19)∧Aside0 (wc.heap[gb258]? = some (.cells #[.bool a0_0,.bool a0_1,(.slice A0_2 l0_2.length c0_2),(.slice A0_3 l0_3.length c0_3),(.slice A0_4 l0_4.length c0_4),(.slice A0_5 l0_5.length c0_5),(.slice A0_6 l0_6.length c0_6),.bool a0_7,.bool a0_8] 25 (0,0)))∧Aside0 (wc.heap[gb259]? = some (.cells #[.string a3_0,.string a3_1] 51 (0,0)))∧Aside0 (Below w.heap.size w wc))
       case first =>
        have H:=HC29.out
        clear HC29
        by_cases c30:a0_8=true
        ·subst c30
         have H1:((strings_HasPrefix.f a3_0 (⟨#[100,97,116,97,45]⟩:ByteArray)).bind fun t263=>(if t263=true then (impl_Config_keeps.j2 kj19 a1 a2 (decide ((a3_0.size:Int)>5)) a0_0 a0_1 l0_2 l0_3 l0_4 l0_5 l0_6 a0_7 true a3_0 a3_1) else (impl_Config_keeps.j2 kj19 a1 a2 false a0_0 a0_1 l0_2 l0_3 l0_4 l0_5 l0_6 a0_7 true a3_0 a3_1)))=some r:=by rw [if_pos rfl] at H;exact H
         clear H
         have H:=H1
         clear H1
         replace H:=ob_ H
         obtain ⟨t263,A310,H⟩:=H
         replace H:(if t263=true then (impl_Config_keeps.j2 kj19 a1 a2 (decide ((a3_0.size:Int)>5)) a0_0 a0_1 l0_2 l0_3 l0_4 l0_5 l0_6 a0_7 true a3_0 a3_1) else (impl_Config_keeps.j2 kj19 a1 a2 false a0_0 a0_1 l0_2 l0_3 l0_4 l0_5 l0_6 a0_7 true a3_0 a3_1))=some r:=H
         have A31:=A_ A310
         clear A310
         by_cases c32:t263=true
         ·subst c32
          have H1:(impl_Config_keeps.j2 kj19 a1 a2 (decide ((a3_0.size:Int)>5)) a0_0 a0_1 l0_2 l0_3 l0_4 l0_5 l0_6 a0_7 true a3_0 a3_1)=some r:=by rw [if_pos rfl] at H;exact H
          clear H
          have H:=H1
          clear H1
          have H':=A_ H
          clear H
          have hnb33:=NB258_259.out
          have hnc33:=NB259_258.out
          have hcz34_0:wc.cell? ⟨gb258,0,none⟩=some (.bool a0_0):=(bc_ BK258.out 0).trans rfl
          have hcz34_1:wc.cell? ⟨gb258,1,none⟩=some (.bool a0_1):=(bc_ BK258.out 1).trans rfl
          have hcz34_2:wc.cell? ⟨gb258,2,none⟩=some (.slice A0_2 l0_2.length c0_2):=(bc_ BK258.out 2).trans rfl
          have hcz34_3:wc.cell? ⟨gb258,3,none⟩=some (.slice A0_3 l0_3.length c0_3):=(bc_ BK258.out 3).trans rfl
          have hcz34_4:wc.cell? ⟨gb258,4,none⟩=some (.slice A0_4 l0_4.length c0_4):=(bc_ BK258.out 4).trans rfl
          have hcz34_5:wc.cell? ⟨gb258,5,none⟩=some (.slice A0_5 l0_5.length c0_5):=(bc_ BK258.out 5).trans rfl
          have hcz34_6:wc.cell? ⟨gb258,6,none⟩=some (.slice A0_6 l0_6.length c0_6):=(bc_ BK258.out 6).trans rfl
          have hcz34_7:wc.cell? ⟨gb258,7,none⟩=some (.bool a0_7):=(bc_ BK258.out 7).trans rfl
          have hcz34_8:wc.cell? ⟨gb258,8,none⟩=some (.bool true):=(bc_ BK258.out 8).trans rfl
          have hfz34_0:=bf_ BK258.out 0
          have hfz34_1:=bf_ BK258.out 1
          have hfz34_2:=bf_ BK258.out 2
          have hfz34_3:=bf_ BK258.out 3
          have hfz34_4:=bf_ BK258.out 4
          have hfz34_5:=bf_ BK258.out 5
          have hfz34_6:=bf_ BK258.out 6
          have hfz34_7:=bf_ BK258.out 7
          have hfz34_8:=bf_ BK258.out 8
          have hcz35_0:wc.cell? ⟨gb259,0,none⟩=some (.string a3_0):=(bc_ BK259.out 0).trans rfl
          have hcz35_1:wc.cell? ⟨gb259,1,none⟩=some (.string a3_1):=(bc_ BK259.out 1).trans rfl
          have hfz35_0:=bf_ BK259.out 0
          have hfz35_1:=bf_ BK259.out 1
          go_wp2_with (first|(go_at_call 81;(with_reducible refine (strings_HasPrefix.calls a3_0 (⟨#[100,97,116,97,45]⟩:ByteArray) true _ A31.out).mono ?_);rintro e w' ⟨rfl,⟨nd,rfl⟩⟩;(try first|exact ⟨rfl,_,ww_ _ _ _⟩|exact ⟨rfl,_,Eq.trans (ww_ _ _ _) (congrArg (World.drewN _) (Nat.add_assoc _ _ _))⟩)))
          repeat (go_quiet (first|(go_at_call 81;(with_reducible refine (strings_HasPrefix.calls a3_0 (⟨#[100,97,116,97,45]⟩:ByteArray) true _ A31.out).mono ?_);rintro e w' ⟨rfl,⟨nd,rfl⟩⟩;(try first|exact ⟨rfl,_,ww_ _ _ _⟩|exact ⟨rfl,_,Eq.trans (ww_ _ _ _) (congrArg (World.drewN _) (Nat.add_assoc _ _ _))⟩)));try go_wp2_with (first|(go_at_call 81;(with_reducible refine (strings_HasPrefix.calls a3_0 (⟨#[100,97,116,97,45]⟩:ByteArray) true _ A31.out).mono ?_);rintro e w' ⟨rfl,⟨nd,rfl⟩⟩;(try first|exact ⟨rfl,_,ww_ _ _ _⟩|exact ⟨rfl,_,Eq.trans (ww_ _ _ _) (congrArg (World.drewN _) (Nat.add_assoc _ _ _))⟩))))
          go_meet
          case rel=>exact ⟨_,(decide ((a3_0.size:Int)>5)),(by first|rfl|(simp;done)|(simp [*];done)),H',⟨by have:=HJ4.out;have:=HJ19.out;first|omega|exact Nat.le_refl _⟩,⟨by (with_reducible repeat (first|refine kn_ ?_ _|refine kd_ ?_|refine ka_ ?_ _));exact BK258.out⟩,⟨by (with_reducible repeat (first|refine kn_ ?_ _|refine kd_ ?_|refine ka_ ?_ _));exact BK259.out⟩,⟨by repeat (first|(with_reducible first|exact HB.out|apply ba_|apply pd_|apply b1_|refine bs_ ?_ GE258.out|refine bs_ ?_ GE259.out)|exact HB.out)⟩⟩
         ·replace c32:=bm_ c32
          subst c32
          have H1:(impl_Config_keeps.j2 kj19 a1 a2 false a0_0 a0_1 l0_2 l0_3 l0_4 l0_5 l0_6 a0_7 true a3_0 a3_1)=some r:=by rw [if_neg (show ¬ (false=true) by decide)] at H;exact H
          clear H
          have H:=H1
          clear H1
          have H':=A_ H
          clear H
          have hnb36:=NB258_259.out
          have hnc36:=NB259_258.out
          have hcz37_0:wc.cell? ⟨gb258,0,none⟩=some (.bool a0_0):=(bc_ BK258.out 0).trans rfl
          have hcz37_1:wc.cell? ⟨gb258,1,none⟩=some (.bool a0_1):=(bc_ BK258.out 1).trans rfl
          have hcz37_2:wc.cell? ⟨gb258,2,none⟩=some (.slice A0_2 l0_2.length c0_2):=(bc_ BK258.out 2).trans rfl
          have hcz37_3:wc.cell? ⟨gb258,3,none⟩=some (.slice A0_3 l0_3.length c0_3):=(bc_ BK258.out 3).trans rfl
          have hcz37_4:wc.cell? ⟨gb258,4,none⟩=some (.slice A0_4 l0_4.length c0_4):=(bc_ BK258.out 4).trans rfl
          have hcz37_5:wc.cell? ⟨gb258,5,none⟩=some (.slice A0_5 l0_5.length c0_5):=(bc_ BK258.out 5).trans rfl
          have hcz37_6:wc.cell? ⟨gb258,6,none⟩=some (.slice A0_6 l0_6.length c0_6):=(bc_ BK258.out 6).trans rfl
          have hcz37_7:wc.cell? ⟨gb258,7,none⟩=some (.bool a0_7):=(bc_ BK258.out 7).trans rfl
          have hcz37_8:wc.cell? ⟨gb258,8,none⟩=some (.bool true):=(bc_ BK258.out 8).trans rfl
          have hfz37_0:=bf_ BK258.out 0
          have hfz37_1:=bf_ BK258.out 1
          have hfz37_2:=bf_ BK258.out 2
          have hfz37_3:=bf_ BK258.out 3
          have hfz37_4:=bf_ BK258.out 4
          have hfz37_5:=bf_ BK258.out 5
          have hfz37_6:=bf_ BK258.out 6
          have hfz37_7:=bf_ BK258.out 7
          have hfz37_8:=bf_ BK258.out 8
          have hcz38_0:wc.cell? ⟨gb259,0,none⟩=some (.string a3_0):=(bc_ BK259.out 0).trans rfl
          have hcz38_1:wc.cell? ⟨gb259,1,none⟩=some (.string a3_1):=(bc_ BK259.out 1).trans rfl
          have hfz38_0:=bf_ BK259.out 0
          have hfz38_1:=bf_ BK259.out 1
          go_wp2_with (first|(go_at_call 81;(with_reducible refine (strings_HasPrefix.calls a3_0 (⟨#[100,97,116,97,45]⟩:ByteArray) false _ A31.out).mono ?_);rintro e w' ⟨rfl,⟨nd,rfl⟩⟩;(try first|exact ⟨rfl,_,ww_ _ _ _⟩|exact ⟨rfl,_,Eq.trans (ww_ _ _ _) (congrArg (World.drewN _) (Nat.add_assoc _ _ _))⟩)))
          repeat (go_quiet (first|(go_at_call 81;(with_reducible refine (strings_HasPrefix.calls a3_0 (⟨#[100,97,116,97,45]⟩:ByteArray) false _ A31.out).mono ?_);rintro e w' ⟨rfl,⟨nd,rfl⟩⟩;(try first|exact ⟨rfl,_,ww_ _ _ _⟩|exact ⟨rfl,_,Eq.trans (ww_ _ _ _) (congrArg (World.drewN _) (Nat.add_assoc _ _ _))⟩)));try go_wp2_with (first|(go_at_call 81;(with_reducible refine (strings_HasPrefix.calls a3_0 (⟨#[100,97,116,97,45]⟩:ByteArray) false _ A31.out).mono ?_);rintro e w' ⟨rfl,⟨nd,rfl⟩⟩;(try first|exact ⟨rfl,_,ww_ _ _ _⟩|exact ⟨rfl,_,Eq.trans (ww_ _ _ _) (congrArg (World.drewN _) (Nat.add_assoc _ _ _))⟩))))
          go_meet
          case rel=>exact ⟨_,(false),(by first|rfl|(simp;done)|(simp [*];done)),H',⟨by have:=HJ4.out;have:=HJ19.out;first|omega|exact Nat.le_refl _⟩,⟨by (with_reducible repeat (first|refine kn_ ?_ _|refine kd_ ?_|refine ka_ ?_ _));exact BK258.out⟩,⟨by (with_reducible repeat (first|refine kn_ ?_ _|refine kd_ ?_|refine ka_ ?_ _));exact BK259.out⟩,⟨by repeat (first|(with_reducible first|exact HB.out|apply ba_|apply pd_|apply b1_|refine bs_ ?_ GE258.out|refine bs_ ?_ GE259.out)|exact HB.out)⟩⟩
        ·replace c30:=bm_ c30
         subst c30
         have H1:(impl_Config_keeps.j2 kj19 a1 a2 false a0_0 a0_1 l0_2 l0_3 l0_4 l0_5 l0_6 a0_7 false a3_0 a3_1)=some r:=by rw [if_neg (show ¬ (false=true) by decide)] at H;exact H
         clear H
         have H:=H1
         clear H1
         have H':=A_ H
         clear H
         have hnb39:=NB258_259.out
         have hnc39:=NB259_258.out
         have hcz40_0:wc.cell? ⟨gb258,0,none⟩=some (.bool a0_0):=(bc_ BK258.out 0).trans rfl
         have hcz40_1:wc.cell? ⟨gb258,1,none⟩=some (.bool a0_1):=(bc_ BK258.out 1).trans rfl
         have hcz40_2:wc.cell? ⟨gb258,2,none⟩=some (.slice A0_2 l0_2.length c0_2):=(bc_ BK258.out 2).trans rfl
         have hcz40_3:wc.cell? ⟨gb258,3,none⟩=some (.slice A0_3 l0_3.length c0_3):=(bc_ BK258.out 3).trans rfl
         have hcz40_4:wc.cell? ⟨gb258,4,none⟩=some (.slice A0_4 l0_4.length c0_4):=(bc_ BK258.out 4).trans rfl
         have hcz40_5:wc.cell? ⟨gb258,5,none⟩=some (.slice A0_5 l0_5.length c0_5):=(bc_ BK258.out 5).trans rfl
         have hcz40_6:wc.cell? ⟨gb258,6,none⟩=some (.slice A0_6 l0_6.length c0_6):=(bc_ BK258.out 6).trans rfl
         have hcz40_7:wc.cell? ⟨gb258,7,none⟩=some (.bool a0_7):=(bc_ BK258.out 7).trans rfl
         have hcz40_8:wc.cell? ⟨gb258,8,none⟩=some (.bool false):=(bc_ BK258.out 8).trans rfl
         have hfz40_0:=bf_ BK258.out 0
         have hfz40_1:=bf_ BK258.out 1
         have hfz40_2:=bf_ BK258.out 2
         have hfz40_3:=bf_ BK258.out 3
         have hfz40_4:=bf_ BK258.out 4
         have hfz40_5:=bf_ BK258.out 5
         have hfz40_6:=bf_ BK258.out 6
         have hfz40_7:=bf_ BK258.out 7
         have hfz40_8:=bf_ BK258.out 8
         go_wp2
         repeat (go_quiet (fail);try go_wp2)
         go_meet
         case rel=>exact ⟨_,(false),(by first|rfl|(simp;done)|(simp [*];done)),H',⟨by have:=HJ4.out;have:=HJ19.out;first|omega|exact Nat.le_refl _⟩,⟨by (with_reducible repeat (first|refine kn_ ?_ _|refine kd_ ?_|refine ka_ ?_ _));exact BK258.out⟩,⟨by (with_reducible repeat (first|refine kn_ ?_ _|refine kd_ ?_|refine ka_ ?_ _));exact BK259.out⟩,⟨by repeat (first|(with_reducible first|exact HB.out|apply ba_|apply pd_|apply b1_|refine bs_ ?_ GE258.out|refine bs_ ?_ GE259.out)|exact HB.out)⟩⟩
       case rest =>
        clear HC29
        try clear c1
        try clear c2
        try clear p2
        try clear c3
        try clear c5
        try clear c9
        try clear c10
        try clear c14
        try clear c19
        try clear c21
        try clear c23
        try clear c26
        try clear c28
        try clear c30
        try clear c32
        try clear c33
        try clear c36
        try clear c39
        try clear hcz11_0
        try clear hcz11_1
        try clear hcz15_0
        try clear hcz15_1
        try clear hcz17_0
        try clear hcz17_1
        try clear hcz17_2
        try clear hcz17_3
        try clear hcz17_4
        try clear hcz17_5
        try clear hcz17_6
        try clear hcz17_7
        try clear hcz17_8
        try clear hcz18_0
        try clear hcz18_1
        try clear hcz24_0
        try clear hcz24_1
        try clear hcz24_2
        try clear hcz24_3
        try clear hcz24_4
        try clear hcz24_5
        try clear hcz24_6
        try clear hcz24_7
        try clear hcz24_8
        try clear hcz25_0
        try clear hcz25_1
        try clear hcz27_0
        try clear hcz27_1
        try clear hcz27_2
        try clear hcz27_3
        try clear hcz27_4
        try clear hcz27_5
        try clear hcz27_6
        try clear hcz27_7
        try clear hcz27_8
        try clear hcz34_0
        try clear hcz34_1
        try clear hcz34_2
        try clear hcz34_3
        try clear hcz34_4
        try clear hcz34_5
        try clear hcz34_6
        try clear hcz34_7
        try clear hcz34_8
        try clear hcz35_0
        try clear hcz35_1
        try clear hcz37_0
        try clear hcz37_1
        try clear hcz37_2
        try clear hcz37_3
        try clear hcz37_4
        try clear hcz37_5
        try clear hcz37_6
        try clear hcz37_7
        try clear hcz37_8
        try clear hcz38_0
        try clear hcz38_1
        try clear hcz40_0
        try clear hcz40_1
        try clear hcz40_2
        try clear hcz40_3
        try clear hcz40_4
        try clear hcz40_5
        try clear hcz40_6
        try clear hcz40_7
        try clear hcz40_8
        try clear hfz11_0
        try clear hfz11_1
        try clear hfz15_0
        try clear hfz15_1
        try clear hfz17_0
        try clear hfz17_1
        try clear hfz17_2
        try clear hfz17_3
        try clear hfz17_4
        try clear hfz17_5
        try clear hfz17_6
        try clear hfz17_7
        try clear hfz17_8
        try clear hfz18_0
        try clear hfz18_1
        try clear hfz24_0
        try clear hfz24_1
        try clear hfz24_2
        try clear hfz24_3
        try clear hfz24_4
        try clear hfz24_5
        try clear hfz24_6
        try clear hfz24_7
        try clear hfz24_8
        try clear hfz25_0
        try clear hfz25_1
        try clear hfz27_0
        try clear hfz27_1
        try clear hfz27_2
        try clear hfz27_3
        try clear hfz27_4
        try clear hfz27_5
        try clear hfz27_6
        try clear hfz27_7
        try clear hfz27_8
        try clear hfz34_0
        try clear hfz34_1
        try clear hfz34_2
        try clear hfz34_3
        try clear hfz34_4
        try clear hfz34_5
        try clear hfz34_6
        try clear hfz34_7
        try clear hfz34_8
        try clear hfz35_0
        try clear hfz35_1
        try clear hfz37_0
        try clear hfz37_1
        try clear hfz37_2
        try clear hfz37_3
        try clear hfz37_4
        try clear hfz37_5
        try clear hfz37_6
        try clear hfz37_7
        try clear hfz37_8
        try clear hfz38_0
        try clear hfz38_1
        try clear hfz40_0
        try clear hfz40_1
        try clear hfz40_2
        try clear hfz40_3
        try clear hfz40_4
        try clear hfz40_5
        try clear hfz40_6
        try clear hfz40_7
        try clear hfz40_8
        try clear p2
        obtain ⟨kq,x41_28,rfl,HA,HJ28,BK258,BK259,HB⟩:=hcut
        cases kq with
        | zero=>exact absurd HA.out (by simp [impl_Config_keeps.j2])
        | succ kj28 =>
         have H:=HA.out
         clear HA
         simp only [impl_Config_keeps.j2] at H
         by_cases c41:x41_28=true
         ·subst c41
          have H1:(some true)=some r:=by rw [if_pos rfl] at H;exact H
          clear H
          have H:=H1
          clear H1
          obtain rfl:=oi_ H
          go_wp2
          repeat (go_quiet (fail);try go_wp2)
          go_ret
          exact ⟨by first|rfl|(simp [errW_none,errW_some] <;> rfl)|(simp [*,errW_none,errW_some] <;> rfl),by repeat (first|(with_reducible first|exact HB.out|apply ba_|apply pd_|apply b1_|refine bs_ ?_ GE258.out|refine bs_ ?_ GE259.out)|exact HB.out)⟩
         ·replace c41:=bm_ c41
          subst c41
          have H1:((impl_ruleAt.f l0_2 a1 a2).bind fun t264=>(if t264≥0 then (if 0≤t264 then (if t264<(l0_2.length:Int) then ((slices_Contains_string_string.f kj28 ((rd_T56 l0_2 t264).f2) a3_0).bind fun t266=>(some t266)) else (none)) else (none)) else (some false)))=some r:=by rw [if_neg (show ¬ (false=true) by decide)] at H;exact H
          clear H
          have H:=H1
          clear H1
          replace H:=ob_ H
          obtain ⟨t264,A420,H⟩:=H
          replace H:(if t264≥0 then (if 0≤t264 then (if t264<(l0_2.length:Int) then ((slices_Contains_string_string.f kj28 ((rd_T56 l0_2 t264).f2) a3_0).bind fun t266=>(some t266)) else (none)) else (none)) else (some false))=some r:=H
          have A42:=A_ A420
          clear A420
          by_cases c43:t264≥0
          ·rw [if_pos c43] at H
           have c43b0:decide (0≤t264)=true:=dt_ c43
           clear c43
           by_cases c44:0≤t264
           ·rw [if_pos c44] at H
            have c44b0:decide (0≤t264)=true:=dt_ c44
            clear c44
            by_cases c45:t264<(l0_2.length:Int)
            ·rw [if_pos c45] at H
             have c45b0:decide (t264<(l0_2.length:Int))=true:=dt_ c45
             clear c45
             replace H:=ob_ H
             obtain ⟨t266,A460,H⟩:=H
             replace H:(some t266)=some r:=H
             have A46:=A_ A460
             clear A460
             obtain rfl:=oi_ H
             have hnb47:=NB258_259.out
             have hnc47:=NB259_258.out
             have hcz48_0:wc.cell? ⟨gb258,0,none⟩=some (.bool a0_0):=(bc_ BK258.out 0).trans rfl
             have hcz48_1:wc.cell? ⟨gb258,1,none⟩=some (.bool a0_1):=(bc_ BK258.out 1).trans rfl
             have hcz48_2:wc.cell? ⟨gb258,2,none⟩=some (.slice A0_2 l0_2.length c0_2):=(bc_ BK258.out 2).trans rfl
             have hcz48_3:wc.cell? ⟨gb258,3,none⟩=some (.slice A0_3 l0_3.length c0_3):=(bc_ BK258.out 3).trans rfl
             have hcz48_4:wc.cell? ⟨gb258,4,none⟩=some (.slice A0_4 l0_4.length c0_4):=(bc_ BK258.out 4).trans rfl
             have hcz48_5:wc.cell? ⟨gb258,5,none⟩=some (.slice A0_5 l0_5.length c0_5):=(bc_ BK258.out 5).trans rfl
             have hcz48_6:wc.cell? ⟨gb258,6,none⟩=some (.slice A0_6 l0_6.length c0_6):=(bc_ BK258.out 6).trans rfl
             have hcz48_7:wc.cell? ⟨gb258,7,none⟩=some (.bool a0_7):=(bc_ BK258.out 7).trans rfl
             have hcz48_8:wc.cell? ⟨gb258,8,none⟩=some (.bool a0_8):=(bc_ BK258.out 8).trans rfl
             have hfz48_0:=bf_ BK258.out 0
             have hfz48_1:=bf_ BK258.out 1
             have hfz48_2:=bf_ BK258.out 2
             have hfz48_3:=bf_ BK258.out 3
             have hfz48_4:=bf_ BK258.out 4
             have hfz48_5:=bf_ BK258.out 5
             have hfz48_6:=bf_ BK258.out 6
             have hfz48_7:=bf_ BK258.out 7
             have hfz48_8:=bf_ BK258.out 8
             go_wp2_with (first|(go_at_call 82;(with_reducible refine (impl_ruleAt.calls _ _ l0_2 a1 a2 t264 _ ?side1 ?side2 A42.out).mono ?_);(case side1=>repeat (first|exact (cb_ HR0_2.out HB.out)|(with_reducible refine ca_ ?_ _)|(with_reducible refine cn_ ?_ _)|(with_reducible refine cd_ ?_)));(case side2=>exact HC0_2.out);rintro e w49 ⟨rfl,hb⟩;have n0_:=A_ (kb_ (g:=gb258) (o:=.cells #[.bool a0_0,.bool a0_1,.slice A0_2 l0_2.length c0_2,.slice A0_3 l0_3.length c0_3,.slice A0_4 l0_4.length c0_4,.slice A0_5 l0_5.length c0_5,.slice A0_6 l0_6.length c0_6,.bool a0_7,.bool a0_8] 25 (0,0)) (by (with_reducible repeat (first|refine kn_ ?_ _|refine kd_ ?_|refine ka_ ?_ _));exact BK258.out) hb);have n1_:=A_ (kb_ (g:=gb259) (o:=.cells #[.string a3_0,.string a3_1] 51 (0,0)) (by (with_reducible repeat (first|refine kn_ ?_ _|refine kd_ ?_|refine ka_ ?_ _));exact BK259.out) hb);have n2_:=A_ (bp_ (by repeat (first|(with_reducible first|exact HB.out|apply ba_|apply pd_|apply b1_|refine bs_ ?_ GE258.out|refine bs_ ?_ GE259.out)|exact HB.out)) hb);clear BK258;clear BK259;clear HB;have BK258:=n0_;have BK259:=n1_;have HB:=n2_;clear n0_ n1_ n2_;(try clear hb);(try clear hb2);(try clear hk);(try clear hi);have hcz50_0:w49.cell? ⟨gb258,0,none⟩=some (.bool a0_0):=(bc_ BK258.out 0).trans rfl;have hcz50_1:w49.cell? ⟨gb258,1,none⟩=some (.bool a0_1):=(bc_ BK258.out 1).trans rfl;have hcz50_2:w49.cell? ⟨gb258,2,none⟩=some (.slice A0_2 l0_2.length c0_2):=(bc_ BK258.out 2).trans rfl;have hcz50_3:w49.cell? ⟨gb258,3,none⟩=some (.slice A0_3 l0_3.length c0_3):=(bc_ BK258.out 3).trans rfl;have hcz50_4:w49.cell? ⟨gb258,4,none⟩=some (.slice A0_4 l0_4.length c0_4):=(bc_ BK258.out 4).trans rfl;have hcz50_5:w49.cell? ⟨gb258,5,none⟩=some (.slice A0_5 l0_5.length c0_5):=(bc_ BK258.out 5).trans rfl;have hcz50_6:w49.cell? ⟨gb258,6,none⟩=some (.slice A0_6 l0_6.length c0_6):=(bc_ BK258.out 6).trans rfl;have hcz50_7:w49.cell? ⟨gb258,7,none⟩=some (.bool a0_7):=(bc_ BK258.out 7).trans rfl;have hcz50_8:w49.cell? ⟨gb258,8,none⟩=some (.bool a0_8):=(bc_ BK258.out 8).trans rfl;have hfz50_0:=bf_ BK258.out 0;have hfz50_1:=bf_ BK258.out 1;have hfz50_2:=bf_ BK258.out 2;have hfz50_3:=bf_ BK258.out 3;have hfz50_4:=bf_ BK258.out 4;have hfz50_5:=bf_ BK258.out 5;have hfz50_6:=bf_ BK258.out 6;have hfz50_7:=bf_ BK258.out 7;have hfz50_8:=bf_ BK258.out 8;have p265:0≤(t264:Int):=od_ (by first|(with_reducible assumption)|assumption);have q265:t264<(l0_2.length:Int):=od_ (by first|(with_reducible assumption)|assumption);obtain ⟨ad265,A265_2,c265_2,e265,hx265_0,hx265_1,hx265_2,hl265_2,hi265_2⟩:=at_T56 HR0_2.out t264 p265 q265;cases e265;replace hx265_0:=(HB.out.cell (bl_ w _ hx265_0)).trans hx265_0;replace hx265_1:=(HB.out.cell (bl_ w _ hx265_1)).trans hx265_1;replace hx265_2:=(HB.out.cell (bl_ w _ hx265_2)).trans hx265_2;have HR265_2:=A_ hi265_2;have HC265_2:=A_ hl265_2;clear hi265_2 hl265_2;replace p265:=eq_true p265;replace q265:=eq_true q265;have hcz51_0:w49.cell? ⟨gb259,0,none⟩=some (.string a3_0):=(bc_ BK259.out 0).trans rfl;have hcz51_1:w49.cell? ⟨gb259,1,none⟩=some (.string a3_1):=(bc_ BK259.out 1).trans rfl;have hfz51_0:=bf_ BK259.out 0;have hfz51_1:=bf_ BK259.out 1)|(go_at_call 67;(with_reducible refine (slices_Contains_string_string.calls kj28 _ _ ((rd_T56 l0_2 t264).f2) a3_0 t266 _ ?side1 ?side2 A46.out).mono ?_);(case side1=>repeat (first|exact (cb_ HR265_2.out HB.out)|(with_reducible refine ca_ ?_ _)|(with_reducible refine cn_ ?_ _)|(with_reducible refine cd_ ?_)));(case side2=>exact HC265_2.out);rintro e w' ⟨rfl,⟨nd,rfl⟩⟩;(try first|exact ⟨rfl,_,ww_ _ _ _⟩|exact ⟨rfl,_,Eq.trans (ww_ _ _ _) (congrArg (World.drewN _) (Nat.add_assoc _ _ _))⟩)))
             repeat (go_quiet (first|(go_at_call 82;(with_reducible refine (impl_ruleAt.calls _ _ l0_2 a1 a2 t264 _ ?side1 ?side2 A42.out).mono ?_);(case side1=>repeat (first|exact (cb_ HR0_2.out HB.out)|(with_reducible refine ca_ ?_ _)|(with_reducible refine cn_ ?_ _)|(with_reducible refine cd_ ?_)));(case side2=>exact HC0_2.out);rintro e w49 ⟨rfl,hb⟩;have n0_:=A_ (kb_ (g:=gb258) (o:=.cells #[.bool a0_0,.bool a0_1,.slice A0_2 l0_2.length c0_2,.slice A0_3 l0_3.length c0_3,.slice A0_4 l0_4.length c0_4,.slice A0_5 l0_5.length c0_5,.slice A0_6 l0_6.length c0_6,.bool a0_7,.bool a0_8] 25 (0,0)) (by (with_reducible repeat (first|refine kn_ ?_ _|refine kd_ ?_|refine ka_ ?_ _));exact BK258.out) hb);have n1_:=A_ (kb_ (g:=gb259) (o:=.cells #[.string a3_0,.string a3_1] 51 (0,0)) (by (with_reducible repeat (first|refine kn_ ?_ _|refine kd_ ?_|refine ka_ ?_ _));exact BK259.out) hb);have n2_:=A_ (bp_ (by repeat (first|(with_reducible first|exact HB.out|apply ba_|apply pd_|apply b1_|refine bs_ ?_ GE258.out|refine bs_ ?_ GE259.out)|exact HB.out)) hb);clear BK258;clear BK259;clear HB;have BK258:=n0_;have BK259:=n1_;have HB:=n2_;clear n0_ n1_ n2_;(try clear hb);(try clear hb2);(try clear hk);(try clear hi);have hcz50_0:w49.cell? ⟨gb258,0,none⟩=some (.bool a0_0):=(bc_ BK258.out 0).trans rfl;have hcz50_1:w49.cell? ⟨gb258,1,none⟩=some (.bool a0_1):=(bc_ BK258.out 1).trans rfl;have hcz50_2:w49.cell? ⟨gb258,2,none⟩=some (.slice A0_2 l0_2.length c0_2):=(bc_ BK258.out 2).trans rfl;have hcz50_3:w49.cell? ⟨gb258,3,none⟩=some (.slice A0_3 l0_3.length c0_3):=(bc_ BK258.out 3).trans rfl;have hcz50_4:w49.cell? ⟨gb258,4,none⟩=some (.slice A0_4 l0_4.length c0_4):=(bc_ BK258.out 4).trans rfl;have hcz50_5:w49.cell? ⟨gb258,5,none⟩=some (.slice A0_5 l0_5.length c0_5):=(bc_ BK258.out 5).trans rfl;have hcz50_6:w49.cell? ⟨gb258,6,none⟩=some (.slice A0_6 l0_6.length c0_6):=(bc_ BK258.out 6).trans rfl;have hcz50_7:w49.cell? ⟨gb258,7,none⟩=some (.bool a0_7):=(bc_ BK258.out 7).trans rfl;have hcz50_8:w49.cell? ⟨gb258,8,none⟩=some (.bool a0_8):=(bc_ BK258.out 8).trans rfl;have hfz50_0:=bf_ BK258.out 0;have hfz50_1:=bf_ BK258.out 1;have hfz50_2:=bf_ BK258.out 2;have hfz50_3:=bf_ BK258.out 3;have hfz50_4:=bf_ BK258.out 4;have hfz50_5:=bf_ BK258.out 5;have hfz50_6:=bf_ BK258.out 6;have hfz50_7:=bf_ BK258.out 7;have hfz50_8:=bf_ BK258.out 8;have p265:0≤(t264:Int):=od_ (by first|(with_reducible assumption)|assumption);have q265:t264<(l0_2.length:Int):=od_ (by first|(with_reducible assumption)|assumption);obtain ⟨ad265,A265_2,c265_2,e265,hx265_0,hx265_1,hx265_2,hl265_2,hi265_2⟩:=at_T56 HR0_2.out t264 p265 q265;cases e265;replace hx265_0:=(HB.out.cell (bl_ w _ hx265_0)).trans hx265_0;replace hx265_1:=(HB.out.cell (bl_ w _ hx265_1)).trans hx265_1;replace hx265_2:=(HB.out.cell (bl_ w _ hx265_2)).trans hx265_2;have HR265_2:=A_ hi265_2;have HC265_2:=A_ hl265_2;clear hi265_2 hl265_2;replace p265:=eq_true p265;replace q265:=eq_true q265;have hcz51_0:w49.cell? ⟨gb259,0,none⟩=some (.string a3_0):=(bc_ BK259.out 0).trans rfl;have hcz51_1:w49.cell? ⟨gb259,1,none⟩=some (.string a3_1):=(bc_ BK259.out 1).trans rfl;have hfz51_0:=bf_ BK259.out 0;have hfz51_1:=bf_ BK259.out 1)|(go_at_call 67;(with_reducible refine (slices_Contains_string_string.calls kj28 _ _ ((rd_T56 l0_2 t264).f2) a3_0 t266 _ ?side1 ?side2 A46.out).mono ?_);(case side1=>repeat (first|exact (cb_ HR265_2.out HB.out)|(with_reducible refine ca_ ?_ _)|(with_reducible refine cn_ ?_ _)|(with_reducible refine cd_ ?_)));(case side2=>exact HC265_2.out);rintro e w' ⟨rfl,⟨nd,rfl⟩⟩;(try first|exact ⟨rfl,_,ww_ _ _ _⟩|exact ⟨rfl,_,Eq.trans (ww_ _ _ _) (congrArg (World.drewN _) (Nat.add_assoc _ _ _))⟩)));try go_wp2_with (first|(go_at_call 82;(with_reducible refine (impl_ruleAt.calls _ _ l0_2 a1 a2 t264 _ ?side1 ?side2 A42.out).mono ?_);(case side1=>repeat (first|exact (cb_ HR0_2.out HB.out)|(with_reducible refine ca_ ?_ _)|(with_reducible refine cn_ ?_ _)|(with_reducible refine cd_ ?_)));(case side2=>exact HC0_2.out);rintro e w49 ⟨rfl,hb⟩;have n0_:=A_ (kb_ (g:=gb258) (o:=.cells #[.bool a0_0,.bool a0_1,.slice A0_2 l0_2.length c0_2,.slice A0_3 l0_3.length c0_3,.slice A0_4 l0_4.length c0_4,.slice A0_5 l0_5.length c0_5,.slice A0_6 l0_6.length c0_6,.bool a0_7,.bool a0_8] 25 (0,0)) (by (with_reducible repeat (first|refine kn_ ?_ _|refine kd_ ?_|refine ka_ ?_ _));exact BK258.out) hb);have n1_:=A_ (kb_ (g:=gb259) (o:=.cells #[.string a3_0,.string a3_1] 51 (0,0)) (by (with_reducible repeat (first|refine kn_ ?_ _|refine kd_ ?_|refine ka_ ?_ _));exact BK259.out) hb);have n2_:=A_ (bp_ (by repeat (first|(with_reducible first|exact HB.out|apply ba_|apply pd_|apply b1_|refine bs_ ?_ GE258.out|refine bs_ ?_ GE259.out)|exact HB.out)) hb);clear BK258;clear BK259;clear HB;have BK258:=n0_;have BK259:=n1_;have HB:=n2_;clear n0_ n1_ n2_;(try clear hb);(try clear hb2);(try clear hk);(try clear hi);have hcz50_0:w49.cell? ⟨gb258,0,none⟩=some (.bool a0_0):=(bc_ BK258.out 0).trans rfl;have hcz50_1:w49.cell? ⟨gb258,1,none⟩=some (.bool a0_1):=(bc_ BK258.out 1).trans rfl;have hcz50_2:w49.cell? ⟨gb258,2,none⟩=some (.slice A0_2 l0_2.length c0_2):=(bc_ BK258.out 2).trans rfl;have hcz50_3:w49.cell? ⟨gb258,3,none⟩=some (.slice A0_3 l0_3.length c0_3):=(bc_ BK258.out 3).trans rfl;have hcz50_4:w49.cell? ⟨gb258,4,none⟩=some (.slice A0_4 l0_4.length c0_4):=(bc_ BK258.out 4).trans rfl;have hcz50_5:w49.cell? ⟨gb258,5,none⟩=some (.slice A0_5 l0_5.length c0_5):=(bc_ BK258.out 5).trans rfl;have hcz50_6:w49.cell? ⟨gb258,6,none⟩=some (.slice A0_6 l0_6.length c0_6):=(bc_ BK258.out 6).trans rfl;have hcz50_7:w49.cell? ⟨gb258,7,none⟩=some (.bool a0_7):=(bc_ BK258.out 7).trans rfl;have hcz50_8:w49.cell? ⟨gb258,8,none⟩=some (.bool a0_8):=(bc_ BK258.out 8).trans rfl;have hfz50_0:=bf_ BK258.out 0;have hfz50_1:=bf_ BK258.out 1;have hfz50_2:=bf_ BK258.out 2;have hfz50_3:=bf_ BK258.out 3;have hfz50_4:=bf_ BK258.out 4;have hfz50_5:=bf_ BK258.out 5;have hfz50_6:=bf_ BK258.out 6;have hfz50_7:=bf_ BK258.out 7;have hfz50_8:=bf_ BK258.out 8;have p265:0≤(t264:Int):=od_ (by first|(with_reducible assumption)|assumption);have q265:t264<(l0_2.length:Int):=od_ (by first|(with_reducible assumption)|assumption);obtain ⟨ad265,A265_2,c265_2,e265,hx265_0,hx265_1,hx265_2,hl265_2,hi265_2⟩:=at_T56 HR0_2.out t264 p265 q265;cases e265;replace hx265_0:=(HB.out.cell (bl_ w _ hx265_0)).trans hx265_0;replace hx265_1:=(HB.out.cell (bl_ w _ hx265_1)).trans hx265_1;replace hx265_2:=(HB.out.cell (bl_ w _ hx265_2)).trans hx265_2;have HR265_2:=A_ hi265_2;have HC265_2:=A_ hl265_2;clear hi265_2 hl265_2;replace p265:=eq_true p265;replace q265:=eq_true q265;have hcz51_0:w49.cell? ⟨gb259,0,none⟩=some (.string a3_0):=(bc_ BK259.out 0).trans rfl;have hcz51_1:w49.cell? ⟨gb259,1,none⟩=some (.string a3_1):=(bc_ BK259.out 1).trans rfl;have hfz51_0:=bf_ BK259.out 0;have hfz51_1:=bf_ BK259.out 1)|(go_at_call 67;(with_reducible refine (slices_Contains_string_string.calls kj28 _ _ ((rd_T56 l0_2 t264).f2) a3_0 t266 _ ?side1 ?side2 A46.out).mono ?_);(case side1=>repeat (first|exact (cb_ HR265_2.out HB.out)|(with_reducible refine ca_ ?_ _)|(with_reducible refine cn_ ?_ _)|(with_reducible refine cd_ ?_)));(case side2=>exact HC265_2.out);rintro e w' ⟨rfl,⟨nd,rfl⟩⟩;(try first|exact ⟨rfl,_,ww_ _ _ _⟩|exact ⟨rfl,_,Eq.trans (ww_ _ _ _) (congrArg (World.drewN _) (Nat.add_assoc _ _ _))⟩))))
             go_ret
             exact ⟨by first|rfl|(simp [errW_none,errW_some] <;> rfl)|(simp [*,errW_none,errW_some] <;> rfl),by repeat (first|(with_reducible first|exact HB.out|apply ba_|apply pd_|apply b1_|refine bs_ ?_ GE258.out|refine bs_ ?_ GE259.out)|exact HB.out)⟩
            ·rw [if_neg c45] at H
             exact absurd H (by simp)
           ·rw [if_neg c44] at H
            exact absurd H (by simp)
          ·rw [if_neg c43] at H
           have c43b0:decide (0≤t264)=false:=df_ c43
           clear c43
           obtain rfl:=oi_ H
           have hnb52:=NB258_259.out
           have hnc52:=NB259_258.out
           have hcz53_0:wc.cell? ⟨gb258,0,none⟩=some (.bool a0_0):=(bc_ BK258.out 0).trans rfl
           have hcz53_1:wc.cell? ⟨gb258,1,none⟩=some (.bool a0_1):=(bc_ BK258.out 1).trans rfl
           have hcz53_2:wc.cell? ⟨gb258,2,none⟩=some (.slice A0_2 l0_2.length c0_2):=(bc_ BK258.out 2).trans rfl
           have hcz53_3:wc.cell? ⟨gb258,3,none⟩=some (.slice A0_3 l0_3.length c0_3):=(bc_ BK258.out 3).trans rfl
           have hcz53_4:wc.cell? ⟨gb258,4,none⟩=some (.slice A0_4 l0_4.length c0_4):=(bc_ BK258.out 4).trans rfl
           have hcz53_5:wc.cell? ⟨gb258,5,none⟩=some (.slice A0_5 l0_5.length c0_5):=(bc_ BK258.out 5).trans rfl
           have hcz53_6:wc.cell? ⟨gb258,6,none⟩=some (.slice A0_6 l0_6.length c0_6):=(bc_ BK258.out 6).trans rfl
           have hcz53_7:wc.cell? ⟨gb258,7,none⟩=some (.bool a0_7):=(bc_ BK258.out 7).trans rfl
           have hcz53_8:wc.cell? ⟨gb258,8,none⟩=some (.bool a0_8):=(bc_ BK258.out 8).trans rfl
           have hfz53_0:=bf_ BK258.out 0
           have hfz53_1:=bf_ BK258.out 1
           have hfz53_2:=bf_ BK258.out 2
           have hfz53_3:=bf_ BK258.out 3
           have hfz53_4:=bf_ BK258.out 4
           have hfz53_5:=bf_ BK258.out 5
           have hfz53_6:=bf_ BK258.out 6
           have hfz53_7:=bf_ BK258.out 7
           have hfz53_8:=bf_ BK258.out 8
           go_wp2_with (first|(go_at_call 82;(with_reducible refine (impl_ruleAt.calls _ _ l0_2 a1 a2 t264 _ ?side1 ?side2 A42.out).mono ?_);(case side1=>repeat (first|exact (cb_ HR0_2.out HB.out)|(with_reducible refine ca_ ?_ _)|(with_reducible refine cn_ ?_ _)|(with_reducible refine cd_ ?_)));(case side2=>exact HC0_2.out);rintro e w54 ⟨rfl,hb⟩;have n0_:=A_ (kb_ (g:=gb258) (o:=.cells #[.bool a0_0,.bool a0_1,.slice A0_2 l0_2.length c0_2,.slice A0_3 l0_3.length c0_3,.slice A0_4 l0_4.length c0_4,.slice A0_5 l0_5.length c0_5,.slice A0_6 l0_6.length c0_6,.bool a0_7,.bool a0_8] 25 (0,0)) (by (with_reducible repeat (first|refine kn_ ?_ _|refine kd_ ?_|refine ka_ ?_ _));exact BK258.out) hb);have n1_:=A_ (kb_ (g:=gb259) (o:=.cells #[.string a3_0,.string a3_1] 51 (0,0)) (by (with_reducible repeat (first|refine kn_ ?_ _|refine kd_ ?_|refine ka_ ?_ _));exact BK259.out) hb);have n2_:=A_ (bp_ (by repeat (first|(with_reducible first|exact HB.out|apply ba_|apply pd_|apply b1_|refine bs_ ?_ GE258.out|refine bs_ ?_ GE259.out)|exact HB.out)) hb);clear BK258;clear BK259;clear HB;have BK258:=n0_;have BK259:=n1_;have HB:=n2_;clear n0_ n1_ n2_;(try clear hb);(try clear hb2);(try clear hk);(try clear hi)))
           repeat (go_quiet (first|(go_at_call 82;(with_reducible refine (impl_ruleAt.calls _ _ l0_2 a1 a2 t264 _ ?side1 ?side2 A42.out).mono ?_);(case side1=>repeat (first|exact (cb_ HR0_2.out HB.out)|(with_reducible refine ca_ ?_ _)|(with_reducible refine cn_ ?_ _)|(with_reducible refine cd_ ?_)));(case side2=>exact HC0_2.out);rintro e w54 ⟨rfl,hb⟩;have n0_:=A_ (kb_ (g:=gb258) (o:=.cells #[.bool a0_0,.bool a0_1,.slice A0_2 l0_2.length c0_2,.slice A0_3 l0_3.length c0_3,.slice A0_4 l0_4.length c0_4,.slice A0_5 l0_5.length c0_5,.slice A0_6 l0_6.length c0_6,.bool a0_7,.bool a0_8] 25 (0,0)) (by (with_reducible repeat (first|refine kn_ ?_ _|refine kd_ ?_|refine ka_ ?_ _));exact BK258.out) hb);have n1_:=A_ (kb_ (g:=gb259) (o:=.cells #[.string a3_0,.string a3_1] 51 (0,0)) (by (with_reducible repeat (first|refine kn_ ?_ _|refine kd_ ?_|refine ka_ ?_ _));exact BK259.out) hb);have n2_:=A_ (bp_ (by repeat (first|(with_reducible first|exact HB.out|apply ba_|apply pd_|apply b1_|refine bs_ ?_ GE258.out|refine bs_ ?_ GE259.out)|exact HB.out)) hb);clear BK258;clear BK259;clear HB;have BK258:=n0_;have BK259:=n1_;have HB:=n2_;clear n0_ n1_ n2_;(try clear hb);(try clear hb2);(try clear hk);(try clear hi)));try go_wp2_with (first|(go_at_call 82;(with_reducible refine (impl_ruleAt.calls _ _ l0_2 a1 a2 t264 _ ?side1 ?side2 A42.out).mono ?_);(case side1=>repeat (first|exact (cb_ HR0_2.out HB.out)|(with_reducible refine ca_ ?_ _)|(with_reducible refine cn_ ?_ _)|(with_reducible refine cd_ ?_)));(case side2=>exact HC0_2.out);rintro e w54 ⟨rfl,hb⟩;have n0_:=A_ (kb_ (g:=gb258) (o:=.cells #[.bool a0_0,.bool a0_1,.slice A0_2 l0_2.length c0_2,.slice A0_3 l0_3.length c0_3,.slice A0_4 l0_4.length c0_4,.slice A0_5 l0_5.length c0_5,.slice A0_6 l0_6.length c0_6,.bool a0_7,.bool a0_8] 25 (0,0)) (by (with_reducible repeat (first|refine kn_ ?_ _|refine kd_ ?_|refine ka_ ?_ _));exact BK258.out) hb);have n1_:=A_ (kb_ (g:=gb259) (o:=.cells #[.string a3_0,.string a3_1] 51 (0,0)) (by (with_reducible repeat (first|refine kn_ ?_ _|refine kd_ ?_|refine ka_ ?_ _));exact BK259.out) hb);have n2_:=A_ (bp_ (by repeat (first|(with_reducible first|exact HB.out|apply ba_|apply pd_|apply b1_|refine bs_ ?_ GE258.out|refine bs_ ?_ GE259.out)|exact HB.out)) hb);clear BK258;clear BK259;clear HB;have BK258:=n0_;have BK259:=n1_;have HB:=n2_;clear n0_ n1_ n2_;(try clear hb);(try clear hb2);(try clear hk);(try clear hi))))
           go_ret
           exact ⟨by first|rfl|(simp [errW_none,errW_some] <;> rfl)|(simp [*,errW_none,errW_some] <;> rfl),by repeat (first|(with_reducible first|exact HB.out|apply ba_|apply pd_|apply b1_|refine bs_ ?_ GE258.out|refine bs_ ?_ GE259.out)|exact HB.out)⟩
end Go.Proofs.Ytmeafbneklphnaa.PFnExactAllowsAttr
