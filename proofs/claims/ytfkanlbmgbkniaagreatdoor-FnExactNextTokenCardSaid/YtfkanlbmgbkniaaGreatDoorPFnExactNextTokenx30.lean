/- By a program of this session, out of the kit's print and contracts made by hand: the machine side of a law; Lean checks it. No conditions. -/
import Derived.Test.YtfkanlbmgbkniaaGreatDoorPFnExactNextTokenx0
import Derived.Test.YtfkanlbmgbkniaaGreatDoorPFnExactNextTokenx14
import Derived.Test.YtfkanlbmgbkniaaGreatDoorPFnExactNextTokenx25
import Derived.Test.YtfkanlbmgbkniaaGreatDoorPFnExactNextTokenx27
import Derived.Test.YtfkanlbmgbkniaaGreatDoorPFnExactNextTokenx29
namespace Go.Proofs.YtfkanlbmgbkniaaGreatDoor.PFnExactNextToken
open Go.RowKit Go.Proofs.YtfkanlbmgbkniaaGreatDoorW.PrintWords Go.Proofs.YtfkanlbmgbkniaaGreatDoorW.PrintLast Go.Proofs.YtfkanlbmgbkniaaGreatDoorW.PrintMore
attribute [local go_sem] max2_int min2_int max_two min_two max_three min_three max_four min_four
set_option linter.unusedVariables false
set_option linter.unusedSimpArgs false
/-! ### laws_FnExactNextToken: function 3 -/
mutual
def laws_FnExactNextToken.j0:Nat→ByteArray→Int→ByteArray→Int→Bool→Int→Int→Int→ByteArray→ByteArray→List (S52)→Bool→Int→Int→Int→ByteArray→ByteArray→List (S52)→Bool→Option (Bool)
 | 0,_,_,_,_,_,_,_,_,_,_,_,_,_,_,_,_,_,_,_=>none
 | k+1,x0,x1,x2,x8,x43,x492000,x492001,x492002,x492003,x492004,x492005,x492006,x503000,x503001,x503002,x503003,x503004,x503005,x503006=>if x43=true then (some false) else ((laws_markToken.f k x503000 x503001 x503002 x503003 x503004 x503005 x503006 1).bind fun bt504=>((laws_heldToken.f k x503000 x503001 x503002 x503003 x503004 bt504.2 x503006 1).bind fun t506=>(if t506<0 then (some false) else (if t506=bt504.1 then ((impl_NextToken.f k x0 x1 x2).bind fun bt507=>((laws_eqToken.f k bt507.1 bt507.2.1 bt507.2.2.1 bt507.2.2.2.1 bt507.2.2.2.2.1 bt507.2.2.2.2.2.1 bt507.2.2.2.2.2.2.1 x492000 x492001 x492002 x492003 x492004 x492005 x492006).bind fun t518=>(if t518=true then (laws_FnExactNextToken.j1 k bt504.1 (bt507.2.2.2.2.2.2.2 != x8) x503000 x503001 x503002 x503003 x503004 bt504.2 x503006) else (laws_FnExactNextToken.j1 k bt504.1 true x503000 x503001 x503002 x503003 x503004 bt504.2 x503006)))) else (some false)))))
def laws_FnExactNextToken.j1:Nat→Int→Bool→Int→Int→Int→ByteArray→ByteArray→List (S52)→Bool→Option (Bool)
 | 0,_,_,_,_,_,_,_,_,_=>none
 | k+1,x11,x70,x503000,x503001,x503002,x503003,x503004,x503005,x503006=>if x70=true then (some false) else ((laws_heldToken.f k x503000 x503001 x503002 x503003 x503004 x503005 x503006 1).bind fun t519=>(if t519<0 then (some false) else (if t519=x11 then (some true) else (some false))))
end
def laws_FnExactNextToken.f (k:Nat) (a0:ByteArray) (a1:Int) (a2:ByteArray):Option (Bool):=if (a0.size:Int)>1048576 then (some true) else (if (a2.size:Int)>1048576 then (some true) else ((spec_NextToken.f k a0 a1 a2).bind fun bt481=>((impl_NextToken.f k a0 a1 a2).bind fun bt492=>((laws_eqToken.f k bt492.1 bt492.2.1 bt492.2.2.1 bt492.2.2.2.1 bt492.2.2.2.2.1 bt492.2.2.2.2.2.1 bt492.2.2.2.2.2.2.1 bt481.1 bt481.2.1 bt481.2.2.1 bt481.2.2.2.1 bt481.2.2.2.2.1 bt481.2.2.2.2.2.1 bt481.2.2.2.2.2.2.1).bind fun t503=>(if t503=true then (laws_FnExactNextToken.j0 k a0 a1 a2 bt481.2.2.2.2.2.2.2 (bt492.2.2.2.2.2.2.2 != bt481.2.2.2.2.2.2.2) bt481.1 bt481.2.1 bt481.2.2.1 bt481.2.2.2.1 bt481.2.2.2.2.1 bt481.2.2.2.2.2.1 bt481.2.2.2.2.2.2.1 bt492.1 bt492.2.1 bt492.2.2.1 bt492.2.2.2.1 bt492.2.2.2.2.1 bt492.2.2.2.2.2.1 bt492.2.2.2.2.2.2.1) else (laws_FnExactNextToken.j0 k a0 a1 a2 bt481.2.2.2.2.2.2.2 true bt481.1 bt481.2.1 bt481.2.2.1 bt481.2.2.2.1 bt481.2.2.2.2.1 bt481.2.2.2.2.2.1 bt481.2.2.2.2.2.2.1 bt492.1 bt492.2.1 bt492.2.2.1 bt492.2.2.2.1 bt492.2.2.2.2.1 bt492.2.2.2.2.2.1 bt492.2.2.2.2.2.2.1))))))
theorem laws_FnExactNextToken.mono_l:∀ k,(∀ y0 y1 y2 y3 y4 y5 y6 y7 y8 y9 y10 y11 y12 y13 y14 y15 y16 y17 y18,LeO (laws_FnExactNextToken.j0 k y0 y1 y2 y3 y4 y5 y6 y7 y8 y9 y10 y11 y12 y13 y14 y15 y16 y17 y18) (laws_FnExactNextToken.j0 (k+1) y0 y1 y2 y3 y4 y5 y6 y7 y8 y9 y10 y11 y12 y13 y14 y15 y16 y17 y18))∧(∀ y0 y1 y2 y3 y4 y5 y6 y7 y8,LeO (laws_FnExactNextToken.j1 k y0 y1 y2 y3 y4 y5 y6 y7 y8) (laws_FnExactNextToken.j1 (k+1) y0 y1 y2 y3 y4 y5 y6 y7 y8))
 | 0=>⟨fun _ _ _ _ _ _ _ _ _ _ _ _ _ _ _ _ _ _ _ r h=>by simp [laws_FnExactNextToken.j0] at h,fun _ _ _ _ _ _ _ _ _ r h=>by simp [laws_FnExactNextToken.j1] at h⟩
 | k+1=>by
  obtain ⟨ih0,ih1⟩:=laws_FnExactNextToken.mono_l k
  refine ⟨?_,?_⟩
  ·intro y0 y1 y2 y3 y4 y5 y6 y7 y8 y9 y10 y11 y12 y13 y14 y15 y16 y17 y18
   unfold laws_FnExactNextToken.j0
   repeat' first
   | (with_reducible exact ih0 _ _ _ _ _ _ _ _ _ _ _ _ _ _ _ _ _ _ _)
   | (with_reducible exact ih1 _ _ _ _ _ _ _ _ _)
   | (with_reducible exact impl_NextToken.mono _ _ _ _)
   | (with_reducible exact laws_eqToken.mono _ _ _ _ _ _ _ _ _ _ _ _ _ _ _)
   | (with_reducible exact laws_heldToken.mono _ _ _ _ _ _ _ _ _)
   | (with_reducible exact laws_markToken.mono _ _ _ _ _ _ _ _ _)
   | (with_reducible exact spec_NextToken.mono _ _ _ _)
   | (with_reducible exact LeO.refl _)
   | (with_reducible exact LeO.none _)
   | (with_reducible refine LeO.ite ?_ ?_)
   | (with_reducible refine LeO.bind ?_ (fun _=>?_))
   | exact ih0 _ _ _ _ _ _ _ _ _ _ _ _ _ _ _ _ _ _ _
   | exact ih1 _ _ _ _ _ _ _ _ _
   | exact impl_NextToken.mono _ _ _ _
   | exact laws_eqToken.mono _ _ _ _ _ _ _ _ _ _ _ _ _ _ _
   | exact laws_heldToken.mono _ _ _ _ _ _ _ _ _
   | exact laws_markToken.mono _ _ _ _ _ _ _ _ _
   | exact spec_NextToken.mono _ _ _ _
   | exact LeO.none _
   | refine LeO.ite ?_ ?_
   | refine LeO.bind ?_ (fun _=>?_)
  ·intro y0 y1 y2 y3 y4 y5 y6 y7 y8
   unfold laws_FnExactNextToken.j1
   repeat' first
   | (with_reducible exact ih0 _ _ _ _ _ _ _ _ _ _ _ _ _ _ _ _ _ _ _)
   | (with_reducible exact ih1 _ _ _ _ _ _ _ _ _)
   | (with_reducible exact impl_NextToken.mono _ _ _ _)
   | (with_reducible exact laws_eqToken.mono _ _ _ _ _ _ _ _ _ _ _ _ _ _ _)
   | (with_reducible exact laws_heldToken.mono _ _ _ _ _ _ _ _ _)
   | (with_reducible exact laws_markToken.mono _ _ _ _ _ _ _ _ _)
   | (with_reducible exact spec_NextToken.mono _ _ _ _)
   | (with_reducible exact LeO.refl _)
   | (with_reducible exact LeO.none _)
   | (with_reducible refine LeO.ite ?_ ?_)
   | (with_reducible refine LeO.bind ?_ (fun _=>?_))
   | exact ih0 _ _ _ _ _ _ _ _ _ _ _ _ _ _ _ _ _ _ _
   | exact ih1 _ _ _ _ _ _ _ _ _
   | exact impl_NextToken.mono _ _ _ _
   | exact laws_eqToken.mono _ _ _ _ _ _ _ _ _ _ _ _ _ _ _
   | exact laws_heldToken.mono _ _ _ _ _ _ _ _ _
   | exact laws_markToken.mono _ _ _ _ _ _ _ _ _
   | exact spec_NextToken.mono _ _ _ _
   | exact LeO.none _
   | refine LeO.ite ?_ ?_
   | refine LeO.bind ?_ (fun _=>?_)
theorem laws_FnExactNextToken.mono:∀ a0 a1 a2 k,LeO (laws_FnExactNextToken.f k a0 a1 a2) (laws_FnExactNextToken.f (k+1) a0 a1 a2):=by
 intro a0 a1 a2 k
 obtain ⟨ih0,ih1⟩:=laws_FnExactNextToken.mono_l k
 unfold laws_FnExactNextToken.f
 repeat' first
  | (with_reducible exact ih0 _ _ _ _ _ _ _ _ _ _ _ _ _ _ _ _ _ _ _)
  | (with_reducible exact ih1 _ _ _ _ _ _ _ _ _)
  | (with_reducible exact impl_NextToken.mono _ _ _ _)
  | (with_reducible exact laws_eqToken.mono _ _ _ _ _ _ _ _ _ _ _ _ _ _ _)
  | (with_reducible exact laws_heldToken.mono _ _ _ _ _ _ _ _ _)
  | (with_reducible exact laws_markToken.mono _ _ _ _ _ _ _ _ _)
  | (with_reducible exact spec_NextToken.mono _ _ _ _)
  | (with_reducible exact LeO.refl _)
  | (with_reducible exact LeO.none _)
  | (with_reducible refine LeO.ite ?_ ?_)
  | (with_reducible refine LeO.bind ?_ (fun _=>?_))
  | exact ih0 _ _ _ _ _ _ _ _ _ _ _ _ _ _ _ _ _ _ _
  | exact ih1 _ _ _ _ _ _ _ _ _
  | exact impl_NextToken.mono _ _ _ _
  | exact laws_eqToken.mono _ _ _ _ _ _ _ _ _ _ _ _ _ _ _
  | exact laws_heldToken.mono _ _ _ _ _ _ _ _ _
  | exact laws_markToken.mono _ _ _ _ _ _ _ _ _
  | exact spec_NextToken.mono _ _ _ _
  | exact LeO.none _
  | refine LeO.ite ?_ ?_
  | refine LeO.bind ?_ (fun _=>?_)
set_option maxHeartbeats 8000000 in
set_option maxRecDepth 100000 in
theorem laws_FnExactNextToken.calls (k:Nat) (a0:ByteArray) (a1:Int) (a2:ByteArray) (r:Bool) (w:World) (hL:Laid w) (h:laws_FnExactNextToken.f k a0 a1 a2=some r) (HRT:Aside0 (r=true)) :
 Calls Tryz.prog 3 #[.string a0,.int .i64 a1,.string a2] w fun e w'=>e=.returned (.bool r)∧Below w.heap.size w w':=by
 have hu24:=Tryz.underlying24
 have HB:=A_ (Below.refl w.heap.size w)
 have HL:=A_ hL
 clear hL
 have H:(if (a0.size:Int)>1048576 then (some true) else (if (a2.size:Int)>1048576 then (some true) else ((spec_NextToken.f k a0 a1 a2).bind fun bt481=>((impl_NextToken.f k a0 a1 a2).bind fun bt492=>((laws_eqToken.f k bt492.1 bt492.2.1 bt492.2.2.1 bt492.2.2.2.1 bt492.2.2.2.2.1 bt492.2.2.2.2.2.1 bt492.2.2.2.2.2.2.1 bt481.1 bt481.2.1 bt481.2.2.1 bt481.2.2.2.1 bt481.2.2.2.2.1 bt481.2.2.2.2.2.1 bt481.2.2.2.2.2.2.1).bind fun t503=>(if t503=true then (laws_FnExactNextToken.j0 k a0 a1 a2 bt481.2.2.2.2.2.2.2 (bt492.2.2.2.2.2.2.2 != bt481.2.2.2.2.2.2.2) bt481.1 bt481.2.1 bt481.2.2.1 bt481.2.2.2.1 bt481.2.2.2.2.1 bt481.2.2.2.2.2.1 bt481.2.2.2.2.2.2.1 bt492.1 bt492.2.1 bt492.2.2.1 bt492.2.2.2.1 bt492.2.2.2.2.1 bt492.2.2.2.2.2.1 bt492.2.2.2.2.2.2.1) else (laws_FnExactNextToken.j0 k a0 a1 a2 bt481.2.2.2.2.2.2.2 true bt481.1 bt481.2.1 bt481.2.2.1 bt481.2.2.2.1 bt481.2.2.2.2.1 bt481.2.2.2.2.2.1 bt481.2.2.2.2.2.2.1 bt492.1 bt492.2.1 bt492.2.2.1 bt492.2.2.2.1 bt492.2.2.2.2.1 bt492.2.2.2.2.2.1 bt492.2.2.2.2.2.2.1)))))))=some r:=h
 clear h
 by_cases c4:(a0.size:Int)>1048576
 ·rw [if_pos c4] at H
  have c4b0:decide (1048576<(a0.size:Int))=true:=dt_ c4
  have c4b1:decide (1048576<a0.size)=true:=dt_ (by omega)
  clear c4
  obtain rfl:=oi_ H
  go_enter Tryz.func3,Tryz.ntmps3
  go_wp2
  go_ret
  exact ⟨by first|rfl|(simp [errW_none,errW_some] <;> rfl)|(simp [*,errW_none,errW_some] <;> rfl),bq0_ HB.out⟩
 ·rw [if_neg c4] at H
  have c4b0:decide (1048576<(a0.size:Int))=false:=df_ c4
  have c4b1:decide (1048576<a0.size)=false:=df_ (by omega)
  clear c4
  by_cases c5:(a2.size:Int)>1048576
  ·rw [if_pos c5] at H
   have c5b0:decide (1048576<(a2.size:Int))=true:=dt_ c5
   have c5b1:decide (1048576<a2.size)=true:=dt_ (by omega)
   clear c5
   obtain rfl:=oi_ H
   go_enter Tryz.func3,Tryz.ntmps3
   go_wp2
   go_ret
   exact ⟨by first|rfl|(simp [errW_none,errW_some] <;> rfl)|(simp [*,errW_none,errW_some] <;> rfl),bq0_ HB.out⟩
  ·rw [if_neg c5] at H
   have c5b0:decide (1048576<(a2.size:Int))=false:=df_ c5
   have c5b1:decide (1048576<a2.size)=false:=df_ (by omega)
   clear c5
   replace H:=ob_ H
   obtain ⟨⟨t481,t482,t483,t484,t485,t486,t489,t490⟩,A60,H⟩:=H
   replace H:((impl_NextToken.f k a0 a1 a2).bind fun bt492=>((laws_eqToken.f k bt492.1 bt492.2.1 bt492.2.2.1 bt492.2.2.2.1 bt492.2.2.2.2.1 bt492.2.2.2.2.2.1 bt492.2.2.2.2.2.2.1 t481 t482 t483 t484 t485 t486 t489).bind fun t503=>(if t503=true then (laws_FnExactNextToken.j0 k a0 a1 a2 t490 (bt492.2.2.2.2.2.2.2 != t490) t481 t482 t483 t484 t485 t486 t489 bt492.1 bt492.2.1 bt492.2.2.1 bt492.2.2.2.1 bt492.2.2.2.2.1 bt492.2.2.2.2.2.1 bt492.2.2.2.2.2.2.1) else (laws_FnExactNextToken.j0 k a0 a1 a2 t490 true t481 t482 t483 t484 t485 t486 t489 bt492.1 bt492.2.1 bt492.2.2.1 bt492.2.2.2.1 bt492.2.2.2.2.1 bt492.2.2.2.2.2.1 bt492.2.2.2.2.2.2.1))))=some r:=H
   have A6:=A_ A60
   clear A60
   replace H:=ob_ H
   obtain ⟨⟨t492,t493,t494,t495,t496,t497,t500,t501⟩,A70,H⟩:=H
   replace H:((laws_eqToken.f k t492 t493 t494 t495 t496 t497 t500 t481 t482 t483 t484 t485 t486 t489).bind fun t503=>(if t503=true then (laws_FnExactNextToken.j0 k a0 a1 a2 t490 (t501 != t490) t481 t482 t483 t484 t485 t486 t489 t492 t493 t494 t495 t496 t497 t500) else (laws_FnExactNextToken.j0 k a0 a1 a2 t490 true t481 t482 t483 t484 t485 t486 t489 t492 t493 t494 t495 t496 t497 t500)))=some r:=H
   have A7:=A_ A70
   clear A70
   have HC8:=A_ H
   clear H
   go_enter Tryz.func3,Tryz.ntmps3
   go_upto_region 7 with (first|((with_reducible refine gate_callee (f:=5) rfl ?_);refine gl_ (some 25) rfl rfl Tryz.func5 (by kernel_rfl) rfl #[.string a0,.int .i64 a1,.string a2] rfl  ?_;(with_reducible refine (spec_NextToken.calls k a0 a1 a2 t481 t482 t483 t484 t485 t486 t489 t490 _ A6.out).mono ?_);rintro e w9 ⟨v487,rfl,ho0,hb⟩;refine ⟨_,rfl,?_⟩;have n0_:=A_ (Kd.R_lower ho0 (bz_ (bq0_ HB.out)));have n1_:=A_ (bp_ (bq0_ HB.out) hb);clear HB;have HO488:=n0_;have HB:=n1_;clear n0_ n1_;(try clear hb);(try clear hb2);(try clear hk);(try clear hi);(try clear ho0))|((with_reducible refine gate_dst (N:=7) rfl ?_);refine box_event ?hg (N:=7) ?hd (cs:=#[.int .i64 0,.int .i64 0,.int .i64 0,.string (⟨#[]⟩:ByteArray),.string (⟨#[]⟩:ByteArray),.slice none 0 0,.bool false]) (t:=24) ?hr ?_;(case hd=>rfl);(case hg=>rfl);(case hr=>first|(go_simp;done)|(go_simp;rfl)|((first|(obtain ⟨_,_,rfl⟩:=Kd.R_slice HO488.out)|(obtain ⟨_,_,rfl⟩:=Kd.S_slice HO488.out)|skip);first|(go_simp;done)|(go_simp;rfl)));intro gb491 hg w10 hbox hb;have n0_:=A_ (Kd.R_below (rq_ HO488.out) hb);have n1_:=A_ (bp_ (bq0_ HB.out) hb);have n2_:=A_ (hbox);have n3_:=A_ ((by rw [hg];exact (bz_ (bq0_ HB.out)):w.heap.size≤gb491));have n4_:=A_ ((by rw [hg];exact (bz_ (bq0_ HB.out)):w.heap.size≤gb491));clear HO488;clear HB;have HO488:=n0_;have HB:=n1_;have BK491:=n2_;have GW491:=n3_;have GE491:=n4_;clear n0_ n1_ n2_ n3_ n4_;clear hb hbox hg;obtain ⟨hcz11_0,hcz11_1,hcz11_2,hcz11_3,hcz11_4,hcz11_5,hcz11_6,hfz11_0,hfz11_1,hfz11_2,hfz11_3,hfz11_4,hfz11_5,hfz11_6⟩:=g7_ BK491.out;obtain ⟨Ao12,co12,eo12⟩:=Kd.R_slice HO488.out;subst eo12)|((with_reducible refine gate_callee (f:=6) rfl ?_);refine gl_ (some 32) rfl rfl Tryz.func6 (by kernel_rfl) rfl #[.string a0,.int .i64 a1,.string a2] rfl  ?_;(with_reducible refine (impl_NextToken.calls k a0 a1 a2 t492 t493 t494 t495 t496 t497 t500 t501 _ ?sideL A7.out).mono ?_);(case sideL=>exact HL.out.below (bq1_ HB.out GE491.out));rintro e w13 ⟨v498,rfl,ho0,hb⟩;refine ⟨_,rfl,?_⟩;have n0_:=A_ (Kd.R_elder' (by (with_reducible repeat (first|apply Kd.R_alloc|apply Kd.R_drewN|apply Kd.R_drew));exact (Kd.R_mono (f7_ (g:=gb491) (Kd.R_types HO488.out BK491.out (by decide)) (fun _ hk=>hk.2) (.int .i64 t481) (.int .i64 t482) (.int .i64 t483) (.string t484) (.string t485) (.slice Ao12 t486.length co12) (.bool t489)) (fun _ h_=>h_.1))) (Kd.R_base ho0) hb);have n1_:=A_ (Kd.R_lower (Kd.R_new' ho0 (Kd.R_lt (by (with_reducible repeat (first|apply Kd.R_alloc|apply Kd.R_drewN|apply Kd.R_drew));exact (Kd.R_mono (f7_ (g:=gb491) (Kd.R_types HO488.out BK491.out (by decide)) (fun _ hk=>hk.2) (.int .i64 t481) (.int .i64 t482) (.int .i64 t483) (.string t484) (.string t485) (.slice Ao12 t486.length co12) (.bool t489)) (fun _ h_=>h_.1))))) (bz_ (bq1_ HB.out GE491.out)));have n2_:=A_ (kb_ (g:=gb491) (o:=.cells #[.int .i64 t481,.int .i64 t482,.int .i64 t483,.string t484,.string t485,.slice Ao12 t486.length co12,.bool t489] 24 (0,0)) (by (with_reducible repeat first|apply kn_|apply kd_|apply ka_);exact p7_ (kq_ BK491.out)) hb);have n3_:=A_ (bp_ (bq1_ HB.out GE491.out) hb);clear HO488;clear BK491;clear HB;have HO488:=n0_;have HO499:=n1_;have BK491:=n2_;have HB:=n3_;clear n0_ n1_ n2_ n3_;(try clear hb);(try clear hb2);(try clear hk);(try clear hi);(try clear ho0))|((with_reducible refine gate_dst (N:=9) rfl ?_);refine box_event ?hg (N:=9) ?hd (cs:=#[.int .i64 0,.int .i64 0,.int .i64 0,.string (⟨#[]⟩:ByteArray),.string (⟨#[]⟩:ByteArray),.slice none 0 0,.bool false]) (t:=24) ?hr ?_;(case hd=>rfl);(case hg=>rfl);(case hr=>first|(go_simp;done)|(go_simp;rfl)|((first|(obtain ⟨_,_,rfl⟩:=Kd.R_slice HO488.out)|(obtain ⟨_,_,rfl⟩:=Kd.S_slice HO488.out)|skip);(first|(obtain ⟨_,_,rfl⟩:=Kd.R_slice HO499.out)|(obtain ⟨_,_,rfl⟩:=Kd.S_slice HO499.out)|skip);first|(go_simp;done)|(go_simp;rfl)));intro gb502 hg w14 hbox hb;have n0_:=A_ (Kd.R_below (rq_ HO488.out) hb);have n1_:=A_ (Kd.R_below (rq_ HO499.out) hb);have n2_:=A_ (kb_ (g:=gb491) (o:=.cells #[.int .i64 t481,.int .i64 t482,.int .i64 t483,.string t484,.string t485,.slice Ao12 t486.length co12,.bool t489] 24 (0,0)) (kq_ BK491.out) hb);have n3_:=A_ (bp_ (bq1_ HB.out GE491.out) hb);have n4_:=A_ (hbox);have n5_:=A_ ((by rw [hg];exact (bz_ (bq1_ HB.out GE491.out)):w.heap.size≤gb502));have n6_:=A_ ((by rw [hg];exact (bz_ (bq1_ HB.out GE491.out)):w.heap.size≤gb502));have n7_:=A_ ((by rw [hg];exact Nat.ne_of_lt (blk_lt (g:=gb491) (o:=.cells #[.int .i64 t481,.int .i64 t482,.int .i64 t483,.string t484,.string t485,.slice Ao12 t486.length co12,.bool t489] 24 (0,0)) (kq_ BK491.out)):gb491≠gb502));have n8_:=A_ ((by rw [hg];exact Nat.ne_of_gt (blk_lt (g:=gb491) (o:=.cells #[.int .i64 t481,.int .i64 t482,.int .i64 t483,.string t484,.string t485,.slice Ao12 t486.length co12,.bool t489] 24 (0,0)) (kq_ BK491.out)):gb502≠gb491));clear HO488;clear HO499;clear BK491;clear HB;have HO488:=n0_;have HO499:=n1_;have BK491:=n2_;have HB:=n3_;have BK502:=n4_;have GW502:=n5_;have GE502:=n6_;have NB491_502:=n7_;have NB502_491:=n8_;clear n0_ n1_ n2_ n3_ n4_ n5_ n6_ n7_ n8_;clear hb hbox hg;have hnb15:=NB502_491.out;have hnc15:=NB491_502.out;obtain ⟨hcz16_0,hcz16_1,hcz16_2,hcz16_3,hcz16_4,hcz16_5,hcz16_6,hfz16_0,hfz16_1,hfz16_2,hfz16_3,hfz16_4,hfz16_5,hfz16_6⟩:=g7_ BK502.out;obtain ⟨Ao17,co17,eo17⟩:=Kd.R_slice HO499.out;subst eo17))
   (try simp only [Act.put,ls_,lz_,lc_])
   go_cut [43] (fun v43 wc=>∃ (kq:Nat) (x43_7:Bool),v43=.bool x43_7∧Aside0 (laws_FnExactNextToken.j0 kq a0 a1 a2 t490 x43_7 t481 t482 t483 t484 t485 t486 t489 t492 t493 t494 t495 t496 t497 t500=some r)∧Aside0 (kq≤k)∧Aside0 (Kd.R k52 52 wc w.heap.size (fun k_=>some k_≠((.slice Ao17 t497.length co17):Value).ownBlock) (.slice Ao12 t486.length co12) t486)∧Aside0 (Kd.R k52 52 wc w.heap.size (fun k_=>some k_≠((.slice Ao12 t486.length co12):Value).ownBlock) (.slice Ao17 t497.length co17) t497)∧Aside0 (wc.heap[gb491]? = some (.cells #[.int .i64 t481,.int .i64 t482,.int .i64 t483,.string t484,.string t485,(.slice Ao12 t486.length co12),.bool t489] 24 (0,0)))∧Aside0 (wc.heap[gb502]? = some (.cells #[.int .i64 t492,.int .i64 t493,.int .i64 t494,.string t495,.string t496,(.slice Ao17 t497.length co17),.bool t500] 24 (0,0)))∧Aside0 (Below w.heap.size w wc))
   case first =>
    have H:=HC8.out
    clear HC8
    replace H:=ob_ H
    obtain ⟨t503,A180,H⟩:=H
    replace H:(if t503=true then (laws_FnExactNextToken.j0 k a0 a1 a2 t490 (t501 != t490) t481 t482 t483 t484 t485 t486 t489 t492 t493 t494 t495 t496 t497 t500) else (laws_FnExactNextToken.j0 k a0 a1 a2 t490 true t481 t482 t483 t484 t485 t486 t489 t492 t493 t494 t495 t496 t497 t500))=some r:=H
    have A18:=A_ A180
    clear A180
    by_cases c19:t503=true
    ·subst c19
     have H1:(laws_FnExactNextToken.j0 k a0 a1 a2 t490 (t501 != t490) t481 t482 t483 t484 t485 t486 t489 t492 t493 t494 t495 t496 t497 t500)=some r:=by rw [if_pos rfl] at H;exact H
     clear H
     have H:=H1
     clear H1
     have H':=A_ H
     clear H
     have hnb20:=NB502_491.out
     have hnc20:=NB491_502.out
     obtain ⟨hcz21_0,hcz21_1,hcz21_2,hcz21_3,hcz21_4,hcz21_5,hcz21_6,hfz21_0,hfz21_1,hfz21_2,hfz21_3,hfz21_4,hfz21_5,hfz21_6⟩:=g7_ BK502.out
     obtain ⟨hcz22_0,hcz22_1,hcz22_2,hcz22_3,hcz22_4,hcz22_5,hcz22_6,hfz22_0,hfz22_1,hfz22_2,hfz22_3,hfz22_4,hfz22_5,hfz22_6⟩:=g7_ BK491.out
     go_wp2_with (first|((with_reducible refine gate_callee (f:=7) rfl ?_);refine gl_ (some 37) rfl rfl Tryz.func7 (by kernel_rfl) rfl #[.agg #[.int .i64 t492,.int .i64 t493,.int .i64 t494,.string t495,.string t496,.slice Ao17 t497.length co17,.bool t500],.agg #[.int .i64 t481,.int .i64 t482,.int .i64 t483,.string t484,.string t485,.slice Ao12 t486.length co12,.bool t489]] rfl  ?_;(with_reducible refine (laws_eqToken.calls k t492 t493 t494 t495 t496 _ _ t497 t500 t481 t482 t483 t484 t485 _ _ t486 t489 true _ ?side1 ?side2 ?side3 ?side4 A18.out).mono ?_);(case side1=>refine (Kd.R_reads' (e:=52) (base:=w.heap.size) (ok:=fun k_=>(True∧some k_≠(.slice Ao12 t486.length co12:Value).ownBlock)) (n:=t497.length) (c:=co17) ?_).2.2;exact (by (with_reducible repeat (first|apply Kd.R_alloc|apply Kd.R_drewN|apply Kd.R_drew));exact (Kd.R_mono (f7_ (g:=gb502) (Kd.R_types HO499.out BK502.out (by decide)) (fun _ hk=>hk.2) (.int .i64 t492) (.int .i64 t493) (.int .i64 t494) (.string t495) (.string t496) (.slice Ao17 t497.length co17) (.bool t500)) (fun _ h_=>h_.1))));(case side2=>exact (Kd.R_reads' HO499.out).2.1);(case side3=>refine (Kd.R_reads' (e:=52) (base:=w.heap.size) (ok:=fun k_=>(True∧some k_≠(.slice Ao17 t497.length co17:Value).ownBlock)) (n:=t486.length) (c:=co12) ?_).2.2;exact (by (with_reducible repeat (first|apply Kd.R_alloc|apply Kd.R_drewN|apply Kd.R_drew));exact (Kd.R_mono (f7_ (g:=gb502) (Kd.R_types HO488.out BK502.out (by decide)) (fun _ hk=>hk.2) (.int .i64 t492) (.int .i64 t493) (.int .i64 t494) (.string t495) (.string t496) (.slice Ao17 t497.length co17) (.bool t500)) (fun _ h_=>h_.1))));(case side4=>exact (Kd.R_reads' HO488.out).2.1);rintro e w23 ⟨rfl,hb⟩;refine ⟨_,rfl,?_⟩;have n0_:=A_ (Kd.R_below (by (with_reducible repeat (first|apply Kd.R_alloc|apply Kd.R_drewN|apply Kd.R_drew));exact (Kd.R_mono (f7_ (g:=gb502) (Kd.R_types HO488.out BK502.out (by decide)) (fun _ hk=>hk.2) (.int .i64 t492) (.int .i64 t493) (.int .i64 t494) (.string t495) (.string t496) (.slice Ao17 t497.length co17) (.bool t500)) (fun _ h_=>h_.1))) hb);have n1_:=A_ (Kd.R_below (by (with_reducible repeat (first|apply Kd.R_alloc|apply Kd.R_drewN|apply Kd.R_drew));exact (Kd.R_mono (f7_ (g:=gb502) (Kd.R_types HO499.out BK502.out (by decide)) (fun _ hk=>hk.2) (.int .i64 t492) (.int .i64 t493) (.int .i64 t494) (.string t495) (.string t496) (.slice Ao17 t497.length co17) (.bool t500)) (fun _ h_=>h_.1))) hb);have n2_:=A_ (kb_ (g:=gb491) (o:=.cells #[.int .i64 t481,.int .i64 t482,.int .i64 t483,.string t484,.string t485,.slice Ao12 t486.length co12,.bool t489] 24 (0,0)) (by (repeat first|(with_reducible first|apply kn_|apply kd_|apply ka_)|refine blk_far ?_ NB491_502.out _);exact BK491.out) hb);have n3_:=A_ (kb_ (g:=gb502) (o:=.cells #[.int .i64 t492,.int .i64 t493,.int .i64 t494,.string t495,.string t496,.slice Ao17 t497.length co17,.bool t500] 24 (0,0)) (by (with_reducible repeat first|apply kn_|apply kd_|apply ka_);exact p7_ (kq_ BK502.out)) hb);have n4_:=A_ (bp_ (bq2_ HB.out GE491.out GE502.out) hb);clear HO488;clear HO499;clear BK491;clear BK502;clear HB;have HO488:=n0_;have HO499:=n1_;have BK491:=n2_;have BK502:=n3_;have HB:=n4_;clear n0_ n1_ n2_ n3_ n4_;(try clear hb);(try clear hb2);(try clear hk);(try clear hi)))
     go_meet
     case rel=>exact ⟨_,((t501 != t490)),(by first|rfl|(simp;done)|(simp [*];done)),H',⟨by first|omega|exact Nat.le_refl _⟩,⟨by (with_reducible repeat (first|apply Kd.R_alloc|apply Kd.R_drewN|apply Kd.R_drew));exact Kd.R_mono HO488.out (fun _ hk=>hk.2)⟩,⟨by (with_reducible repeat (first|apply Kd.R_alloc|apply Kd.R_drewN|apply Kd.R_drew));exact Kd.R_mono HO499.out (fun _ hk=>hk.2)⟩,⟨kq_ BK491.out⟩,⟨kq_ BK502.out⟩,⟨bq2_ HB.out GE491.out GE502.out⟩⟩
    ·replace c19:=bm_ c19
     subst c19
     have H1:(laws_FnExactNextToken.j0 k a0 a1 a2 t490 true t481 t482 t483 t484 t485 t486 t489 t492 t493 t494 t495 t496 t497 t500)=some r:=by rw [if_neg (show ¬ (false=true) by decide)] at H;exact H
     clear H
     have H:=H1
     clear H1
     have H':=A_ H
     clear H
     have hnb24:=NB502_491.out
     have hnc24:=NB491_502.out
     obtain ⟨hcz25_0,hcz25_1,hcz25_2,hcz25_3,hcz25_4,hcz25_5,hcz25_6,hfz25_0,hfz25_1,hfz25_2,hfz25_3,hfz25_4,hfz25_5,hfz25_6⟩:=g7_ BK502.out
     obtain ⟨hcz26_0,hcz26_1,hcz26_2,hcz26_3,hcz26_4,hcz26_5,hcz26_6,hfz26_0,hfz26_1,hfz26_2,hfz26_3,hfz26_4,hfz26_5,hfz26_6⟩:=g7_ BK491.out
     go_wp2_with (first|((with_reducible refine gate_callee (f:=7) rfl ?_);refine gl_ (some 37) rfl rfl Tryz.func7 (by kernel_rfl) rfl #[.agg #[.int .i64 t492,.int .i64 t493,.int .i64 t494,.string t495,.string t496,.slice Ao17 t497.length co17,.bool t500],.agg #[.int .i64 t481,.int .i64 t482,.int .i64 t483,.string t484,.string t485,.slice Ao12 t486.length co12,.bool t489]] rfl  ?_;(with_reducible refine (laws_eqToken.calls k t492 t493 t494 t495 t496 _ _ t497 t500 t481 t482 t483 t484 t485 _ _ t486 t489 false _ ?side1 ?side2 ?side3 ?side4 A18.out).mono ?_);(case side1=>refine (Kd.R_reads' (e:=52) (base:=w.heap.size) (ok:=fun k_=>(True∧some k_≠(.slice Ao12 t486.length co12:Value).ownBlock)) (n:=t497.length) (c:=co17) ?_).2.2;exact (by (with_reducible repeat (first|apply Kd.R_alloc|apply Kd.R_drewN|apply Kd.R_drew));exact (Kd.R_mono (f7_ (g:=gb502) (Kd.R_types HO499.out BK502.out (by decide)) (fun _ hk=>hk.2) (.int .i64 t492) (.int .i64 t493) (.int .i64 t494) (.string t495) (.string t496) (.slice Ao17 t497.length co17) (.bool t500)) (fun _ h_=>h_.1))));(case side2=>exact (Kd.R_reads' HO499.out).2.1);(case side3=>refine (Kd.R_reads' (e:=52) (base:=w.heap.size) (ok:=fun k_=>(True∧some k_≠(.slice Ao17 t497.length co17:Value).ownBlock)) (n:=t486.length) (c:=co12) ?_).2.2;exact (by (with_reducible repeat (first|apply Kd.R_alloc|apply Kd.R_drewN|apply Kd.R_drew));exact (Kd.R_mono (f7_ (g:=gb502) (Kd.R_types HO488.out BK502.out (by decide)) (fun _ hk=>hk.2) (.int .i64 t492) (.int .i64 t493) (.int .i64 t494) (.string t495) (.string t496) (.slice Ao17 t497.length co17) (.bool t500)) (fun _ h_=>h_.1))));(case side4=>exact (Kd.R_reads' HO488.out).2.1);rintro e w27 ⟨rfl,hb⟩;refine ⟨_,rfl,?_⟩;have n0_:=A_ (Kd.R_below (by (with_reducible repeat (first|apply Kd.R_alloc|apply Kd.R_drewN|apply Kd.R_drew));exact (Kd.R_mono (f7_ (g:=gb502) (Kd.R_types HO488.out BK502.out (by decide)) (fun _ hk=>hk.2) (.int .i64 t492) (.int .i64 t493) (.int .i64 t494) (.string t495) (.string t496) (.slice Ao17 t497.length co17) (.bool t500)) (fun _ h_=>h_.1))) hb);have n1_:=A_ (Kd.R_below (by (with_reducible repeat (first|apply Kd.R_alloc|apply Kd.R_drewN|apply Kd.R_drew));exact (Kd.R_mono (f7_ (g:=gb502) (Kd.R_types HO499.out BK502.out (by decide)) (fun _ hk=>hk.2) (.int .i64 t492) (.int .i64 t493) (.int .i64 t494) (.string t495) (.string t496) (.slice Ao17 t497.length co17) (.bool t500)) (fun _ h_=>h_.1))) hb);have n2_:=A_ (kb_ (g:=gb491) (o:=.cells #[.int .i64 t481,.int .i64 t482,.int .i64 t483,.string t484,.string t485,.slice Ao12 t486.length co12,.bool t489] 24 (0,0)) (by (repeat first|(with_reducible first|apply kn_|apply kd_|apply ka_)|refine blk_far ?_ NB491_502.out _);exact BK491.out) hb);have n3_:=A_ (kb_ (g:=gb502) (o:=.cells #[.int .i64 t492,.int .i64 t493,.int .i64 t494,.string t495,.string t496,.slice Ao17 t497.length co17,.bool t500] 24 (0,0)) (by (with_reducible repeat first|apply kn_|apply kd_|apply ka_);exact p7_ (kq_ BK502.out)) hb);have n4_:=A_ (bp_ (bq2_ HB.out GE491.out GE502.out) hb);clear HO488;clear HO499;clear BK491;clear BK502;clear HB;have HO488:=n0_;have HO499:=n1_;have BK491:=n2_;have BK502:=n3_;have HB:=n4_;clear n0_ n1_ n2_ n3_ n4_;(try clear hb);(try clear hb2);(try clear hk);(try clear hi)))
     go_meet
     case rel=>exact ⟨_,(true),(by first|rfl|(simp;done)|(simp [*];done)),H',⟨by first|omega|exact Nat.le_refl _⟩,⟨by (with_reducible repeat (first|apply Kd.R_alloc|apply Kd.R_drewN|apply Kd.R_drew));exact Kd.R_mono HO488.out (fun _ hk=>hk.2)⟩,⟨by (with_reducible repeat (first|apply Kd.R_alloc|apply Kd.R_drewN|apply Kd.R_drew));exact Kd.R_mono HO499.out (fun _ hk=>hk.2)⟩,⟨kq_ BK491.out⟩,⟨kq_ BK502.out⟩,⟨bq2_ HB.out GE491.out GE502.out⟩⟩
   case rest =>
    clear HC8
    try clear c1
    try clear c2
    try clear p2
    try clear c3
    try clear c4
    try clear c4b0
    try clear c4b1
    try clear c5
    try clear c5b0
    try clear c5b1
    try clear c6
    try clear c7
    try clear c15
    try clear c19
    try clear c20
    try clear c24
    try clear hcz11_0
    try clear hcz11_1
    try clear hcz11_2
    try clear hcz11_3
    try clear hcz11_4
    try clear hcz11_5
    try clear hcz11_6
    try clear hcz16_0
    try clear hcz16_1
    try clear hcz16_2
    try clear hcz16_3
    try clear hcz16_4
    try clear hcz16_5
    try clear hcz16_6
    try clear hcz21_0
    try clear hcz21_1
    try clear hcz21_2
    try clear hcz21_3
    try clear hcz21_4
    try clear hcz21_5
    try clear hcz21_6
    try clear hcz22_0
    try clear hcz22_1
    try clear hcz22_2
    try clear hcz22_3
    try clear hcz22_4
    try clear hcz22_5
    try clear hcz22_6
    try clear hcz25_0
    try clear hcz25_1
    try clear hcz25_2
    try clear hcz25_3
    try clear hcz25_4
    try clear hcz25_5
    try clear hcz25_6
    try clear hcz26_0
    try clear hcz26_1
    try clear hcz26_2
    try clear hcz26_3
    try clear hcz26_4
    try clear hcz26_5
    try clear hcz26_6
    try clear hfz11_0
    try clear hfz11_1
    try clear hfz11_2
    try clear hfz11_3
    try clear hfz11_4
    try clear hfz11_5
    try clear hfz11_6
    try clear hfz16_0
    try clear hfz16_1
    try clear hfz16_2
    try clear hfz16_3
    try clear hfz16_4
    try clear hfz16_5
    try clear hfz16_6
    try clear hfz21_0
    try clear hfz21_1
    try clear hfz21_2
    try clear hfz21_3
    try clear hfz21_4
    try clear hfz21_5
    try clear hfz21_6
    try clear hfz22_0
    try clear hfz22_1
    try clear hfz22_2
    try clear hfz22_3
    try clear hfz22_4
    try clear hfz22_5
    try clear hfz22_6
    try clear hfz25_0
    try clear hfz25_1
    try clear hfz25_2
    try clear hfz25_3
    try clear hfz25_4
    try clear hfz25_5
    try clear hfz25_6
    try clear hfz26_0
    try clear hfz26_1
    try clear hfz26_2
    try clear hfz26_3
    try clear hfz26_4
    try clear hfz26_5
    try clear hfz26_6
    obtain ⟨kq,x43_7,rfl,HA,HJ7,HO_492005,HO_503005,BK491,BK502,HB⟩:=hcut
    cases kq with
    | zero=>exact absurd HA.out (by simp [laws_FnExactNextToken.j0])
    | succ kj7 =>
     have H:=HA.out
     clear HA
     simp only [laws_FnExactNextToken.j0] at H
     by_cases c28:x43_7=true
     ·subst c28
      have H1:(some false)=some r:=by rw [if_pos rfl] at H;exact H
      clear H
      have H:=H1
      clear H1
      exact absurd ((oi_ H).trans HRT.out) (by decide)
     ·replace c28:=bm_ c28
      subst c28
      have H1:((laws_markToken.f kj7 t492 t493 t494 t495 t496 t497 t500 1).bind fun bt504=>((laws_heldToken.f kj7 t492 t493 t494 t495 t496 bt504.2 t500 1).bind fun t506=>(if t506<0 then (some false) else (if t506=bt504.1 then ((impl_NextToken.f kj7 a0 a1 a2).bind fun bt507=>((laws_eqToken.f kj7 bt507.1 bt507.2.1 bt507.2.2.1 bt507.2.2.2.1 bt507.2.2.2.2.1 bt507.2.2.2.2.2.1 bt507.2.2.2.2.2.2.1 t481 t482 t483 t484 t485 t486 t489).bind fun t518=>(if t518=true then (laws_FnExactNextToken.j1 kj7 bt504.1 (bt507.2.2.2.2.2.2.2 != t490) t492 t493 t494 t495 t496 bt504.2 t500) else (laws_FnExactNextToken.j1 kj7 bt504.1 true t492 t493 t494 t495 t496 bt504.2 t500)))) else (some false)))))=some r:=by rw [if_neg (show ¬ (false=true) by decide)] at H;exact H
      clear H
      have H:=H1
      clear H1
      replace H:=ob_ H
      obtain ⟨⟨t504,t505⟩,A290,H⟩:=H
      replace H:((laws_heldToken.f kj7 t492 t493 t494 t495 t496 t505 t500 1).bind fun t506=>(if t506<0 then (some false) else (if t506=t504 then ((impl_NextToken.f kj7 a0 a1 a2).bind fun bt507=>((laws_eqToken.f kj7 bt507.1 bt507.2.1 bt507.2.2.1 bt507.2.2.2.1 bt507.2.2.2.2.1 bt507.2.2.2.2.2.1 bt507.2.2.2.2.2.2.1 t481 t482 t483 t484 t485 t486 t489).bind fun t518=>(if t518=true then (laws_FnExactNextToken.j1 kj7 t504 (bt507.2.2.2.2.2.2.2 != t490) t492 t493 t494 t495 t496 t505 t500) else (laws_FnExactNextToken.j1 kj7 t504 true t492 t493 t494 t495 t496 t505 t500)))) else (some false))))=some r:=H
      have A29:=A_ A290
      clear A290
      replace H:=ob_ H
      obtain ⟨t506,A300,H⟩:=H
      replace H:(if t506<0 then (some false) else (if t506=t504 then ((impl_NextToken.f kj7 a0 a1 a2).bind fun bt507=>((laws_eqToken.f kj7 bt507.1 bt507.2.1 bt507.2.2.1 bt507.2.2.2.1 bt507.2.2.2.2.1 bt507.2.2.2.2.2.1 bt507.2.2.2.2.2.2.1 t481 t482 t483 t484 t485 t486 t489).bind fun t518=>(if t518=true then (laws_FnExactNextToken.j1 kj7 t504 (bt507.2.2.2.2.2.2.2 != t490) t492 t493 t494 t495 t496 t505 t500) else (laws_FnExactNextToken.j1 kj7 t504 true t492 t493 t494 t495 t496 t505 t500)))) else (some false)))=some r:=H
      have A30:=A_ A300
      clear A300
      by_cases c31:t506<0
      ·rw [if_pos c31] at H
       have c31b0:decide (t506<0)=true:=dt_ c31
       clear c31
       exact absurd ((oi_ H).trans HRT.out) (by decide)
      ·rw [if_neg c31] at H
       have c31b0:decide (t506<0)=false:=df_ c31
       clear c31
       by_cases c32:t506=t504
       ·rw [if_pos c32] at H
        have c32b0:(t506 == t504)=true:=beq_iff_eq.mpr c32
        have c32b1:(t506 != t504)=false:=bne_eq_false_iff_eq.mpr c32
        clear c32
        replace H:=ob_ H
        obtain ⟨⟨t507,t508,t509,t510,t511,t512,t515,t516⟩,A330,H⟩:=H
        replace H:((laws_eqToken.f kj7 t507 t508 t509 t510 t511 t512 t515 t481 t482 t483 t484 t485 t486 t489).bind fun t518=>(if t518=true then (laws_FnExactNextToken.j1 kj7 t504 (t516 != t490) t492 t493 t494 t495 t496 t505 t500) else (laws_FnExactNextToken.j1 kj7 t504 true t492 t493 t494 t495 t496 t505 t500)))=some r:=H
        have A33:=A_ A330
        clear A330
        have HC34:=A_ H
        clear H
        have hnb35:=NB502_491.out
        have hnc35:=NB491_502.out
        obtain ⟨hcz36_0,hcz36_1,hcz36_2,hcz36_3,hcz36_4,hcz36_5,hcz36_6,hfz36_0,hfz36_1,hfz36_2,hfz36_3,hfz36_4,hfz36_5,hfz36_6⟩:=g7_ BK502.out
        go_upto_region 18 with (first|((with_reducible refine gate_callee (f:=8) rfl ?_);refine gl_ (some 46) rfl rfl Tryz.func8 (by kernel_rfl) rfl #[.agg #[.int .i64 t492,.int .i64 t493,.int .i64 t494,.string t495,.string t496,.slice Ao17 t497.length co17,.bool t500],.int .i64 1] rfl  ?_;(with_reducible refine (laws_markToken.calls kj7 t492 t493 t494 t495 t496 (fun k_=>some k_=(.slice Ao17 t497.length co17:Value).ownBlock) (.slice Ao17 t497.length co17) t497 t500 1 t504 t505 w _ ?side1 ?side2 A29.out).mono ?_);(case side1=>repeat (first|(with_reducible first|exact HB.out|apply ba_|apply pd_|apply b1_|refine bs_ ?_ GE491.out|refine bs_ ?_ GE502.out)|exact HB.out));(case side2=>exact Kd.R_tight rfl HO_503005.out);rintro e w37 ⟨rfl,hy0,hb,hkp⟩;refine ⟨_,rfl,?_⟩;have n0_:=A_ (Kd.R_mono (ok':=fun k_=>some k_≠(.slice Ao17 t497.length co17:Value).ownBlock) (Kd.R_keptB (HO_492005.out) hkp (fun k_ hk_ hs_=>(hk_) hs_)) (fun k_ hk_=>hk_.1));have n1_:=A_ (Kd.R_reok rfl hy0 (fun k_ e_=>HO_503005.out.1 k_ e_));have n2_:=A_ (blk_kept (kq_ BK491.out) hkp (fun hs_=>(fun e_=>(Kd.R_ne HO_503005.out BK491.out (by decide)) e_) hs_));have n3_:=A_ (blk_kept (kq_ BK502.out) hkp (fun hs_=>(fun e_=>(Kd.R_ne HO_503005.out BK502.out (by decide)) e_) hs_));have n4_:=A_ (hb);clear HO_492005;clear HO_503005;clear BK491;clear BK502;clear HB;have HO_492005:=n0_;have HO_503005:=n1_;have BK491:=n2_;have BK502:=n3_;have HB:=n4_;clear n0_ n1_ n2_ n3_ n4_;(try clear hb);(try clear hkp);(try clear hy0);obtain ⟨hcz38_0,hcz38_1,hcz38_2,hcz38_3,hcz38_4,hcz38_5,hcz38_6,hfz38_0,hfz38_1,hfz38_2,hfz38_3,hfz38_4,hfz38_5,hfz38_6⟩:=g7_ BK502.out)|((with_reducible refine gate_callee (f:=9) rfl ?_);refine goesL_ (some 49) rfl rfl Tryz.func9 (by kernel_rfl) rfl #[.agg #[.int .i64 t492,.int .i64 t493,.int .i64 t494,.string t495,.string t496,.slice Ao17 t505.length co17,.bool t500],.int .i64 1] rfl (by (try simp only [List.map_toArray,List.map_cons,List.map_nil]);first|done|(rw [show t505.length=t497.length from (Kd.R_reads' HO_503005.out).1.symm] <;> rfl)|rfl|(simp only [ld_,lt_];rfl)) ?_;(with_reducible refine (laws_heldToken.calls kj7 t492 t493 t494 t495 t496 _ _ t505 t500 1 t506 _ ?side1 ?side2 A30.out).mono ?_);(case side1=>repeat (first|exact (Kd.R_reads' HO_503005.out).2.2|(with_reducible refine ca_ ?_ _)|(with_reducible refine cn_ ?_ _)|(with_reducible refine cd_ ?_)));(case side2=>rw [show t505.length=t497.length from (Kd.R_reads' HO_503005.out).1.symm];exact (Kd.R_reads' HO_503005.out).2.1);rintro e w39 ⟨rfl,hb⟩;refine ⟨_,rfl,?_⟩;have n0_:=A_ (Kd.R_below (rq_ HO_492005.out) hb);have n1_:=A_ (Kd.R_below (rq_ HO_503005.out) hb);have n2_:=A_ (kb_ (g:=gb491) (o:=.cells #[.int .i64 t481,.int .i64 t482,.int .i64 t483,.string t484,.string t485,.slice Ao12 t486.length co12,.bool t489] 24 (0,0)) (kq_ BK491.out) hb);have n3_:=A_ (kb_ (g:=gb502) (o:=.cells #[.int .i64 t492,.int .i64 t493,.int .i64 t494,.string t495,.string t496,.slice Ao17 t497.length co17,.bool t500] 24 (0,0)) (kq_ BK502.out) hb);have n4_:=A_ (bp_ (bq2_ HB.out GE491.out GE502.out) hb);clear HO_492005;clear HO_503005;clear BK491;clear BK502;clear HB;have HO_492005:=n0_;have HO_503005:=n1_;have BK491:=n2_;have BK502:=n3_;have HB:=n4_;clear n0_ n1_ n2_ n3_ n4_;(try clear hb);(try clear hb2);(try clear hk);(try clear hi))|((with_reducible refine gate_callee (f:=6) rfl ?_);refine gl_ (some 59) rfl rfl Tryz.func6 (by kernel_rfl) rfl #[.string a0,.int .i64 a1,.string a2] rfl  ?_;(with_reducible refine (impl_NextToken.calls kj7 a0 a1 a2 t507 t508 t509 t510 t511 t512 t515 t516 _ ?sideL A33.out).mono ?_);(case sideL=>exact HL.out.below (bq2_ HB.out GE491.out GE502.out));rintro e w40 ⟨v513,rfl,ho0,hb⟩;refine ⟨_,rfl,?_⟩;have n0_:=A_ (Kd.R_elder' (rq_ HO_492005.out) (Kd.R_base ho0) hb);have n1_:=A_ (Kd.R_elder' (rq_ HO_503005.out) (Kd.R_base ho0) hb);have n2_:=A_ (Kd.R_lower (Kd.R_new' (Kd.R_new' ho0 (Kd.R_lt (rq_ HO_492005.out))) (Kd.R_lt (rq_ HO_503005.out))) (bz_ (bq2_ HB.out GE491.out GE502.out)));have n3_:=A_ (kb_ (g:=gb491) (o:=.cells #[.int .i64 t481,.int .i64 t482,.int .i64 t483,.string t484,.string t485,.slice Ao12 t486.length co12,.bool t489] 24 (0,0)) (kq_ BK491.out) hb);have n4_:=A_ (kb_ (g:=gb502) (o:=.cells #[.int .i64 t492,.int .i64 t493,.int .i64 t494,.string t495,.string t496,.slice Ao17 t497.length co17,.bool t500] 24 (0,0)) (kq_ BK502.out) hb);have n5_:=A_ (bp_ (bq2_ HB.out GE491.out GE502.out) hb);clear HO_492005;clear HO_503005;clear BK491;clear BK502;clear HB;have HO_492005:=n0_;have HO_503005:=n1_;have HO514:=n2_;have BK491:=n3_;have BK502:=n4_;have HB:=n5_;clear n0_ n1_ n2_ n3_ n4_ n5_;(try clear hb);(try clear hb2);(try clear hk);(try clear hi);(try clear ho0))|((with_reducible refine gate_dst (N:=13) rfl ?_);refine box_event ?hg (N:=13) ?hd (cs:=#[.int .i64 0,.int .i64 0,.int .i64 0,.string (⟨#[]⟩:ByteArray),.string (⟨#[]⟩:ByteArray),.slice none 0 0,.bool false]) (t:=24) ?hr ?_;(case hd=>rfl);(case hg=>rfl);(case hr=>first|(go_simp;done)|(go_simp;rfl)|((first|(obtain ⟨_,_,rfl⟩:=Kd.R_slice HO488.out)|(obtain ⟨_,_,rfl⟩:=Kd.S_slice HO488.out)|skip);(first|(obtain ⟨_,_,rfl⟩:=Kd.R_slice HO499.out)|(obtain ⟨_,_,rfl⟩:=Kd.S_slice HO499.out)|skip);(first|(obtain ⟨_,_,rfl⟩:=Kd.R_slice HO514.out)|(obtain ⟨_,_,rfl⟩:=Kd.S_slice HO514.out)|skip);first|(go_simp;done)|(go_simp;rfl)));intro gb517 hg w41 hbox hb;have n0_:=A_ (Kd.R_below (rq_ HO_492005.out) hb);have n1_:=A_ (Kd.R_below (rq_ HO_503005.out) hb);have n2_:=A_ (Kd.R_below (rq_ HO514.out) hb);have n3_:=A_ (kb_ (g:=gb491) (o:=.cells #[.int .i64 t481,.int .i64 t482,.int .i64 t483,.string t484,.string t485,.slice Ao12 t486.length co12,.bool t489] 24 (0,0)) (kq_ BK491.out) hb);have n4_:=A_ (kb_ (g:=gb502) (o:=.cells #[.int .i64 t492,.int .i64 t493,.int .i64 t494,.string t495,.string t496,.slice Ao17 t497.length co17,.bool t500] 24 (0,0)) (kq_ BK502.out) hb);have n5_:=A_ (bp_ (bq2_ HB.out GE491.out GE502.out) hb);have n6_:=A_ (hbox);have n7_:=A_ ((by rw [hg];exact (bz_ (bq2_ HB.out GE491.out GE502.out)):w.heap.size≤gb517));have n8_:=A_ ((by rw [hg];exact (bz_ (bq2_ HB.out GE491.out GE502.out)):w.heap.size≤gb517));have n9_:=A_ ((by rw [hg];exact Nat.ne_of_lt (blk_lt (g:=gb491) (o:=.cells #[.int .i64 t481,.int .i64 t482,.int .i64 t483,.string t484,.string t485,.slice Ao12 t486.length co12,.bool t489] 24 (0,0)) (kq_ BK491.out)):gb491≠gb517));have n10_:=A_ ((by rw [hg];exact Nat.ne_of_gt (blk_lt (g:=gb491) (o:=.cells #[.int .i64 t481,.int .i64 t482,.int .i64 t483,.string t484,.string t485,.slice Ao12 t486.length co12,.bool t489] 24 (0,0)) (kq_ BK491.out)):gb517≠gb491));have n11_:=A_ ((by rw [hg];exact Nat.ne_of_lt (blk_lt (g:=gb502) (o:=.cells #[.int .i64 t492,.int .i64 t493,.int .i64 t494,.string t495,.string t496,.slice Ao17 t497.length co17,.bool t500] 24 (0,0)) (kq_ BK502.out)):gb502≠gb517));have n12_:=A_ ((by rw [hg];exact Nat.ne_of_gt (blk_lt (g:=gb502) (o:=.cells #[.int .i64 t492,.int .i64 t493,.int .i64 t494,.string t495,.string t496,.slice Ao17 t497.length co17,.bool t500] 24 (0,0)) (kq_ BK502.out)):gb517≠gb502));clear HO_492005;clear HO_503005;clear HO514;clear BK491;clear BK502;clear HB;have HO_492005:=n0_;have HO_503005:=n1_;have HO514:=n2_;have BK491:=n3_;have BK502:=n4_;have HB:=n5_;have BK517:=n6_;have GW517:=n7_;have GE517:=n8_;have NB491_517:=n9_;have NB517_491:=n10_;have NB502_517:=n11_;have NB517_502:=n12_;clear n0_ n1_ n2_ n3_ n4_ n5_ n6_ n7_ n8_ n9_ n10_ n11_ n12_;clear hb hbox hg;have hnb42:=NB517_491.out;have hnc42:=NB491_517.out;have hnb43:=NB517_502.out;have hnc43:=NB502_517.out;obtain ⟨hcz44_0,hcz44_1,hcz44_2,hcz44_3,hcz44_4,hcz44_5,hcz44_6,hfz44_0,hfz44_1,hfz44_2,hfz44_3,hfz44_4,hfz44_5,hfz44_6⟩:=g7_ BK517.out;obtain ⟨Ao45,co45,eo45⟩:=Kd.R_slice HO514.out;subst eo45))
        (try simp only [Act.put,ls_,lz_,lc_])
        go_cut [70] (fun v70 wc=>∃ (kq:Nat) (x70_33:Bool),v70=.bool x70_33∧Aside0 (laws_FnExactNextToken.j1 kq t504 x70_33 t492 t493 t494 t495 t496 t505 t500=some r)∧Aside0 (kq≤kj7)∧Aside0 (Kd.R k52 52 wc w.heap.size (fun k_=>some k_≠((.slice Ao17 t497.length co17):Value).ownBlock∧some k_≠((.slice Ao45 t512.length co45):Value).ownBlock) (.slice Ao12 t486.length co12) t486)∧Aside0 (Kd.R k52 52 wc w.heap.size (fun k_=>some k_≠((.slice Ao12 t486.length co12):Value).ownBlock∧some k_≠((.slice Ao45 t512.length co45):Value).ownBlock) (.slice Ao17 t497.length co17) t505)∧Aside0 (Kd.R k52 52 wc w.heap.size (fun k_=>some k_≠((.slice Ao12 t486.length co12):Value).ownBlock∧some k_≠((.slice Ao17 t497.length co17):Value).ownBlock) (.slice Ao45 t512.length co45) t512)∧Aside0 (wc.heap[gb491]? = some (.cells #[.int .i64 t481,.int .i64 t482,.int .i64 t483,.string t484,.string t485,(.slice Ao12 t486.length co12),.bool t489] 24 (0,0)))∧Aside0 (wc.heap[gb502]? = some (.cells #[.int .i64 t492,.int .i64 t493,.int .i64 t494,.string t495,.string t496,(.slice Ao17 t497.length co17),.bool t500] 24 (0,0)))∧Aside0 (wc.heap[gb517]? = some (.cells #[.int .i64 t507,.int .i64 t508,.int .i64 t509,.string t510,.string t511,(.slice Ao45 t512.length co45),.bool t515] 24 (0,0)))∧Aside0 (Below w.heap.size w wc))
        case first =>
         have H:=HC34.out
         clear HC34
         replace H:=ob_ H
         obtain ⟨t518,A460,H⟩:=H
         replace H:(if t518=true then (laws_FnExactNextToken.j1 kj7 t504 (t516 != t490) t492 t493 t494 t495 t496 t505 t500) else (laws_FnExactNextToken.j1 kj7 t504 true t492 t493 t494 t495 t496 t505 t500))=some r:=H
         have A46:=A_ A460
         clear A460
         by_cases c47:t518=true
         ·subst c47
          have H1:(laws_FnExactNextToken.j1 kj7 t504 (t516 != t490) t492 t493 t494 t495 t496 t505 t500)=some r:=by rw [if_pos rfl] at H;exact H
          clear H
          have H:=H1
          clear H1
          have H':=A_ H
          clear H
          have hnb48:=NB517_491.out
          have hnc48:=NB491_517.out
          have hnb49:=NB517_502.out
          have hnc49:=NB502_517.out
          obtain ⟨hcz50_0,hcz50_1,hcz50_2,hcz50_3,hcz50_4,hcz50_5,hcz50_6,hfz50_0,hfz50_1,hfz50_2,hfz50_3,hfz50_4,hfz50_5,hfz50_6⟩:=g7_ BK517.out
          have hnb51:=NB491_502.out
          have hnc51:=NB502_491.out
          obtain ⟨hcz52_0,hcz52_1,hcz52_2,hcz52_3,hcz52_4,hcz52_5,hcz52_6,hfz52_0,hfz52_1,hfz52_2,hfz52_3,hfz52_4,hfz52_5,hfz52_6⟩:=g7_ BK491.out
          go_wp2_with (first|((with_reducible refine gate_callee (f:=7) rfl ?_);refine gl_ (some 64) rfl rfl Tryz.func7 (by kernel_rfl) rfl #[.agg #[.int .i64 t507,.int .i64 t508,.int .i64 t509,.string t510,.string t511,.slice Ao45 t512.length co45,.bool t515],.agg #[.int .i64 t481,.int .i64 t482,.int .i64 t483,.string t484,.string t485,.slice Ao12 t486.length co12,.bool t489]] rfl  ?_;(with_reducible refine (laws_eqToken.calls kj7 t507 t508 t509 t510 t511 _ _ t512 t515 t481 t482 t483 t484 t485 _ _ t486 t489 true _ ?side1 ?side2 ?side3 ?side4 A46.out).mono ?_);(case side1=>refine (Kd.R_reads' (e:=52) (base:=w.heap.size) (ok:=fun k_=>((True∧some k_≠(.slice Ao12 t486.length co12:Value).ownBlock)∧some k_≠(.slice Ao17 t497.length co17:Value).ownBlock)) (n:=t512.length) (c:=co45) ?_).2.2;exact (by (with_reducible repeat (first|apply Kd.R_alloc|apply Kd.R_drewN|apply Kd.R_drew));exact (Kd.R_mono (f7_ (g:=gb517) (Kd.R_types HO514.out BK517.out (by decide)) (fun _ hk=>hk.2) (.int .i64 t507) (.int .i64 t508) (.int .i64 t509) (.string t510) (.string t511) (.slice Ao45 t512.length co45) (.bool t515)) (fun _ h_=>h_.1))));(case side2=>exact (Kd.R_reads' HO514.out).2.1);(case side3=>refine (Kd.R_reads' (e:=52) (base:=w.heap.size) (ok:=fun k_=>(some k_≠(.slice Ao17 t497.length co17:Value).ownBlock∧some k_≠(.slice Ao45 t512.length co45:Value).ownBlock)) (n:=t486.length) (c:=co12) ?_).2.2;exact (by (with_reducible repeat (first|apply Kd.R_alloc|apply Kd.R_drewN|apply Kd.R_drew));exact (Kd.R_mono (f7_ (g:=gb517) (Kd.R_types HO_492005.out BK517.out (by decide)) (fun _ hk=>hk.2) (.int .i64 t507) (.int .i64 t508) (.int .i64 t509) (.string t510) (.string t511) (.slice Ao45 t512.length co45) (.bool t515)) (fun _ h_=>h_.1))));(case side4=>exact (Kd.R_reads' HO_492005.out).2.1);rintro e w53 ⟨rfl,hb⟩;refine ⟨_,rfl,?_⟩;have n0_:=A_ (Kd.R_below (by (with_reducible repeat (first|apply Kd.R_alloc|apply Kd.R_drewN|apply Kd.R_drew));exact (Kd.R_mono (f7_ (g:=gb517) (Kd.R_types HO_492005.out BK517.out (by decide)) (fun _ hk=>hk.2) (.int .i64 t507) (.int .i64 t508) (.int .i64 t509) (.string t510) (.string t511) (.slice Ao45 t512.length co45) (.bool t515)) (fun _ h_=>h_.1))) hb);have n1_:=A_ (Kd.R_below (by (with_reducible repeat (first|apply Kd.R_alloc|apply Kd.R_drewN|apply Kd.R_drew));exact (Kd.R_mono (f7_ (g:=gb517) (Kd.R_types HO_503005.out BK517.out (by decide)) (fun _ hk=>hk.2) (.int .i64 t507) (.int .i64 t508) (.int .i64 t509) (.string t510) (.string t511) (.slice Ao45 t512.length co45) (.bool t515)) (fun _ h_=>h_.1))) hb);have n2_:=A_ (Kd.R_below (by (with_reducible repeat (first|apply Kd.R_alloc|apply Kd.R_drewN|apply Kd.R_drew));exact (Kd.R_mono (f7_ (g:=gb517) (Kd.R_types HO514.out BK517.out (by decide)) (fun _ hk=>hk.2) (.int .i64 t507) (.int .i64 t508) (.int .i64 t509) (.string t510) (.string t511) (.slice Ao45 t512.length co45) (.bool t515)) (fun _ h_=>h_.1))) hb);have n3_:=A_ (kb_ (g:=gb491) (o:=.cells #[.int .i64 t481,.int .i64 t482,.int .i64 t483,.string t484,.string t485,.slice Ao12 t486.length co12,.bool t489] 24 (0,0)) (by (repeat first|(with_reducible first|apply kn_|apply kd_|apply ka_)|refine blk_far ?_ NB491_517.out _);exact BK491.out) hb);have n4_:=A_ (kb_ (g:=gb502) (o:=.cells #[.int .i64 t492,.int .i64 t493,.int .i64 t494,.string t495,.string t496,.slice Ao17 t497.length co17,.bool t500] 24 (0,0)) (by (repeat first|(with_reducible first|apply kn_|apply kd_|apply ka_)|refine blk_far ?_ NB502_517.out _);exact BK502.out) hb);have n5_:=A_ (kb_ (g:=gb517) (o:=.cells #[.int .i64 t507,.int .i64 t508,.int .i64 t509,.string t510,.string t511,.slice Ao45 t512.length co45,.bool t515] 24 (0,0)) (by (with_reducible repeat first|apply kn_|apply kd_|apply ka_);exact p7_ (kq_ BK517.out)) hb);have n6_:=A_ (bp_ (bq3_ HB.out GE491.out GE502.out GE517.out) hb);clear HO_492005;clear HO_503005;clear HO514;clear BK491;clear BK502;clear BK517;clear HB;have HO_492005:=n0_;have HO_503005:=n1_;have HO514:=n2_;have BK491:=n3_;have BK502:=n4_;have BK517:=n5_;have HB:=n6_;clear n0_ n1_ n2_ n3_ n4_ n5_ n6_;(try clear hb);(try clear hb2);(try clear hk);(try clear hi)))
          go_meet
          case rel=>exact ⟨_,((t516 != t490)),(by first|rfl|(simp;done)|(simp [*];done)),H',⟨by have:=HJ7.out;first|omega|exact Nat.le_refl _⟩,⟨by (with_reducible repeat (first|apply Kd.R_alloc|apply Kd.R_drewN|apply Kd.R_drew));exact HO_492005.out⟩,⟨by (with_reducible repeat (first|apply Kd.R_alloc|apply Kd.R_drewN|apply Kd.R_drew));exact HO_503005.out⟩,⟨by (with_reducible repeat (first|apply Kd.R_alloc|apply Kd.R_drewN|apply Kd.R_drew));exact Kd.R_mono HO514.out (fun _ hk=>⟨hk.1.2,hk.2⟩)⟩,⟨kq_ BK491.out⟩,⟨kq_ BK502.out⟩,⟨kq_ BK517.out⟩,⟨bq3_ HB.out GE491.out GE502.out GE517.out⟩⟩
         ·replace c47:=bm_ c47
          subst c47
          have H1:(laws_FnExactNextToken.j1 kj7 t504 true t492 t493 t494 t495 t496 t505 t500)=some r:=by rw [if_neg (show ¬ (false=true) by decide)] at H;exact H
          clear H
          have H:=H1
          clear H1
          have H':=A_ H
          clear H
          have hnb54:=NB517_491.out
          have hnc54:=NB491_517.out
          have hnb55:=NB517_502.out
          have hnc55:=NB502_517.out
          obtain ⟨hcz56_0,hcz56_1,hcz56_2,hcz56_3,hcz56_4,hcz56_5,hcz56_6,hfz56_0,hfz56_1,hfz56_2,hfz56_3,hfz56_4,hfz56_5,hfz56_6⟩:=g7_ BK517.out
          have hnb57:=NB491_502.out
          have hnc57:=NB502_491.out
          obtain ⟨hcz58_0,hcz58_1,hcz58_2,hcz58_3,hcz58_4,hcz58_5,hcz58_6,hfz58_0,hfz58_1,hfz58_2,hfz58_3,hfz58_4,hfz58_5,hfz58_6⟩:=g7_ BK491.out
          go_wp2_with (first|((with_reducible refine gate_callee (f:=7) rfl ?_);refine gl_ (some 64) rfl rfl Tryz.func7 (by kernel_rfl) rfl #[.agg #[.int .i64 t507,.int .i64 t508,.int .i64 t509,.string t510,.string t511,.slice Ao45 t512.length co45,.bool t515],.agg #[.int .i64 t481,.int .i64 t482,.int .i64 t483,.string t484,.string t485,.slice Ao12 t486.length co12,.bool t489]] rfl  ?_;(with_reducible refine (laws_eqToken.calls kj7 t507 t508 t509 t510 t511 _ _ t512 t515 t481 t482 t483 t484 t485 _ _ t486 t489 false _ ?side1 ?side2 ?side3 ?side4 A46.out).mono ?_);(case side1=>refine (Kd.R_reads' (e:=52) (base:=w.heap.size) (ok:=fun k_=>((True∧some k_≠(.slice Ao12 t486.length co12:Value).ownBlock)∧some k_≠(.slice Ao17 t497.length co17:Value).ownBlock)) (n:=t512.length) (c:=co45) ?_).2.2;exact (by (with_reducible repeat (first|apply Kd.R_alloc|apply Kd.R_drewN|apply Kd.R_drew));exact (Kd.R_mono (f7_ (g:=gb517) (Kd.R_types HO514.out BK517.out (by decide)) (fun _ hk=>hk.2) (.int .i64 t507) (.int .i64 t508) (.int .i64 t509) (.string t510) (.string t511) (.slice Ao45 t512.length co45) (.bool t515)) (fun _ h_=>h_.1))));(case side2=>exact (Kd.R_reads' HO514.out).2.1);(case side3=>refine (Kd.R_reads' (e:=52) (base:=w.heap.size) (ok:=fun k_=>(some k_≠(.slice Ao17 t497.length co17:Value).ownBlock∧some k_≠(.slice Ao45 t512.length co45:Value).ownBlock)) (n:=t486.length) (c:=co12) ?_).2.2;exact (by (with_reducible repeat (first|apply Kd.R_alloc|apply Kd.R_drewN|apply Kd.R_drew));exact (Kd.R_mono (f7_ (g:=gb517) (Kd.R_types HO_492005.out BK517.out (by decide)) (fun _ hk=>hk.2) (.int .i64 t507) (.int .i64 t508) (.int .i64 t509) (.string t510) (.string t511) (.slice Ao45 t512.length co45) (.bool t515)) (fun _ h_=>h_.1))));(case side4=>exact (Kd.R_reads' HO_492005.out).2.1);rintro e w59 ⟨rfl,hb⟩;refine ⟨_,rfl,?_⟩;have n0_:=A_ (Kd.R_below (by (with_reducible repeat (first|apply Kd.R_alloc|apply Kd.R_drewN|apply Kd.R_drew));exact (Kd.R_mono (f7_ (g:=gb517) (Kd.R_types HO_492005.out BK517.out (by decide)) (fun _ hk=>hk.2) (.int .i64 t507) (.int .i64 t508) (.int .i64 t509) (.string t510) (.string t511) (.slice Ao45 t512.length co45) (.bool t515)) (fun _ h_=>h_.1))) hb);have n1_:=A_ (Kd.R_below (by (with_reducible repeat (first|apply Kd.R_alloc|apply Kd.R_drewN|apply Kd.R_drew));exact (Kd.R_mono (f7_ (g:=gb517) (Kd.R_types HO_503005.out BK517.out (by decide)) (fun _ hk=>hk.2) (.int .i64 t507) (.int .i64 t508) (.int .i64 t509) (.string t510) (.string t511) (.slice Ao45 t512.length co45) (.bool t515)) (fun _ h_=>h_.1))) hb);have n2_:=A_ (Kd.R_below (by (with_reducible repeat (first|apply Kd.R_alloc|apply Kd.R_drewN|apply Kd.R_drew));exact (Kd.R_mono (f7_ (g:=gb517) (Kd.R_types HO514.out BK517.out (by decide)) (fun _ hk=>hk.2) (.int .i64 t507) (.int .i64 t508) (.int .i64 t509) (.string t510) (.string t511) (.slice Ao45 t512.length co45) (.bool t515)) (fun _ h_=>h_.1))) hb);have n3_:=A_ (kb_ (g:=gb491) (o:=.cells #[.int .i64 t481,.int .i64 t482,.int .i64 t483,.string t484,.string t485,.slice Ao12 t486.length co12,.bool t489] 24 (0,0)) (by (repeat first|(with_reducible first|apply kn_|apply kd_|apply ka_)|refine blk_far ?_ NB491_517.out _);exact BK491.out) hb);have n4_:=A_ (kb_ (g:=gb502) (o:=.cells #[.int .i64 t492,.int .i64 t493,.int .i64 t494,.string t495,.string t496,.slice Ao17 t497.length co17,.bool t500] 24 (0,0)) (by (repeat first|(with_reducible first|apply kn_|apply kd_|apply ka_)|refine blk_far ?_ NB502_517.out _);exact BK502.out) hb);have n5_:=A_ (kb_ (g:=gb517) (o:=.cells #[.int .i64 t507,.int .i64 t508,.int .i64 t509,.string t510,.string t511,.slice Ao45 t512.length co45,.bool t515] 24 (0,0)) (by (with_reducible repeat first|apply kn_|apply kd_|apply ka_);exact p7_ (kq_ BK517.out)) hb);have n6_:=A_ (bp_ (bq3_ HB.out GE491.out GE502.out GE517.out) hb);clear HO_492005;clear HO_503005;clear HO514;clear BK491;clear BK502;clear BK517;clear HB;have HO_492005:=n0_;have HO_503005:=n1_;have HO514:=n2_;have BK491:=n3_;have BK502:=n4_;have BK517:=n5_;have HB:=n6_;clear n0_ n1_ n2_ n3_ n4_ n5_ n6_;(try clear hb);(try clear hb2);(try clear hk);(try clear hi)))
          go_meet
          case rel=>exact ⟨_,(true),(by first|rfl|(simp;done)|(simp [*];done)),H',⟨by have:=HJ7.out;first|omega|exact Nat.le_refl _⟩,⟨by (with_reducible repeat (first|apply Kd.R_alloc|apply Kd.R_drewN|apply Kd.R_drew));exact HO_492005.out⟩,⟨by (with_reducible repeat (first|apply Kd.R_alloc|apply Kd.R_drewN|apply Kd.R_drew));exact HO_503005.out⟩,⟨by (with_reducible repeat (first|apply Kd.R_alloc|apply Kd.R_drewN|apply Kd.R_drew));exact Kd.R_mono HO514.out (fun _ hk=>⟨hk.1.2,hk.2⟩)⟩,⟨kq_ BK491.out⟩,⟨kq_ BK502.out⟩,⟨kq_ BK517.out⟩,⟨bq3_ HB.out GE491.out GE502.out GE517.out⟩⟩
        case rest =>
         clear HC34
         try clear c1
         try clear c2
         try clear p2
         try clear c3
         try clear c4
         try clear c4b0
         try clear c4b1
         try clear c5
         try clear c5b0
         try clear c5b1
         try clear c6
         try clear c7
         try clear c8
         try clear c9
         try clear c15
         try clear c19
         try clear c20
         try clear c24
         try clear c28
         try clear c31
         try clear c31b0
         try clear c32
         try clear c32b0
         try clear c32b1
         try clear c35
         try clear c42
         try clear c43
         try clear c47
         try clear c48
         try clear c49
         try clear c51
         try clear c54
         try clear c55
         try clear c57
         try clear hcz11_0
         try clear hcz11_1
         try clear hcz11_2
         try clear hcz11_3
         try clear hcz11_4
         try clear hcz11_5
         try clear hcz11_6
         try clear hcz16_0
         try clear hcz16_1
         try clear hcz16_2
         try clear hcz16_3
         try clear hcz16_4
         try clear hcz16_5
         try clear hcz16_6
         try clear hcz21_0
         try clear hcz21_1
         try clear hcz21_2
         try clear hcz21_3
         try clear hcz21_4
         try clear hcz21_5
         try clear hcz21_6
         try clear hcz22_0
         try clear hcz22_1
         try clear hcz22_2
         try clear hcz22_3
         try clear hcz22_4
         try clear hcz22_5
         try clear hcz22_6
         try clear hcz25_0
         try clear hcz25_1
         try clear hcz25_2
         try clear hcz25_3
         try clear hcz25_4
         try clear hcz25_5
         try clear hcz25_6
         try clear hcz26_0
         try clear hcz26_1
         try clear hcz26_2
         try clear hcz26_3
         try clear hcz26_4
         try clear hcz26_5
         try clear hcz26_6
         try clear hcz36_0
         try clear hcz36_1
         try clear hcz36_2
         try clear hcz36_3
         try clear hcz36_4
         try clear hcz36_5
         try clear hcz36_6
         try clear hcz38_0
         try clear hcz38_1
         try clear hcz38_2
         try clear hcz38_3
         try clear hcz38_4
         try clear hcz38_5
         try clear hcz38_6
         try clear hcz44_0
         try clear hcz44_1
         try clear hcz44_2
         try clear hcz44_3
         try clear hcz44_4
         try clear hcz44_5
         try clear hcz44_6
         try clear hcz50_0
         try clear hcz50_1
         try clear hcz50_2
         try clear hcz50_3
         try clear hcz50_4
         try clear hcz50_5
         try clear hcz50_6
         try clear hcz52_0
         try clear hcz52_1
         try clear hcz52_2
         try clear hcz52_3
         try clear hcz52_4
         try clear hcz52_5
         try clear hcz52_6
         try clear hcz56_0
         try clear hcz56_1
         try clear hcz56_2
         try clear hcz56_3
         try clear hcz56_4
         try clear hcz56_5
         try clear hcz56_6
         try clear hcz58_0
         try clear hcz58_1
         try clear hcz58_2
         try clear hcz58_3
         try clear hcz58_4
         try clear hcz58_5
         try clear hcz58_6
         try clear hfz11_0
         try clear hfz11_1
         try clear hfz11_2
         try clear hfz11_3
         try clear hfz11_4
         try clear hfz11_5
         try clear hfz11_6
         try clear hfz16_0
         try clear hfz16_1
         try clear hfz16_2
         try clear hfz16_3
         try clear hfz16_4
         try clear hfz16_5
         try clear hfz16_6
         try clear hfz21_0
         try clear hfz21_1
         try clear hfz21_2
         try clear hfz21_3
         try clear hfz21_4
         try clear hfz21_5
         try clear hfz21_6
         try clear hfz22_0
         try clear hfz22_1
         try clear hfz22_2
         try clear hfz22_3
         try clear hfz22_4
         try clear hfz22_5
         try clear hfz22_6
         try clear hfz25_0
         try clear hfz25_1
         try clear hfz25_2
         try clear hfz25_3
         try clear hfz25_4
         try clear hfz25_5
         try clear hfz25_6
         try clear hfz26_0
         try clear hfz26_1
         try clear hfz26_2
         try clear hfz26_3
         try clear hfz26_4
         try clear hfz26_5
         try clear hfz26_6
         try clear hfz36_0
         try clear hfz36_1
         try clear hfz36_2
         try clear hfz36_3
         try clear hfz36_4
         try clear hfz36_5
         try clear hfz36_6
         try clear hfz38_0
         try clear hfz38_1
         try clear hfz38_2
         try clear hfz38_3
         try clear hfz38_4
         try clear hfz38_5
         try clear hfz38_6
         try clear hfz44_0
         try clear hfz44_1
         try clear hfz44_2
         try clear hfz44_3
         try clear hfz44_4
         try clear hfz44_5
         try clear hfz44_6
         try clear hfz50_0
         try clear hfz50_1
         try clear hfz50_2
         try clear hfz50_3
         try clear hfz50_4
         try clear hfz50_5
         try clear hfz50_6
         try clear hfz52_0
         try clear hfz52_1
         try clear hfz52_2
         try clear hfz52_3
         try clear hfz52_4
         try clear hfz52_5
         try clear hfz52_6
         try clear hfz56_0
         try clear hfz56_1
         try clear hfz56_2
         try clear hfz56_3
         try clear hfz56_4
         try clear hfz56_5
         try clear hfz56_6
         try clear hfz58_0
         try clear hfz58_1
         try clear hfz58_2
         try clear hfz58_3
         try clear hfz58_4
         try clear hfz58_5
         try clear hfz58_6
         try clear p2
         obtain ⟨kq,x70_33,rfl,HA,HJ33,HO_492005,HO_503005,HO_518005,BK491,BK502,BK517,HB⟩:=hcut
         have hl503005_33:=(Kd.R_reads' HO_503005.out).1
         rw [hl503005_33] at HO_503005
         (try simp only [hl503005_33])
         (try simp only [hl503005_33] at BK491)
         (try simp only [hl503005_33] at BK502)
         (try simp only [hl503005_33] at BK517)
         (try simp only [hl503005_33] at HO_492005)
         (try simp only [hl503005_33] at HO_518005)
         cases kq with
         | zero=>exact absurd HA.out (by simp [laws_FnExactNextToken.j1])
         | succ kj33 =>
          have H:=HA.out
          clear HA
          simp only [laws_FnExactNextToken.j1] at H
          by_cases c60:x70_33=true
          ·subst c60
           have H1:(some false)=some r:=by rw [if_pos rfl] at H;exact H
           clear H
           have H:=H1
           clear H1
           exact absurd ((oi_ H).trans HRT.out) (by decide)
          ·replace c60:=bm_ c60
           subst c60
           have H1:((laws_heldToken.f kj33 t492 t493 t494 t495 t496 t505 t500 1).bind fun t519=>(if t519<0 then (some false) else (if t519=t504 then (some true) else (some false))))=some r:=by rw [if_neg (show ¬ (false=true) by decide)] at H;exact H
           clear H
           have H:=H1
           clear H1
           replace H:=ob_ H
           obtain ⟨t519,A610,H⟩:=H
           replace H:(if t519<0 then (some false) else (if t519=t504 then (some true) else (some false)))=some r:=H
           have A61:=A_ A610
           clear A610
           by_cases c62:t519<0
           ·rw [if_pos c62] at H
            have c62b0:decide (t519<0)=true:=dt_ c62
            clear c62
            exact absurd ((oi_ H).trans HRT.out) (by decide)
           ·rw [if_neg c62] at H
            have c62b0:decide (t519<0)=false:=df_ c62
            clear c62
            by_cases c63:t519=t504
            ·rw [if_pos c63] at H
             have c63b0:(t519 == t504)=true:=beq_iff_eq.mpr c63
             have c63b1:(t519 != t504)=false:=bne_eq_false_iff_eq.mpr c63
             clear c63
             obtain rfl:=oi_ H
             have hnb64:=NB502_491.out
             have hnc64:=NB491_502.out
             have hnb65:=NB502_517.out
             have hnc65:=NB517_502.out
             obtain ⟨_,_,_,_,_,_,_,_,_,_,_,_,_,_⟩:=g7_ BK502.out
             go_wp2_with (first|((with_reducible refine gate_callee (f:=9) rfl ?_);refine gl_ (some 73) rfl rfl Tryz.func9 (by kernel_rfl) rfl #[.agg #[.int .i64 t492,.int .i64 t493,.int .i64 t494,.string t495,.string t496,.slice Ao17 t505.length co17,.bool t500],.int .i64 1] rfl  ?_;(with_reducible refine (laws_heldToken.calls kj33 t492 t493 t494 t495 t496 _ _ t505 t500 1 t519 _ ?side1 ?side2 A61.out).mono ?_);(case side1=>repeat (first|exact (Kd.R_reads' HO_503005.out).2.2|(with_reducible refine ca_ ?_ _)|(with_reducible refine cn_ ?_ _)|(with_reducible refine cd_ ?_)));(case side2=>exact (Kd.R_reads' HO_503005.out).2.1);rintro e w67 ⟨rfl,hb⟩;refine ⟨_,rfl,?_⟩;have n0_:=A_ (Kd.R_below (rq_ HO_492005.out) hb);have n1_:=A_ (Kd.R_below (rq_ HO_503005.out) hb);have n2_:=A_ (Kd.R_below (rq_ HO_518005.out) hb);have n3_:=A_ (kb_ (g:=gb491) (o:=.cells #[.int .i64 t481,.int .i64 t482,.int .i64 t483,.string t484,.string t485,.slice Ao12 t486.length co12,.bool t489] 24 (0,0)) (kq_ BK491.out) hb);have n4_:=A_ (kb_ (g:=gb502) (o:=.cells #[.int .i64 t492,.int .i64 t493,.int .i64 t494,.string t495,.string t496,.slice Ao17 t505.length co17,.bool t500] 24 (0,0)) (kq_ BK502.out) hb);have n5_:=A_ (kb_ (g:=gb517) (o:=.cells #[.int .i64 t507,.int .i64 t508,.int .i64 t509,.string t510,.string t511,.slice Ao45 t512.length co45,.bool t515] 24 (0,0)) (kq_ BK517.out) hb);have n6_:=A_ (bp_ (bq3_ HB.out GE491.out GE502.out GE517.out) hb);clear HO_492005;clear HO_503005;clear HO_518005;clear BK491;clear BK502;clear BK517;clear HB;have HO_492005:=n0_;have HO_503005:=n1_;have HO_518005:=n2_;have BK491:=n3_;have BK502:=n4_;have BK517:=n5_;have HB:=n6_;clear n0_ n1_ n2_ n3_ n4_ n5_ n6_;(try clear hb);(try clear hb2);(try clear hk);(try clear hi)))
             go_ret
             exact ⟨by first|rfl|(simp [errW_none,errW_some] <;> rfl)|(simp [*,errW_none,errW_some] <;> rfl),bq3_ HB.out GE491.out GE502.out GE517.out⟩
            ·rw [if_neg c63] at H
             have c63b0:(t519 == t504)=false:=beq_eq_false_iff_ne.mpr c63
             have c63b1:(t519 != t504)=true:=bne_iff_ne.mpr c63
             exact absurd ((oi_ H).trans HRT.out) (by decide)
       ·rw [if_neg c32] at H
        have c32b0:(t506 == t504)=false:=beq_eq_false_iff_ne.mpr c32
        have c32b1:(t506 != t504)=true:=bne_iff_ne.mpr c32
        exact absurd ((oi_ H).trans HRT.out) (by decide)
/-- THE ONE PURE STATEMENT of laws_FnExactNextToken: yours. -/
def laws_FnExactNextToken.Pure:Prop:=∀ (a0:ByteArray) (a1:Int) (a2:ByteArray),a0.size≤140737488351232→(Lit.int .i64 a1).wf=true→a2.size≤140737488351232→∃ k,laws_FnExactNextToken.f k a0 a1 a2=some true
theorem laws_FnExactNextToken.walk (P:laws_FnExactNextToken.Pure) (a0:ByteArray) (a1:Int) (a2:ByteArray) (w:World) (hL:Laid w) (w0:a0.size≤140737488351232) (w1:(Lit.int .i64 a1).wf=true) (w2:a2.size≤140737488351232) :
 Calls Tryz.prog 3 #[.string a0,.int .i64 a1,.string a2] w fun e w'=>e=.returned (.bool true)∧Below w.heap.size w w':=by
 obtain ⟨k,h⟩:=P a0 a1 a2 w0 w1 w2
 refine (laws_FnExactNextToken.calls k a0 a1 a2 true w hL h ⟨rfl⟩).mono ?_
 rintro e w' ⟨rfl,hd⟩
 exact ⟨rfl,hd⟩
end Go.Proofs.YtfkanlbmgbkniaaGreatDoor.PFnExactNextToken
