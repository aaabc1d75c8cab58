/- The machine side of a law, printed by a program. No conditions. -/
import Derived.Test.YtfkanlbmgbkniaaGreatDoorPFnExactTokensOfx0
import Derived.Test.YtfkanlbmgbkniaaGreatDoorPFnExactTokensOfx5
import Derived.Test.YtfkanlbmgbkniaaGreatDoorPFnExactTokensOfx6
namespace Go.Proofs.YtfkanlbmgbkniaaGreatDoor.PFnExactTokensOf
open Go.RowKit Go.Proofs.YtfkanlbmgbkniaaGreatDoorW.PrintWords Go.Proofs.YtfkanlbmgbkniaaGreatDoorW.PrintLast Go.Proofs.YtfkanlbmgbkniaaGreatDoorW.PrintMore
attribute [local go_sem] max2_int min2_int max_two min_two max_three min_three max_four min_four
set_option linter.unusedVariables false
set_option linter.unusedSimpArgs false
def spec_l04Close.f (k:Nat) (a0:ByteArray) (a1:Int):Option (Int × Int × Int × ByteArray × ByteArray × (List (S52)) × Bool):=(spec_l04Name.f k a0 (wrap64 (a1+2))).bind fun bt190=>((spec_l04Find.f k a0 (⟨#[62]⟩:ByteArray) bt190.2).bind fun bt192=>(if bt192.2=true then ((spec_l01Tag.f k bt190.1).bind fun t194=>(if t194=true then (some (3,a1,wrap64 ((wrap64 (bt192.1+1)) - a1),bt190.1,(⟨#[]⟩:ByteArray),([]:List (S52)),false)) else (some (5,a1,wrap64 ((wrap64 (bt192.1+1)) - a1),(⟨#[]⟩:ByteArray),(⟨#[]⟩:ByteArray),([]:List (S52)),false)))) else (some (5,a1,wrap64 ((a0.size:Int) - a1),(⟨#[]⟩:ByteArray),(⟨#[]⟩:ByteArray),([]:List (S52)),false))))
theorem spec_l04Close.mono:∀ a0 a1 k,LeO (spec_l04Close.f k a0 a1) (spec_l04Close.f (k+1) a0 a1):=by
 intro a0 a1 k
 unfold spec_l04Close.f
 repeat' first|(with_reducible first|exact spec_l01Tag.mono ..|exact spec_l04Find.mono ..|exact spec_l04Name.mono ..|exact LeO.refl _|exact LeO.none _|refine LeO.ite ?_ ?_|refine LeO.bind ?_ (fun _=>?_))|exact LeO.none _|refine LeO.ite ?_ ?_|refine LeO.bind ?_ (fun _=>?_)
set_option maxHeartbeats 8000000 in
set_option maxRecDepth 100000 in
theorem spec_l04Close.calls (k:Nat) (a0:ByteArray) (a1:Int) (r1:Int) (r2:Int) (r3:Int) (r4:ByteArray) (r5:ByteArray) (r6:List (S52)) (r7:Bool) (w:World) (h:spec_l04Close.f k a0 a1=some (r1,r2,r3,r4,r5,r6,r7)) :
 Calls Tryz.prog 33 #[.string a0,.int .i64 a1] w fun e w'=>∃ v5_:Value,e=.returned (.agg #[.int .i64 r1,.int .i64 r2,.int .i64 r3,.string r4,.string r5,v5_,.bool r7])∧Kd.R k52 52 w' w.heap.size (fun _=>True) v5_ r6∧Below w.heap.size w w':=by
 have hu24:=Tryz.underlying24
 have HB:=A_ (Below.refl w.heap.size w)
 have H:((spec_l04Name.f k a0 (wrap64 (a1+2))).bind fun bt190=>((spec_l04Find.f k a0 (⟨#[62]⟩:ByteArray) bt190.2).bind fun bt192=>(if bt192.2=true then ((spec_l01Tag.f k bt190.1).bind fun t194=>(if t194=true then (some (3,a1,wrap64 ((wrap64 (bt192.1+1)) - a1),bt190.1,(⟨#[]⟩:ByteArray),([]:List (S52)),false)) else (some (5,a1,wrap64 ((wrap64 (bt192.1+1)) - a1),(⟨#[]⟩:ByteArray),(⟨#[]⟩:ByteArray),([]:List (S52)),false)))) else (some (5,a1,wrap64 ((a0.size:Int) - a1),(⟨#[]⟩:ByteArray),(⟨#[]⟩:ByteArray),([]:List (S52)),false)))))=some (r1,r2,r3,r4,r5,r6,r7):=h
 clear h
 replace H:=ob_ H
 obtain ⟨⟨t190,t191⟩,A30,H⟩:=H
 replace H:((spec_l04Find.f k a0 (⟨#[62]⟩:ByteArray) t191).bind fun bt192=>(if bt192.2=true then ((spec_l01Tag.f k t190).bind fun t194=>(if t194=true then (some (3,a1,wrap64 ((wrap64 (bt192.1+1)) - a1),t190,(⟨#[]⟩:ByteArray),([]:List (S52)),false)) else (some (5,a1,wrap64 ((wrap64 (bt192.1+1)) - a1),(⟨#[]⟩:ByteArray),(⟨#[]⟩:ByteArray),([]:List (S52)),false)))) else (some (5,a1,wrap64 ((a0.size:Int) - a1),(⟨#[]⟩:ByteArray),(⟨#[]⟩:ByteArray),([]:List (S52)),false))))=some (r1,r2,r3,r4,r5,r6,r7):=H
 have A3:=A_ A30
 clear A30
 replace H:=ob_ H
 obtain ⟨⟨t192,t193⟩,A40,H⟩:=H
 replace H:(if t193=true then ((spec_l01Tag.f k t190).bind fun t194=>(if t194=true then (some (3,a1,wrap64 ((wrap64 (t192+1)) - a1),t190,(⟨#[]⟩:ByteArray),([]:List (S52)),false)) else (some (5,a1,wrap64 ((wrap64 (t192+1)) - a1),(⟨#[]⟩:ByteArray),(⟨#[]⟩:ByteArray),([]:List (S52)),false)))) else (some (5,a1,wrap64 ((a0.size:Int) - a1),(⟨#[]⟩:ByteArray),(⟨#[]⟩:ByteArray),([]:List (S52)),false)))=some (r1,r2,r3,r4,r5,r6,r7):=H
 have A4:=A_ A40
 clear A40
 by_cases c5:t193=true
 ·subst c5
  have H1:((spec_l01Tag.f k t190).bind fun t194=>(if t194=true then (some (3,a1,wrap64 ((wrap64 (t192+1)) - a1),t190,(⟨#[]⟩:ByteArray),([]:List (S52)),false)) else (some (5,a1,wrap64 ((wrap64 (t192+1)) - a1),(⟨#[]⟩:ByteArray),(⟨#[]⟩:ByteArray),([]:List (S52)),false))))=some (r1,r2,r3,r4,r5,r6,r7):=by rw [if_pos rfl] at H;exact H
  clear H
  have H:=H1
  clear H1
  replace H:=ob_ H
  obtain ⟨t194,A60,H⟩:=H
  replace H:(if t194=true then (some (3,a1,wrap64 ((wrap64 (t192+1)) - a1),t190,(⟨#[]⟩:ByteArray),([]:List (S52)),false)) else (some (5,a1,wrap64 ((wrap64 (t192+1)) - a1),(⟨#[]⟩:ByteArray),(⟨#[]⟩:ByteArray),([]:List (S52)),false)))=some (r1,r2,r3,r4,r5,r6,r7):=H
  have A6:=A_ A60
  clear A60
  by_cases c7:t194=true
  ·subst c7
   have H1:(some (3,a1,wrap64 ((wrap64 (t192+1)) - a1),t190,(⟨#[]⟩:ByteArray),([]:List (S52)),false))=some (r1,r2,r3,r4,r5,r6,r7):=by rw [if_pos rfl] at H;exact H
   clear H
   have H:=H1
   clear H1
   simp only [Option.some.injEq,Prod.mk.injEq] at H
   obtain ⟨rfl,rfl,rfl,rfl,rfl,rfl,rfl⟩:=H
   go_enter Tryz.func33,Tryz.ntmps33
   go_wp2_with (first|((with_reducible refine gate_dst (N:=4) rfl ?_);refine box_event ?hg (N:=4) ?hd (cs:=#[.int .i64 0,.int .i64 0,.int .i64 0,.string (⟨#[]⟩:ByteArray),.string (⟨#[]⟩:ByteArray),.slice none 0 0,.bool false]) (t:=24) ?hr ?_;(case hd=>rfl);(case hg=>rfl);(case hr=>first|(go_simp;done)|(go_simp;rfl));intro gb189 hg w8 hbox hb;have n0_:=A_ (bp_ (bq0_ HB.out) hb);have n1_:=A_ (hbox);have n2_:=A_ ((by rw [hg];exact (bz_ (bq0_ HB.out)):w.heap.size≤gb189));have n3_:=A_ ((by rw [hg];exact (bz_ (bq0_ HB.out)):w.heap.size≤gb189));clear HB;have HB:=n0_;have BK189:=n1_;have GW189:=n2_;have GE189:=n3_;clear n0_ n1_ n2_ n3_;clear hb hbox hg)|((with_reducible refine gate_callee (f:=53) rfl ?_);refine gl_ (some 13) rfl rfl Tryz.func53 (by kernel_rfl) rfl #[.string a0,.int .i64 (wrap64 (a1+2))] rfl  ?_;(with_reducible refine (spec_l04Name.calls k a0 (wrap64 (a1+2)) t190 t191 _ A3.out).mono ?_);rintro e w9 ⟨rfl,hb⟩;refine ⟨_,rfl,?_⟩;have n0_:=A_ (kb_ (kq_ BK189.out) hb);have n1_:=A_ (bp_ (bq1_ HB.out GE189.out) hb);clear BK189;clear HB;have BK189:=n0_;have HB:=n1_;clear n0_ n1_;(try clear hb);(try clear hb2);(try clear hk);(try clear hi))|((with_reducible refine gate_callee (f:=56) rfl ?_);refine gl_ (some 19) rfl rfl Tryz.func56 (by kernel_rfl) rfl #[.string a0,.string (⟨#[62]⟩:ByteArray),.int .i64 t191] rfl  ?_;(with_reducible refine (spec_l04Find.calls k a0 (⟨#[62]⟩:ByteArray) t191 t192 true _ A4.out).mono ?_);rintro e w' ⟨rfl,⟨nd,rfl⟩⟩;refine ⟨_,rfl,?_⟩;(try (rw [drewN_self w9];generalize hq_:World.drewN w9 _=w9;have n0_:Aside0 (w9.heap[gb189]? = some (.cells #[.int .i64 0,.int .i64 0,.int .i64 0,.string (⟨#[]⟩:ByteArray),.string (⟨#[]⟩:ByteArray),.slice none 0 0,.bool false] 24 (0,0))):=⟨by rw [←hq_];exact (kq_ BK189.out)⟩;have n1_:Aside0 (Below w.heap.size w w9):=⟨by rw [←hq_];exact (bq1_ HB.out GE189.out)⟩;clear BK189 HB hq_;have BK189:=n0_;have HB:=n1_;clear n0_ n1_;obtain ⟨hcygb189_0,hcygb189_1,hcygb189_2,hcygb189_3,hcygb189_4,hcygb189_5,hcygb189_6,hfygb189_0,hfygb189_1,hfygb189_2,hfygb189_3,hfygb189_4,hfygb189_5,hfygb189_6⟩:=g7_ BK189.out)))|((with_reducible refine gate_callee (f:=16) rfl ?_);refine gl_ (some 31) rfl rfl Tryz.func16 (by kernel_rfl) rfl #[.string t190] rfl  ?_;(with_reducible refine (spec_l01Tag.calls k t190 true _ A6.out).mono ?_);rintro e w' ⟨rfl,⟨nd,rfl⟩⟩;refine ⟨_,rfl,?_⟩;(try (rw [drewN_self w9];generalize hq_:World.drewN w9 _=w9;have n0_:Aside0 (w9.heap[gb189]? = some (.cells #[.int .i64 0,.int .i64 0,.int .i64 0,.string (⟨#[]⟩:ByteArray),.string (⟨#[]⟩:ByteArray),.slice none 0 0,.bool false] 24 (0,0))):=⟨by rw [←hq_];exact (kq_ BK189.out)⟩;have n1_:Aside0 (Below w.heap.size w w9):=⟨by rw [←hq_];exact (bq1_ HB.out GE189.out)⟩;clear BK189 HB hq_;have BK189:=n0_;have HB:=n1_;clear n0_ n1_;obtain ⟨hcygb189_0,hcygb189_1,hcygb189_2,hcygb189_3,hcygb189_4,hcygb189_5,hcygb189_6,hfygb189_0,hfygb189_1,hfygb189_2,hfygb189_3,hfygb189_4,hfygb189_5,hfygb189_6⟩:=g7_ BK189.out));obtain ⟨_,_,_,_,_,_,_,_,_,_,_,_,_,_⟩:=g7_ BK189.out))
   refine bodyPost_ret (results_cell_row rfl _ _ gb189 24 #[.int .i64 3,.int .i64 a1,.int .i64 (wrap64 ((wrap64 (t192+1)) - a1)),.string t190,.string (⟨#[]⟩:ByteArray),.slice none 0 0,.bool false] (0,0) _ rfl (by (with_reducible repeat first|apply kn_|apply kd_|apply ka_);exact p7_ (kq_ BK189.out)) Tryz.underlying24 rfl (by kernel_rfl)) rfl ?_
   exact ⟨_,by first|rfl|(simp [errW_none,errW_some] <;> rfl)|(simp [*,errW_none,errW_some] <;> rfl),by first|exact Kd.R_nil _ _ _ _ _|exact Kd.N_nil _ _ _ _ _|exact Kd.V_nil _ _ _ _ _|exact Kd.Q_nil _ _ _ _ _|exact Kd.S_nil _ _ _ _ _,bq1_ HB.out GE189.out⟩
  ·replace c7:=bm_ c7
   subst c7
   have H1:(some (5,a1,wrap64 ((wrap64 (t192+1)) - a1),(⟨#[]⟩:ByteArray),(⟨#[]⟩:ByteArray),([]:List (S52)),false))=some (r1,r2,r3,r4,r5,r6,r7):=by rw [if_neg (show ¬ (false=true) by decide)] at H;exact H
   clear H
   have H:=H1
   clear H1
   simp only [Option.some.injEq,Prod.mk.injEq] at H
   obtain ⟨rfl,rfl,rfl,rfl,rfl,rfl,rfl⟩:=H
   go_enter Tryz.func33,Tryz.ntmps33
   go_wp2_with (first|((with_reducible refine gate_dst (N:=4) rfl ?_);refine box_event ?hg (N:=4) ?hd (cs:=#[.int .i64 0,.int .i64 0,.int .i64 0,.string (⟨#[]⟩:ByteArray),.string (⟨#[]⟩:ByteArray),.slice none 0 0,.bool false]) (t:=24) ?hr ?_;(case hd=>rfl);(case hg=>rfl);(case hr=>first|(go_simp;done)|(go_simp;rfl));intro gb189 hg w11 hbox hb;have n0_:=A_ (bp_ (bq0_ HB.out) hb);have n1_:=A_ (hbox);have n2_:=A_ ((by rw [hg];exact (bz_ (bq0_ HB.out)):w.heap.size≤gb189));have n3_:=A_ ((by rw [hg];exact (bz_ (bq0_ HB.out)):w.heap.size≤gb189));clear HB;have HB:=n0_;have BK189:=n1_;have GW189:=n2_;have GE189:=n3_;clear n0_ n1_ n2_ n3_;clear hb hbox hg)|((with_reducible refine gate_callee (f:=53) rfl ?_);refine gl_ (some 13) rfl rfl Tryz.func53 (by kernel_rfl) rfl #[.string a0,.int .i64 (wrap64 (a1+2))] rfl  ?_;(with_reducible refine (spec_l04Name.calls k a0 (wrap64 (a1+2)) t190 t191 _ A3.out).mono ?_);rintro e w12 ⟨rfl,hb⟩;refine ⟨_,rfl,?_⟩;have n0_:=A_ (kb_ (kq_ BK189.out) hb);have n1_:=A_ (bp_ (bq1_ HB.out GE189.out) hb);clear BK189;clear HB;have BK189:=n0_;have HB:=n1_;clear n0_ n1_;(try clear hb);(try clear hb2);(try clear hk);(try clear hi))|((with_reducible refine gate_callee (f:=56) rfl ?_);refine gl_ (some 19) rfl rfl Tryz.func56 (by kernel_rfl) rfl #[.string a0,.string (⟨#[62]⟩:ByteArray),.int .i64 t191] rfl  ?_;(with_reducible refine (spec_l04Find.calls k a0 (⟨#[62]⟩:ByteArray) t191 t192 true _ A4.out).mono ?_);rintro e w' ⟨rfl,⟨nd,rfl⟩⟩;refine ⟨_,rfl,?_⟩;(try (rw [drewN_self w12];generalize hq_:World.drewN w12 _=w12;have n0_:Aside0 (w12.heap[gb189]? = some (.cells #[.int .i64 0,.int .i64 0,.int .i64 0,.string (⟨#[]⟩:ByteArray),.string (⟨#[]⟩:ByteArray),.slice none 0 0,.bool false] 24 (0,0))):=⟨by rw [←hq_];exact (kq_ BK189.out)⟩;have n1_:Aside0 (Below w.heap.size w w12):=⟨by rw [←hq_];exact (bq1_ HB.out GE189.out)⟩;clear BK189 HB hq_;have BK189:=n0_;have HB:=n1_;clear n0_ n1_;obtain ⟨hcygb189_0,hcygb189_1,hcygb189_2,hcygb189_3,hcygb189_4,hcygb189_5,hcygb189_6,hfygb189_0,hfygb189_1,hfygb189_2,hfygb189_3,hfygb189_4,hfygb189_5,hfygb189_6⟩:=g7_ BK189.out)))|((with_reducible refine gate_callee (f:=16) rfl ?_);refine gl_ (some 31) rfl rfl Tryz.func16 (by kernel_rfl) rfl #[.string t190] rfl  ?_;(with_reducible refine (spec_l01Tag.calls k t190 false _ A6.out).mono ?_);rintro e w' ⟨rfl,⟨nd,rfl⟩⟩;refine ⟨_,rfl,?_⟩;(try (rw [drewN_self w12];generalize hq_:World.drewN w12 _=w12;have n0_:Aside0 (w12.heap[gb189]? = some (.cells #[.int .i64 0,.int .i64 0,.int .i64 0,.string (⟨#[]⟩:ByteArray),.string (⟨#[]⟩:ByteArray),.slice none 0 0,.bool false] 24 (0,0))):=⟨by rw [←hq_];exact (kq_ BK189.out)⟩;have n1_:Aside0 (Below w.heap.size w w12):=⟨by rw [←hq_];exact (bq1_ HB.out GE189.out)⟩;clear BK189 HB hq_;have BK189:=n0_;have HB:=n1_;clear n0_ n1_;obtain ⟨hcygb189_0,hcygb189_1,hcygb189_2,hcygb189_3,hcygb189_4,hcygb189_5,hcygb189_6,hfygb189_0,hfygb189_1,hfygb189_2,hfygb189_3,hfygb189_4,hfygb189_5,hfygb189_6⟩:=g7_ BK189.out));obtain ⟨_,_,_,_,_,_,_,_,_,_,_,_,_,_⟩:=g7_ BK189.out))
   refine bodyPost_ret (results_cell_row rfl _ _ gb189 24 #[.int .i64 5,.int .i64 a1,.int .i64 (wrap64 ((wrap64 (t192+1)) - a1)),.string (⟨#[]⟩:ByteArray),.string (⟨#[]⟩:ByteArray),.slice none 0 0,.bool false] (0,0) _ rfl (by (with_reducible repeat first|apply kn_|apply kd_|apply ka_);exact p7_ (kq_ BK189.out)) Tryz.underlying24 rfl (by kernel_rfl)) rfl ?_
   exact ⟨_,by first|rfl|(simp [errW_none,errW_some] <;> rfl)|(simp [*,errW_none,errW_some] <;> rfl),by first|exact Kd.R_nil _ _ _ _ _|exact Kd.N_nil _ _ _ _ _|exact Kd.V_nil _ _ _ _ _|exact Kd.Q_nil _ _ _ _ _|exact Kd.S_nil _ _ _ _ _,bq1_ HB.out GE189.out⟩
 ·replace c5:=bm_ c5
  subst c5
  have H1:(some (5,a1,wrap64 ((a0.size:Int) - a1),(⟨#[]⟩:ByteArray),(⟨#[]⟩:ByteArray),([]:List (S52)),false))=some (r1,r2,r3,r4,r5,r6,r7):=by rw [if_neg (show ¬ (false=true) by decide)] at H;exact H
  clear H
  have H:=H1
  clear H1
  simp only [Option.some.injEq,Prod.mk.injEq] at H
  obtain ⟨rfl,rfl,rfl,rfl,rfl,rfl,rfl⟩:=H
  go_enter Tryz.func33,Tryz.ntmps33
  go_wp2_with (first|((with_reducible refine gate_dst (N:=4) rfl ?_);refine box_event ?hg (N:=4) ?hd (cs:=#[.int .i64 0,.int .i64 0,.int .i64 0,.string (⟨#[]⟩:ByteArray),.string (⟨#[]⟩:ByteArray),.slice none 0 0,.bool false]) (t:=24) ?hr ?_;(case hd=>rfl);(case hg=>rfl);(case hr=>first|(go_simp;done)|(go_simp;rfl));intro gb189 hg w14 hbox hb;have n0_:=A_ (bp_ (bq0_ HB.out) hb);have n1_:=A_ (hbox);have n2_:=A_ ((by rw [hg];exact (bz_ (bq0_ HB.out)):w.heap.size≤gb189));have n3_:=A_ ((by rw [hg];exact (bz_ (bq0_ HB.out)):w.heap.size≤gb189));clear HB;have HB:=n0_;have BK189:=n1_;have GW189:=n2_;have GE189:=n3_;clear n0_ n1_ n2_ n3_;clear hb hbox hg)|((with_reducible refine gate_callee (f:=53) rfl ?_);refine gl_ (some 13) rfl rfl Tryz.func53 (by kernel_rfl) rfl #[.string a0,.int .i64 (wrap64 (a1+2))] rfl  ?_;(with_reducible refine (spec_l04Name.calls k a0 (wrap64 (a1+2)) t190 t191 _ A3.out).mono ?_);rintro e w15 ⟨rfl,hb⟩;refine ⟨_,rfl,?_⟩;have n0_:=A_ (kb_ (kq_ BK189.out) hb);have n1_:=A_ (bp_ (bq1_ HB.out GE189.out) hb);clear BK189;clear HB;have BK189:=n0_;have HB:=n1_;clear n0_ n1_;(try clear hb);(try clear hb2);(try clear hk);(try clear hi))|((with_reducible refine gate_callee (f:=56) rfl ?_);refine gl_ (some 19) rfl rfl Tryz.func56 (by kernel_rfl) rfl #[.string a0,.string (⟨#[62]⟩:ByteArray),.int .i64 t191] rfl  ?_;(with_reducible refine (spec_l04Find.calls k a0 (⟨#[62]⟩:ByteArray) t191 t192 false _ A4.out).mono ?_);rintro e w' ⟨rfl,⟨nd,rfl⟩⟩;refine ⟨_,rfl,?_⟩;(try (rw [drewN_self w15];generalize hq_:World.drewN w15 _=w15;have n0_:Aside0 (w15.heap[gb189]? = some (.cells #[.int .i64 0,.int .i64 0,.int .i64 0,.string (⟨#[]⟩:ByteArray),.string (⟨#[]⟩:ByteArray),.slice none 0 0,.bool false] 24 (0,0))):=⟨by rw [←hq_];exact (kq_ BK189.out)⟩;have n1_:Aside0 (Below w.heap.size w w15):=⟨by rw [←hq_];exact (bq1_ HB.out GE189.out)⟩;clear BK189 HB hq_;have BK189:=n0_;have HB:=n1_;clear n0_ n1_;obtain ⟨hcygb189_0,hcygb189_1,hcygb189_2,hcygb189_3,hcygb189_4,hcygb189_5,hcygb189_6,hfygb189_0,hfygb189_1,hfygb189_2,hfygb189_3,hfygb189_4,hfygb189_5,hfygb189_6⟩:=g7_ BK189.out));obtain ⟨hcz16_0,hcz16_1,hcz16_2,hcz16_3,hcz16_4,hcz16_5,hcz16_6,hfz16_0,hfz16_1,hfz16_2,hfz16_3,hfz16_4,hfz16_5,hfz16_6⟩:=g7_ BK189.out))
  refine bodyPost_ret (results_cell_row rfl _ _ gb189 24 #[.int .i64 5,.int .i64 a1,.int .i64 (wrap64 ((a0.size:Int) - a1)),.string (⟨#[]⟩:ByteArray),.string (⟨#[]⟩:ByteArray),.slice none 0 0,.bool false] (0,0) _ rfl (by (with_reducible repeat first|apply kn_|apply kd_|apply ka_);exact p7_ (kq_ BK189.out)) Tryz.underlying24 rfl (by kernel_rfl)) rfl ?_
  exact ⟨_,by first|rfl|(simp [errW_none,errW_some] <;> rfl)|(simp [*,errW_none,errW_some] <;> rfl),by first|exact Kd.R_nil _ _ _ _ _|exact Kd.N_nil _ _ _ _ _|exact Kd.V_nil _ _ _ _ _|exact Kd.Q_nil _ _ _ _ _|exact Kd.S_nil _ _ _ _ _,bq1_ HB.out GE189.out⟩
def spec_l04Comment.f (k:Nat) (a0:ByteArray) (a1:Int) (a2:Int) (a3:ByteArray):Option (Int × Int × Int × ByteArray × ByteArray × (List (S52)) × Bool):=(spec_l04Find.f k a0 a3 a2).bind fun bt196=>(if bt196.2=true then (if 0≤a2 then (if a2≤bt196.1 then (if bt196.1≤(a0.size:Int) then (some (4,a1,wrap64 ((wrap64 (bt196.1 - a1))+(a3.size:Int)),(⟨#[]⟩:ByteArray),a0.extract (a2:Int).toNat (bt196.1:Int).toNat,([]:List (S52)),false)) else (none)) else (none)) else (none)) else (if 0≤a2 then (if a2≤bt196.1 then (if bt196.1≤(a0.size:Int) then (some (4,a1,wrap64 (bt196.1 - a1),(⟨#[]⟩:ByteArray),a0.extract (a2:Int).toNat (bt196.1:Int).toNat,([]:List (S52)),false)) else (none)) else (none)) else (none)))
theorem spec_l04Comment.mono:∀ a0 a1 a2 a3 k,LeO (spec_l04Comment.f k a0 a1 a2 a3) (spec_l04Comment.f (k+1) a0 a1 a2 a3):=by
 intro a0 a1 a2 a3 k
 unfold spec_l04Comment.f
 repeat' first|(with_reducible first|exact spec_l04Find.mono ..|exact LeO.refl _|exact LeO.none _|refine LeO.ite ?_ ?_|refine LeO.bind ?_ (fun _=>?_))|exact LeO.none _|refine LeO.ite ?_ ?_|refine LeO.bind ?_ (fun _=>?_)
set_option maxHeartbeats 8000000 in
set_option maxRecDepth 100000 in
theorem spec_l04Comment.calls (k:Nat) (a0:ByteArray) (a1:Int) (a2:Int) (a3:ByteArray) (r1:Int) (r2:Int) (r3:Int) (r4:ByteArray) (r5:ByteArray) (r6:List (S52)) (r7:Bool) (w:World) (h:spec_l04Comment.f k a0 a1 a2 a3=some (r1,r2,r3,r4,r5,r6,r7)) :
 Calls Tryz.prog 34 #[.string a0,.int .i64 a1,.int .i64 a2,.string a3] w fun e w'=>∃ v5_:Value,e=.returned (.agg #[.int .i64 r1,.int .i64 r2,.int .i64 r3,.string r4,.string r5,v5_,.bool r7])∧Kd.R k52 52 w' w.heap.size (fun _=>True) v5_ r6∧Below w.heap.size w w':=by
 have hu24:=Tryz.underlying24
 have HB:=A_ (Below.refl w.heap.size w)
 have H:((spec_l04Find.f k a0 a3 a2).bind fun bt196=>(if bt196.2=true then (if 0≤a2 then (if a2≤bt196.1 then (if bt196.1≤(a0.size:Int) then (some (4,a1,wrap64 ((wrap64 (bt196.1 - a1))+(a3.size:Int)),(⟨#[]⟩:ByteArray),a0.extract (a2:Int).toNat (bt196.1:Int).toNat,([]:List (S52)),false)) else (none)) else (none)) else (none)) else (if 0≤a2 then (if a2≤bt196.1 then (if bt196.1≤(a0.size:Int) then (some (4,a1,wrap64 (bt196.1 - a1),(⟨#[]⟩:ByteArray),a0.extract (a2:Int).toNat (bt196.1:Int).toNat,([]:List (S52)),false)) else (none)) else (none)) else (none))))=some (r1,r2,r3,r4,r5,r6,r7):=h
 clear h
 replace H:=ob_ H
 obtain ⟨⟨t196,t197⟩,A50,H⟩:=H
 replace H:(if t197=true then (if 0≤a2 then (if a2≤t196 then (if t196≤(a0.size:Int) then (some (4,a1,wrap64 ((wrap64 (t196 - a1))+(a3.size:Int)),(⟨#[]⟩:ByteArray),a0.extract (a2:Int).toNat (t196:Int).toNat,([]:List (S52)),false)) else (none)) else (none)) else (none)) else (if 0≤a2 then (if a2≤t196 then (if t196≤(a0.size:Int) then (some (4,a1,wrap64 (t196 - a1),(⟨#[]⟩:ByteArray),a0.extract (a2:Int).toNat (t196:Int).toNat,([]:List (S52)),false)) else (none)) else (none)) else (none)))=some (r1,r2,r3,r4,r5,r6,r7):=H
 have A5:=A_ A50
 clear A50
 by_cases c6:t197=true
 ·subst c6
  have H1:(if 0≤a2 then (if a2≤t196 then (if t196≤(a0.size:Int) then (some (4,a1,wrap64 ((wrap64 (t196 - a1))+(a3.size:Int)),(⟨#[]⟩:ByteArray),a0.extract (a2:Int).toNat (t196:Int).toNat,([]:List (S52)),false)) else (none)) else (none)) else (none))=some (r1,r2,r3,r4,r5,r6,r7):=by rw [if_pos rfl] at H;exact H
  clear H
  have H:=H1
  clear H1
  by_cases c7:0≤a2
  ·rw [if_pos c7] at H
   have c7b0:=eq_true c7
   have c7b1:decide (0≤a2)=true:=dt_ c7
   clear c7
   by_cases c8:a2≤t196
   ·rw [if_pos c8] at H
    have c8b0:=eq_true c8
    have c8b1:decide (a2≤t196)=true:=dt_ c8
    clear c8
    by_cases c9:t196≤(a0.size:Int)
    ·rw [if_pos c9] at H
     have c9b0:=eq_true c9
     have c9b1:decide (t196≤(a0.size:Int))=true:=dt_ c9
     clear c9
     simp only [Option.some.injEq,Prod.mk.injEq] at H
     obtain ⟨rfl,rfl,rfl,rfl,rfl,rfl,rfl⟩:=H
     go_enter Tryz.func34,Tryz.ntmps34
     go_wp2_with (first|((with_reducible refine gate_dst (N:=8) rfl ?_);refine box_event ?hg (N:=8) ?hd (cs:=#[.int .i64 0,.int .i64 0,.int .i64 0,.string (⟨#[]⟩:ByteArray),.string (⟨#[]⟩:ByteArray),.slice none 0 0,.bool false]) (t:=24) ?hr ?_;(case hd=>rfl);(case hg=>rfl);(case hr=>first|(go_simp;done)|(go_simp;rfl));intro gb195 hg w10 hbox hb;have n0_:=A_ (bp_ (bq0_ HB.out) hb);have n1_:=A_ (hbox);have n2_:=A_ ((by rw [hg];exact (bz_ (bq0_ HB.out)):w.heap.size≤gb195));have n3_:=A_ ((by rw [hg];exact (bz_ (bq0_ HB.out)):w.heap.size≤gb195));clear HB;have HB:=n0_;have BK195:=n1_;have GW195:=n2_;have GE195:=n3_;clear n0_ n1_ n2_ n3_;clear hb hbox hg)|((with_reducible refine gate_callee (f:=56) rfl ?_);refine gl_ (some 16) rfl rfl Tryz.func56 (by kernel_rfl) rfl #[.string a0,.string a3,.int .i64 a2] rfl  ?_;(with_reducible refine (spec_l04Find.calls k a0 a3 a2 t196 true _ A5.out).mono ?_);rintro e w' ⟨rfl,⟨nd,rfl⟩⟩;refine ⟨_,rfl,?_⟩;(try (rw [drewN_self w10];generalize hq_:World.drewN w10 _=w10;have n0_:Aside0 (w10.heap[gb195]? = some (.cells #[.int .i64 0,.int .i64 0,.int .i64 0,.string (⟨#[]⟩:ByteArray),.string (⟨#[]⟩:ByteArray),.slice none 0 0,.bool false] 24 (0,0))):=⟨by rw [←hq_];exact (kq_ BK195.out)⟩;have n1_:Aside0 (Below w.heap.size w w10):=⟨by rw [←hq_];exact (bq1_ HB.out GE195.out)⟩;clear BK195 HB hq_;have BK195:=n0_;have HB:=n1_;clear n0_ n1_;obtain ⟨hcygb195_0,hcygb195_1,hcygb195_2,hcygb195_3,hcygb195_4,hcygb195_5,hcygb195_6,hfygb195_0,hfygb195_1,hfygb195_2,hfygb195_3,hfygb195_4,hfygb195_5,hfygb195_6⟩:=g7_ BK195.out));obtain ⟨_,_,_,_,_,_,_,_,_,_,_,_,_,_⟩:=g7_ BK195.out))
     refine bodyPost_ret (results_cell_row rfl _ _ gb195 24 #[.int .i64 4,.int .i64 a1,.int .i64 (wrap64 ((wrap64 (t196 - a1))+(a3.size:Int))),.string (⟨#[]⟩:ByteArray),.string (a0.extract (a2:Int).toNat (t196:Int).toNat),.slice none 0 0,.bool false] (0,0) _ rfl (by (with_reducible repeat first|apply kn_|apply kd_|apply ka_);exact p7_ (kq_ BK195.out)) Tryz.underlying24 rfl (by kernel_rfl)) rfl ?_
     exact ⟨_,by first|rfl|(simp [errW_none,errW_some] <;> rfl)|(simp [*,errW_none,errW_some] <;> rfl),by first|exact Kd.R_nil _ _ _ _ _|exact Kd.N_nil _ _ _ _ _|exact Kd.V_nil _ _ _ _ _|exact Kd.Q_nil _ _ _ _ _|exact Kd.S_nil _ _ _ _ _,bq1_ HB.out GE195.out⟩
    ·rw [if_neg c9] at H
     exact absurd H (by simp)
   ·rw [if_neg c8] at H
    exact absurd H (by simp)
  ·rw [if_neg c7] at H
   exact absurd H (by simp)
 ·replace c6:=bm_ c6
  subst c6
  have H1:(if 0≤a2 then (if a2≤t196 then (if t196≤(a0.size:Int) then (some (4,a1,wrap64 (t196 - a1),(⟨#[]⟩:ByteArray),a0.extract (a2:Int).toNat (t196:Int).toNat,([]:List (S52)),false)) else (none)) else (none)) else (none))=some (r1,r2,r3,r4,r5,r6,r7):=by rw [if_neg (show ¬ (false=true) by decide)] at H;exact H
  clear H
  have H:=H1
  clear H1
  by_cases c12:0≤a2
  ·rw [if_pos c12] at H
   have c12b0:=eq_true c12
   have c12b1:decide (0≤a2)=true:=dt_ c12
   clear c12
   by_cases c13:a2≤t196
   ·rw [if_pos c13] at H
    have c13b0:=eq_true c13
    have c13b1:decide (a2≤t196)=true:=dt_ c13
    clear c13
    by_cases c14:t196≤(a0.size:Int)
    ·rw [if_pos c14] at H
     have c14b0:=eq_true c14
     have c14b1:decide (t196≤(a0.size:Int))=true:=dt_ c14
     clear c14
     simp only [Option.some.injEq,Prod.mk.injEq] at H
     obtain ⟨rfl,rfl,rfl,rfl,rfl,rfl,rfl⟩:=H
     go_enter Tryz.func34,Tryz.ntmps34
     go_wp2_with (first|((with_reducible refine gate_dst (N:=8) rfl ?_);refine box_event ?hg (N:=8) ?hd (cs:=#[.int .i64 0,.int .i64 0,.int .i64 0,.string (⟨#[]⟩:ByteArray),.string (⟨#[]⟩:ByteArray),.slice none 0 0,.bool false]) (t:=24) ?hr ?_;(case hd=>rfl);(case hg=>rfl);(case hr=>first|(go_simp;done)|(go_simp;rfl));intro gb195 hg w15 hbox hb;have n0_:=A_ (bp_ (bq0_ HB.out) hb);have n1_:=A_ (hbox);have n2_:=A_ ((by rw [hg];exact (bz_ (bq0_ HB.out)):w.heap.size≤gb195));have n3_:=A_ ((by rw [hg];exact (bz_ (bq0_ HB.out)):w.heap.size≤gb195));clear HB;have HB:=n0_;have BK195:=n1_;have GW195:=n2_;have GE195:=n3_;clear n0_ n1_ n2_ n3_;clear hb hbox hg)|((with_reducible refine gate_callee (f:=56) rfl ?_);refine gl_ (some 16) rfl rfl Tryz.func56 (by kernel_rfl) rfl #[.string a0,.string a3,.int .i64 a2] rfl  ?_;(with_reducible refine (spec_l04Find.calls k a0 a3 a2 t196 false _ A5.out).mono ?_);rintro e w' ⟨rfl,⟨nd,rfl⟩⟩;refine ⟨_,rfl,?_⟩;(try (rw [drewN_self w15];generalize hq_:World.drewN w15 _=w15;have n0_:Aside0 (w15.heap[gb195]? = some (.cells #[.int .i64 0,.int .i64 0,.int .i64 0,.string (⟨#[]⟩:ByteArray),.string (⟨#[]⟩:ByteArray),.slice none 0 0,.bool false] 24 (0,0))):=⟨by rw [←hq_];exact (kq_ BK195.out)⟩;have n1_:Aside0 (Below w.heap.size w w15):=⟨by rw [←hq_];exact (bq1_ HB.out GE195.out)⟩;clear BK195 HB hq_;have BK195:=n0_;have HB:=n1_;clear n0_ n1_;obtain ⟨hcygb195_0,hcygb195_1,hcygb195_2,hcygb195_3,hcygb195_4,hcygb195_5,hcygb195_6,hfygb195_0,hfygb195_1,hfygb195_2,hfygb195_3,hfygb195_4,hfygb195_5,hfygb195_6⟩:=g7_ BK195.out));obtain ⟨hcz16_0,hcz16_1,hcz16_2,hcz16_3,hcz16_4,hcz16_5,hcz16_6,hfz16_0,hfz16_1,hfz16_2,hfz16_3,hfz16_4,hfz16_5,hfz16_6⟩:=g7_ BK195.out))
     refine bodyPost_ret (results_cell_row rfl _ _ gb195 24 #[.int .i64 4,.int .i64 a1,.int .i64 (wrap64 (t196 - a1)),.string (⟨#[]⟩:ByteArray),.string (a0.extract (a2:Int).toNat (t196:Int).toNat),.slice none 0 0,.bool false] (0,0) _ rfl (by (with_reducible repeat first|apply kn_|apply kd_|apply ka_);exact p7_ (kq_ BK195.out)) Tryz.underlying24 rfl (by kernel_rfl)) rfl ?_
     exact ⟨_,by first|rfl|(simp [errW_none,errW_some] <;> rfl)|(simp [*,errW_none,errW_some] <;> rfl),by first|exact Kd.R_nil _ _ _ _ _|exact Kd.N_nil _ _ _ _ _|exact Kd.V_nil _ _ _ _ _|exact Kd.Q_nil _ _ _ _ _|exact Kd.S_nil _ _ _ _ _,bq1_ HB.out GE195.out⟩
    ·rw [if_neg c14] at H
     exact absurd H (by simp)
   ·rw [if_neg c13] at H
    exact absurd H (by simp)
  ·rw [if_neg c12] at H
   exact absurd H (by simp)
end Go.Proofs.YtfkanlbmgbkniaaGreatDoor.PFnExactTokensOf
