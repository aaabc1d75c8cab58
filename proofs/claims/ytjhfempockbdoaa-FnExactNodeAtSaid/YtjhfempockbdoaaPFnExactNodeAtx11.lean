/- By a program of this session, out of the kit's print and contracts made by hand: the machine side of a law; Lean checks it. No conditions. -/
import Derived.Test.YtjhfempockbdoaaPFnExactNodeAtx0
import Derived.Test.YtjhfempockbdoaaPFnExactNodeAtx9
import Derived.Test.YtjhfempockbdoaaPFnExactNodeAtx10
namespace Go.Proofs.Ytjhfempockbdoaa.PFnExactNodeAt
open Go.RowKit Go.Proofs.YtjhfempockbdoaaW.PrintWords Go.Proofs.YtjhfempockbdoaaW.PrintLast Go.Proofs.YtjhfempockbdoaaW.PrintMore
attribute [local go_sem] max2_int min2_int max_two min_two max_three min_three max_four min_four
set_option linter.unusedVariables false
set_option linter.unusedSimpArgs false
/-! ### spec_l03Copy: function 19 -/
mutual
def spec_l03Copy.l0:Nat→List (S28)→List (S28)→Int→Option ((List (S28)))
 | 0,_,_,_=>none
 | k+1,x0,x3,x4=>if x4<(x0.length:Int) then (if 0≤x4 then ((some (([]:List (S63)):List (S63))).bind fun y155=>(if y155.length+((rd_T28 x0 x4).f4).length<4398046511104 then ((spec_l03Copy.f k ((rd_T28 x0 x4).f5)).bind fun t161=>(if x3.length<1466015503701 then (spec_l03Copy.l0 k x0 (x3++[(⟨(rd_T28 x0 x4).f0,(rd_T28 x0 x4).f1,(rd_T28 x0 x4).f2,(rd_T28 x0 x4).f3,(y155++((rd_T28 x0 x4).f4)),t161⟩:S28)]) (wrap64 (x4+1))) else (none))) else (none))) else (none)) else (some x3)
def spec_l03Copy.f:Nat→List (S28)→Option ((List (S28)))
 | 0,_=>none
 | k+1,l0=>spec_l03Copy.l0 k l0 (([]:List (S28))) 0
end
theorem spec_l03Copy.mono_l:∀ k,(∀ y0,LeO (spec_l03Copy.f k y0) (spec_l03Copy.f (k+1) y0))∧(∀ y0 y1 y2,LeO (spec_l03Copy.l0 k y0 y1 y2) (spec_l03Copy.l0 (k+1) y0 y1 y2))
 | 0=>⟨fun _ r h=>by simp [spec_l03Copy.f] at h,fun _ _ _ r h=>by simp [spec_l03Copy.l0] at h⟩
 | k+1=>by
  obtain ⟨ih0,ih1⟩:=spec_l03Copy.mono_l k
  refine ⟨?_,?_⟩
  ·intro y0
   unfold spec_l03Copy.f
   repeat' first
   | (with_reducible exact ih0 _)
   | (with_reducible exact ih1 _ _ _)
   | (with_reducible exact LeO.refl _)
   | (with_reducible exact LeO.none _)
   | (with_reducible refine LeO.ite ?_ ?_)
   | (with_reducible refine LeO.bind ?_ (fun _=>?_))
   | exact ih0 _
   | exact ih1 _ _ _
   | exact LeO.none _
   | refine LeO.ite ?_ ?_
   | refine LeO.bind ?_ (fun _=>?_)
  ·intro y0 y1 y2
   unfold spec_l03Copy.l0
   repeat' first
   | (with_reducible exact ih0 _)
   | (with_reducible exact ih1 _ _ _)
   | (with_reducible exact LeO.refl _)
   | (with_reducible exact LeO.none _)
   | (with_reducible refine LeO.ite ?_ ?_)
   | (with_reducible refine LeO.bind ?_ (fun _=>?_))
   | exact ih0 _
   | exact ih1 _ _ _
   | exact LeO.none _
   | refine LeO.ite ?_ ?_
   | refine LeO.bind ?_ (fun _=>?_)
theorem spec_l03Copy.mono:∀ a0 k,LeO (spec_l03Copy.f k a0) (spec_l03Copy.f (k+1) a0):=by
 intro a0 k
 obtain ⟨ih0,ih1⟩:=spec_l03Copy.mono_l k
 exact ih0 a0
set_option maxHeartbeats 8000000 in
set_option maxRecDepth 100000 in
theorem spec_l03Copy.calls (k:Nat):∀ (A0:Option Addr) (c0:Nat) (l0:List (S28)) (r:List (S28)) (w:World) (hr0:Kd.C k28 w A0 l0.length l0) (hc0:l0.length≤c0) (h:spec_l03Copy.f k l0=some r),
 Calls Try.prog 19 #[.slice A0 l0.length c0] w fun e w'=>∃ v0_:Value,e=.returned (v0_)∧Kd.R k28 28 w' w.heap.size (fun _=>True) v0_ r∧Below w.heap.size w w':=by
 induction k using Nat.strongRecOn with
 | _ k ih =>
 intro A0 c0 l0 r w hr0 hc0 h
 cases k with
 | zero=>exact absurd h (by simp [spec_l03Copy.f])
 | succ k =>
 simp only [spec_l03Copy.f] at h
 have hu28:=Try.underlying28
 have HR0:=A_ hr0
 have HC0:=A_ hc0
 clear hr0 hc0
 have HB:=A_ (Below.refl w.heap.size w)
 have H:(spec_l03Copy.l0 k l0 (([]:List (S28))) 0)=some r:=h
 clear h
 obtain ⟨y150,hy150⟩:∃ y_:List (S28),y_=(([]:List (S28))):=⟨_,rfl⟩
 replace H:(spec_l03Copy.l0 k l0 y150 0)=some r:=by first|(rw [hy150];with_reducible exact H)|(have H2_:=(Option.bind_some _ _).symm.trans H;rw [hy150];with_reducible exact H2_)|(have H2_:=(Option.bind_some _ _).symm.trans H;with_reducible exact H2_)|with_reducible exact H|(rw [hy150];exact H)|exact H
 have Ny150:=A_ hy150
 clear hy150
 have H':=A_ H
 clear H
 go_enter Try.func19,Try.ntmps19
 go_wp2_with (first|((with_reducible refine gate_dst (N:=6) rfl ?_);refine Kd.R_lit k28 _ 28 ?hg (N:=6) ?hd (xs:=([]:List (S28))) (inner:=[]) (ok:=fun _=>True) (okp:=fun _=>True) ?hr ?hp (fun _ hk=>hk) trivial (Below.refl _ _) (Nat.le_refl _) (by simp) ?_;(case hd=>rfl);(case hg=>rfl);(case hr=>first|(go_simp;done)|(go_simp;rfl)|(first|(go_simp;done)|(go_simp;rfl)));(case hp=>exact (Reps.none _ _));intro v151 w2 ho3 hb hg_ hnew_;clear hg_ hnew_;(first|rw [←Ny150.out] at ho3|(simp only [Int.reduceToNat] at ho3;rw [←Ny150.out] at ho3));have n0_:=A_ (Kd.R_lower ho3 (bz_ (by repeat (first|(with_reducible first|exact HB.out|apply ba_|apply pd_|apply b1_)|exact HB.out))));have n1_:=A_ (bp_ (by repeat (first|(with_reducible first|exact HB.out|apply ba_|apply pd_|apply b1_)|exact HB.out)) hb);clear HB;have HO152:=n0_;have HB:=n1_;clear n0_ n1_;clear hb ho3))
 go_loopg [3,4] k (fun kq v3 v4 w'=>∃ (x3_1:List (S28)) (x4_1:Int),v4=.int .i64 x4_1∧Aside0 (spec_l03Copy.l0 kq l0 x3_1 x4_1=some r)∧Aside0 (kq≤k)∧Aside0 (Kd.R k28 28 w' w.heap.size (fun _=>True) v3 x3_1)∧Aside0 (Below w.heap.size w w'))
 case atStart=>exact ⟨(y150),(0),(by first|rfl|(simp;done)|(simp [*];done)),H',⟨Nat.le_refl _⟩,⟨by (with_reducible repeat (first|apply Kd.R_alloc|apply Kd.R_drewN|apply Kd.R_drew));exact HO152.out⟩,⟨by repeat (first|(with_reducible first|exact HB.out|apply ba_|apply pd_|apply b1_)|exact HB.out)⟩⟩
 case round =>
  clear H'
  try clear c1
  try clear p2
  obtain ⟨x3_1,x4_1,rfl,HA,HK1,HO_3,HB⟩:=hrel
  cases gk with
  | zero=>exact absurd HA.out (by simp [spec_l03Copy.l0])
  | succ k1 =>
   have H:=HA.out
   clear HA
   simp only [spec_l03Copy.l0] at H
   by_cases c4:x4_1<(l0.length:Int)
   ·rw [if_pos c4] at H
    have c4b0:decide (x4_1<(l0.length:Int))=true:=dt_ c4
    clear c4
    by_cases c5:0≤x4_1
    ·rw [if_pos c5] at H
     have c5b0:decide (0≤x4_1)=true:=dt_ c5
     clear c5
     obtain ⟨y155,hy155⟩:∃ y_:List (S63),y_=(([]:List (S63))):=⟨_,rfl⟩
     replace H:(if y155.length+((rd_T28 l0 x4_1).f4).length<4398046511104 then ((spec_l03Copy.f k1 ((rd_T28 l0 x4_1).f5)).bind fun t161=>(if x3_1.length<1466015503701 then (spec_l03Copy.l0 k1 l0 (x3_1++[(⟨(rd_T28 l0 x4_1).f0,(rd_T28 l0 x4_1).f1,(rd_T28 l0 x4_1).f2,(rd_T28 l0 x4_1).f3,(y155++((rd_T28 l0 x4_1).f4)),t161⟩:S28)]) (wrap64 (x4_1+1))) else (none))) else (none))=some r:=by first|(rw [hy155];with_reducible exact H)|(have H2_:=(Option.bind_some _ _).symm.trans H;rw [hy155];with_reducible exact H2_)|(have H2_:=(Option.bind_some _ _).symm.trans H;with_reducible exact H2_)|with_reducible exact H|(rw [hy155];exact H)|exact H
     have Ny155:=A_ hy155
     clear hy155
     by_cases c6:y155.length+((rd_T28 l0 x4_1).f4).length<4398046511104
     ·rw [if_pos c6] at H
      have LMc6:=A_ c6
      clear c6
      obtain ⟨y158,hy158⟩:∃ y_:List (S63),y_=(y155++((rd_T28 l0 x4_1).f4)):=⟨_,rfl⟩
      replace H:((spec_l03Copy.f k1 ((rd_T28 l0 x4_1).f5)).bind fun t161=>(if x3_1.length<1466015503701 then (spec_l03Copy.l0 k1 l0 (x3_1++[(⟨(rd_T28 l0 x4_1).f0,(rd_T28 l0 x4_1).f1,(rd_T28 l0 x4_1).f2,(rd_T28 l0 x4_1).f3,y158,t161⟩:S28)]) (wrap64 (x4_1+1))) else (none)))=some r:=by first|(rw [hy158];with_reducible exact H)|(have H2_:=(Option.bind_some _ _).symm.trans H;rw [hy158];with_reducible exact H2_)|(have H2_:=(Option.bind_some _ _).symm.trans H;with_reducible exact H2_)|with_reducible exact H|(rw [hy158];exact H)|exact H
      have Ny158:=A_ hy158
      clear hy158
      replace H:=ob_ H
      obtain ⟨t161,A70,H⟩:=H
      replace H:(if x3_1.length<1466015503701 then (spec_l03Copy.l0 k1 l0 (x3_1++[(⟨(rd_T28 l0 x4_1).f0,(rd_T28 l0 x4_1).f1,(rd_T28 l0 x4_1).f2,(rd_T28 l0 x4_1).f3,y158,t161⟩:S28)]) (wrap64 (x4_1+1))) else (none))=some r:=H
      have A7:=A_ A70
      clear A70
      by_cases c8:x3_1.length<1466015503701
      ·rw [if_pos c8] at H
       have LMc8:=A_ c8
       clear c8
       obtain ⟨y164,hy164⟩:∃ y_:List (S28),y_=(x3_1++[(⟨(rd_T28 l0 x4_1).f0,(rd_T28 l0 x4_1).f1,(rd_T28 l0 x4_1).f2,(rd_T28 l0 x4_1).f3,y158,t161⟩:S28)]):=⟨_,rfl⟩
       replace H:(spec_l03Copy.l0 k1 l0 y164 (wrap64 (x4_1+1)))=some r:=by first|(rw [hy164];with_reducible exact H)|(have H2_:=(Option.bind_some _ _).symm.trans H;rw [hy164];with_reducible exact H2_)|(have H2_:=(Option.bind_some _ _).symm.trans H;with_reducible exact H2_)|with_reducible exact H|(rw [hy164];exact H)|exact H
       have Ny164:=A_ hy164
       clear hy164
       have H':=A_ H
       clear H
       have p153:0≤(x4_1:Int):=od_ (by first|(with_reducible assumption)|assumption)
       have q153:x4_1<(l0.length:Int):=od_ (by first|(with_reducible assumption)|assumption)
       obtain ⟨ad153,A153_4,c153_4,A153_5,c153_5,e153,hx153_0,hx153_1,hx153_2,hx153_3,hx153_4,hx153_5,hl153_4,hi153_4,hl153_5,hi153_5⟩:=at_T28 HR0.out x4_1 p153 q153
       cases e153
       replace hx153_0:=(HB.out.cell (bl_ w _ hx153_0)).trans hx153_0
       replace hx153_1:=(HB.out.cell (bl_ w _ hx153_1)).trans hx153_1
       replace hx153_2:=(HB.out.cell (bl_ w _ hx153_2)).trans hx153_2
       replace hx153_3:=(HB.out.cell (bl_ w _ hx153_3)).trans hx153_3
       replace hx153_4:=(HB.out.cell (bl_ w _ hx153_4)).trans hx153_4
       replace hx153_5:=(HB.out.cell (bl_ w _ hx153_5)).trans hx153_5
       have HR153_4:=A_ hi153_4
       have HC153_4:=A_ hl153_4
       clear hi153_4 hl153_4
       have HR153_5:=A_ hi153_5
       have HC153_5:=A_ hl153_5
       clear hi153_5 hl153_5
       replace p153:=eq_true p153
       replace q153:=eq_true q153
       go_wp2_with (first|((with_reducible refine gate_dst (N:=5) rfl ?_);refine box_event ?hg (N:=5) ?hd (cs:=#[.int .i64 0,.int .i64 0,.string (⟨#[]⟩:ByteArray),.string (⟨#[]⟩:ByteArray),.slice none 0 0,.slice none 0 0]) (t:=28) ?hr ?_;(case hd=>rfl);(case hg=>rfl);(case hr=>first|(go_simp;done)|(go_simp;rfl)|((first|(obtain ⟨_,_,rfl⟩:=Kd.R_slice HO152.out)|(obtain ⟨_,_,rfl⟩:=Kd.S_slice HO152.out)|skip);first|(go_simp;done)|(go_simp;rfl)));intro gb154 hg w9 hbox hb;have n0_:=A_ (Kd.R_below (Kd.R_elderB (by (with_reducible repeat (first|apply Kd.R_alloc|apply Kd.R_drewN|apply Kd.R_drew));exact HO_3.out) gb154 (Nat.le_of_eq hg.symm)) hb);have n1_:=A_ (bp_ (by repeat (first|(with_reducible first|exact HB.out|apply ba_|apply pd_|apply b1_)|exact HB.out)) hb);have n2_:=A_ (hbox);have n3_:=A_ ((by rw [hg];exact (bz_ (by repeat (first|(with_reducible first|exact HB.out|apply ba_|apply pd_|apply b1_)|exact HB.out))):w.heap.size≤gb154));have n4_:=A_ ((by rw [hg];exact (bz_ (by repeat (first|(with_reducible first|exact HB.out|apply ba_|apply pd_|apply b1_)|exact HB.out))):w.heap.size≤gb154));clear HO_3;clear HB;have HO_3:=n0_;have HB:=n1_;have BK154:=n2_;have GW154:=n3_;have GE154:=n4_;clear n0_ n1_ n2_ n3_ n4_;clear hb hbox hg;have hcz10_0:w9.cell? ⟨gb154,0,none⟩=some (.int .i64 0):=(bc_ BK154.out 0).trans rfl;have hcz10_1:w9.cell? ⟨gb154,1,none⟩=some (.int .i64 0):=(bc_ BK154.out 1).trans rfl;have hcz10_2:w9.cell? ⟨gb154,2,none⟩=some (.string (⟨#[]⟩:ByteArray)):=(bc_ BK154.out 2).trans rfl;have hcz10_3:w9.cell? ⟨gb154,3,none⟩=some (.string (⟨#[]⟩:ByteArray)):=(bc_ BK154.out 3).trans rfl;have hcz10_4:w9.cell? ⟨gb154,4,none⟩=some (.slice none 0 0):=(bc_ BK154.out 4).trans rfl;have hcz10_5:w9.cell? ⟨gb154,5,none⟩=some (.slice none 0 0):=(bc_ BK154.out 5).trans rfl;have hfz10_0:=bf_ BK154.out 0;have hfz10_1:=bf_ BK154.out 1;have hfz10_2:=bf_ BK154.out 2;have hfz10_3:=bf_ BK154.out 3;have hfz10_4:=bf_ BK154.out 4;have hfz10_5:=bf_ BK154.out 5)|((with_reducible refine gate_dst (N:=17) rfl ?_);refine Kd.R_lit k63 _ 63 ?hg (N:=17) ?hd (xs:=([]:List (S63))) (inner:=[]) (ok:=fun _=>True) (okp:=fun _=>True) ?hr ?hp (fun _ hk=>hk) trivial (Below.refl _ _) (Nat.le_refl _) (by simp) ?_;(case hd=>rfl);(case hg=>rfl);(case hr=>first|(go_simp;done)|(go_simp;rfl)|((first|(obtain ⟨_,_,rfl⟩:=Kd.R_slice HO152.out)|(obtain ⟨_,_,rfl⟩:=Kd.S_slice HO152.out)|skip);first|(go_simp;done)|(go_simp;rfl)));(case hp=>exact (Reps.none _ _));intro v156 w11 ho12 hb hg_ hnew_;clear hg_ hnew_;(first|rw [←Ny155.out] at ho12|(simp only [Int.reduceToNat] at ho12;rw [←Ny155.out] at ho12));have n0_:=A_ (Kd.R_elder' (by (with_reducible repeat (first|apply Kd.R_alloc|apply Kd.R_drewN|apply Kd.R_drew));exact (Kd.R_mono (Kd.R_far (p:=⟨gb154,5,none⟩) (Kd.R_far (p:=⟨gb154,4,none⟩) (Kd.R_far (p:=⟨gb154,3,none⟩) (Kd.R_far (p:=⟨gb154,2,none⟩) (Kd.R_far (p:=⟨gb154,1,none⟩) (Kd.R_far (p:=⟨gb154,0,none⟩) (Kd.R_mono HO_3.out (fun k_ hk=>(⟨hk,hk.2⟩:_∧k_≠gb154))) (fun _ hk=>hk.2) (.int .i64 ((rd_T28 l0 x4_1).f0))) (fun _ hk=>hk.2) (.int .i64 ((rd_T28 l0 x4_1).f1))) (fun _ hk=>hk.2) (.string ((rd_T28 l0 x4_1).f2))) (fun _ hk=>hk.2) (.string ((rd_T28 l0 x4_1).f3))) (fun _ hk=>hk.2) (.slice A153_4 ((rd_T28 l0 x4_1).f4).length c153_4)) (fun _ hk=>hk.2) (.slice A153_5 ((rd_T28 l0 x4_1).f5).length c153_5)) (fun _ h_=>h_.1))) (Kd.R_base ho12) hb);have n1_:=A_ (Kd.R_lower ho12 (bz_ (by repeat (first|(with_reducible first|exact HB.out|apply ba_|apply pd_|apply b1_|refine bs_ ?_ GE154.out)|exact HB.out))));have n2_:=A_ (kb_ (g:=gb154) (o:=.cells #[.int .i64 ((rd_T28 l0 x4_1).f0),.int .i64 ((rd_T28 l0 x4_1).f1),.string ((rd_T28 l0 x4_1).f2),.string ((rd_T28 l0 x4_1).f3),.slice A153_4 ((rd_T28 l0 x4_1).f4).length c153_4,.slice A153_5 ((rd_T28 l0 x4_1).f5).length c153_5] 28 (0,0)) (by (with_reducible repeat (first|refine kn_ ?_ _|refine kd_ ?_|refine ka_ ?_ _));refine blk_put (cs:=#[.int .i64 ((rd_T28 l0 x4_1).f0),.int .i64 ((rd_T28 l0 x4_1).f1),.string ((rd_T28 l0 x4_1).f2),.string ((rd_T28 l0 x4_1).f3),.slice A153_4 ((rd_T28 l0 x4_1).f4).length c153_4,.slice none 0 0]) ?_ 5 _ rfl;(with_reducible repeat (first|refine kn_ ?_ _|refine kd_ ?_|refine ka_ ?_ _));refine blk_put (cs:=#[.int .i64 ((rd_T28 l0 x4_1).f0),.int .i64 ((rd_T28 l0 x4_1).f1),.string ((rd_T28 l0 x4_1).f2),.string ((rd_T28 l0 x4_1).f3),.slice none 0 0,.slice none 0 0]) ?_ 4 _ rfl;(with_reducible repeat (first|refine kn_ ?_ _|refine kd_ ?_|refine ka_ ?_ _));refine blk_put (cs:=#[.int .i64 ((rd_T28 l0 x4_1).f0),.int .i64 ((rd_T28 l0 x4_1).f1),.string ((rd_T28 l0 x4_1).f2),.string (⟨#[]⟩:ByteArray),.slice none 0 0,.slice none 0 0]) ?_ 3 _ rfl;(with_reducible repeat (first|refine kn_ ?_ _|refine kd_ ?_|refine ka_ ?_ _));refine blk_put (cs:=#[.int .i64 ((rd_T28 l0 x4_1).f0),.int .i64 ((rd_T28 l0 x4_1).f1),.string (⟨#[]⟩:ByteArray),.string (⟨#[]⟩:ByteArray),.slice none 0 0,.slice none 0 0]) ?_ 2 _ rfl;(with_reducible repeat (first|refine kn_ ?_ _|refine kd_ ?_|refine ka_ ?_ _));refine blk_put (cs:=#[.int .i64 ((rd_T28 l0 x4_1).f0),.int .i64 0,.string (⟨#[]⟩:ByteArray),.string (⟨#[]⟩:ByteArray),.slice none 0 0,.slice none 0 0]) ?_ 1 _ rfl;(with_reducible repeat (first|refine kn_ ?_ _|refine kd_ ?_|refine ka_ ?_ _));refine blk_put (cs:=#[.int .i64 0,.int .i64 0,.string (⟨#[]⟩:ByteArray),.string (⟨#[]⟩:ByteArray),.slice none 0 0,.slice none 0 0]) ?_ 0 _ rfl;(with_reducible repeat (first|refine kn_ ?_ _|refine kd_ ?_|refine ka_ ?_ _));exact BK154.out) hb);have n3_:=A_ (bp_ (by repeat (first|(with_reducible first|exact HB.out|apply ba_|apply pd_|apply b1_|refine bs_ ?_ GE154.out)|exact HB.out)) hb);clear HO_3;clear BK154;clear HB;have HO_3:=n0_;have HO157:=n1_;have BK154:=n2_;have HB:=n3_;clear n0_ n1_ n2_ n3_;clear hb ho12;have hcz13_0:w11.cell? ⟨gb154,0,none⟩=some (.int .i64 ((rd_T28 l0 x4_1).f0)):=(bc_ BK154.out 0).trans rfl;have hcz13_1:w11.cell? ⟨gb154,1,none⟩=some (.int .i64 ((rd_T28 l0 x4_1).f1)):=(bc_ BK154.out 1).trans rfl;have hcz13_2:w11.cell? ⟨gb154,2,none⟩=some (.string ((rd_T28 l0 x4_1).f2)):=(bc_ BK154.out 2).trans rfl;have hcz13_3:w11.cell? ⟨gb154,3,none⟩=some (.string ((rd_T28 l0 x4_1).f3)):=(bc_ BK154.out 3).trans rfl;have hcz13_4:w11.cell? ⟨gb154,4,none⟩=some (.slice A153_4 ((rd_T28 l0 x4_1).f4).length c153_4):=(bc_ BK154.out 4).trans rfl;have hcz13_5:w11.cell? ⟨gb154,5,none⟩=some (.slice A153_5 ((rd_T28 l0 x4_1).f5).length c153_5):=(bc_ BK154.out 5).trans rfl;have hfz13_0:=bf_ BK154.out 0;have hfz13_1:=bf_ BK154.out 1;have hfz13_2:=bf_ BK154.out 2;have hfz13_3:=bf_ BK154.out 3;have hfz13_4:=bf_ BK154.out 4;have hfz13_5:=bf_ BK154.out 5)|((with_reducible refine gate_builtin (b:=.append) (xs:=#[.tmp 17,.tmp 19]) rfl ?_);at_builtin;refine Kd.R_append_rows k63 (w0:=w) w.heap.size rfl (.tmp 17) (.tmp 19) 25 63 (.agg #[(.string ⟨#[]⟩),(.string ⟨#[]⟩)]) 32 rfl Try.underlying25 info63 rfl (by decide) (by omega) v156 y155 ((rd_T28 l0 x4_1).f4) _ _ _ (fun _=>True) (fun _=>False) rfl rfl ?aO ?aR (fun _ _ h=>h) (fun _ h=>h.elim) ?aF ?aB ?aS ?aL ?_;(case aR=>repeat (first|exact (cb_ HR153_4.out HB.out)|(with_reducible refine ca_ ?_ _)|(with_reducible refine cn_ ?_ _)|(with_reducible refine cd_ ?_)));(case aB=>exact (by repeat (first|(with_reducible first|exact HB.out|apply ba_|apply pd_|apply b1_|refine bs_ ?_ GE154.out)|exact HB.out)));(case aF=>exact (fun _ _=>trivial));(case aO=>exact (by (with_reducible repeat (first|apply Kd.R_alloc|apply Kd.R_drewN|apply Kd.R_drew));exact HO157.out));(case aS=>exact (bz_ (by repeat (first|(with_reducible first|exact HB.out|apply ba_|apply pd_|apply b1_|refine bs_ ?_ GE154.out)|exact HB.out))));(case aL=>have:=LMc6.out;omega);intro v159 w14 ho hb hg hat;rw [←Ny158.out] at ho;have n0_:=A_ (Kd.R_after (ok:=(fun k_=>k_≠gb154)) (by (with_reducible repeat (first|apply Kd.R_alloc|apply Kd.R_drewN|apply Kd.R_drew));exact Kd.R_mono HO_3.out (fun _ hk=>⟨hk.1.2,hk.2⟩)) hg hat);have n1_:=A_ (blk_grown (g:=gb154) (o:=.cells #[.int .i64 ((rd_T28 l0 x4_1).f0),.int .i64 ((rd_T28 l0 x4_1).f1),.string ((rd_T28 l0 x4_1).f2),.string ((rd_T28 l0 x4_1).f3),.slice A153_4 ((rd_T28 l0 x4_1).f4).length c153_4,.slice A153_5 ((rd_T28 l0 x4_1).f5).length c153_5] 28 (0,0)) (by (with_reducible repeat (first|refine kn_ ?_ _|refine kd_ ?_|refine ka_ ?_ _));exact BK154.out) hg (Kd.R_ne HO157.out BK154.out (by decide)));have n2_:=A_ (hb);have n3_:=A_ (ho);clear HO_3;clear BK154;clear HB;clear HO157;have HO_3:=n0_;have BK154:=n1_;have HB:=n2_;have HO160:=n3_;clear n0_ n1_ n2_ n3_;clear ho hb hg hat;obtain ⟨Ao15,co15,eo15⟩:=Kd.R_slice HO160.out;subst eo15;have hcz16_0:w14.cell? ⟨gb154,0,none⟩=some (.int .i64 ((rd_T28 l0 x4_1).f0)):=(bc_ BK154.out 0).trans rfl;have hcz16_1:w14.cell? ⟨gb154,1,none⟩=some (.int .i64 ((rd_T28 l0 x4_1).f1)):=(bc_ BK154.out 1).trans rfl;have hcz16_2:w14.cell? ⟨gb154,2,none⟩=some (.string ((rd_T28 l0 x4_1).f2)):=(bc_ BK154.out 2).trans rfl;have hcz16_3:w14.cell? ⟨gb154,3,none⟩=some (.string ((rd_T28 l0 x4_1).f3)):=(bc_ BK154.out 3).trans rfl;have hcz16_4:w14.cell? ⟨gb154,4,none⟩=some (.slice A153_4 ((rd_T28 l0 x4_1).f4).length c153_4):=(bc_ BK154.out 4).trans rfl;have hcz16_5:w14.cell? ⟨gb154,5,none⟩=some (.slice A153_5 ((rd_T28 l0 x4_1).f5).length c153_5):=(bc_ BK154.out 5).trans rfl;have hfz16_0:=bf_ BK154.out 0;have hfz16_1:=bf_ BK154.out 1;have hfz16_2:=bf_ BK154.out 2;have hfz16_3:=bf_ BK154.out 3;have hfz16_4:=bf_ BK154.out 4;have hfz16_5:=bf_ BK154.out 5)|((with_reducible refine gate_callee (f:=19) rfl ?_);refine goesL_ (some 24) rfl rfl Try.func19 (by kernel_rfl) rfl #[.slice A153_5 ((rd_T28 l0 x4_1).f5).length c153_5] rfl (by (try simp only [List.map_toArray,List.map_cons,List.map_nil]);first|done|rfl|(simp only [ld_,lt_];rfl)) ?_;(with_reducible refine (ih k1 (by have:=HK1.out;omega) _ _ ((rd_T28 l0 x4_1).f5) t161 _ ?side1 ?side2 A7.out).mono ?_);(case side1=>exact cb_ HR153_5.out (by repeat (first|(with_reducible first|exact HB.out|apply ba_|apply pd_|apply b1_|refine bs_ ?_ GE154.out)|exact HB.out)));(case side2=>exact HC153_5.out);rintro e w17 ⟨v162,rfl,ho0,hb⟩;refine ⟨_,rfl,?_⟩;have n0_:=A_ (Kd.R_elder' (by (with_reducible repeat (first|apply Kd.R_alloc|apply Kd.R_drewN|apply Kd.R_drew));exact (Kd.R_mono (Kd.R_far (p:=⟨gb154,4,none⟩) (Kd.R_mono HO_3.out (fun k_ hk=>(⟨hk,hk.1⟩:_∧k_≠gb154))) (fun _ hk=>hk.2) (.slice Ao15 y158.length co15)) (fun _ h_=>h_.1))) (Kd.R_base ho0) hb);have n1_:=A_ (Kd.R_below (by (with_reducible repeat (first|apply Kd.R_alloc|apply Kd.R_drewN|apply Kd.R_drew));exact (Kd.R_mono (Kd.R_far (p:=⟨gb154,4,none⟩) (Kd.R_types HO160.out BK154.out (by decide)) (fun _ hk=>hk.2) (.slice Ao15 y158.length co15)) (fun _ h_=>h_.1))) hb);have n2_:=A_ (Kd.R_lower (Kd.R_newB (Kd.R_new' (Kd.R_new' ho0 (Kd.R_lt (by (with_reducible repeat (first|apply Kd.R_alloc|apply Kd.R_drewN|apply Kd.R_drew));exact (Kd.R_mono (Kd.R_far (p:=⟨gb154,4,none⟩) (Kd.R_mono HO_3.out (fun k_ hk=>(⟨hk,hk.1⟩:_∧k_≠gb154))) (fun _ hk=>hk.2) (.slice Ao15 y158.length co15)) (fun _ h_=>h_.1))))) (Kd.R_lt (by (with_reducible repeat (first|apply Kd.R_alloc|apply Kd.R_drewN|apply Kd.R_drew));exact (Kd.R_mono (Kd.R_far (p:=⟨gb154,4,none⟩) (Kd.R_types HO160.out BK154.out (by decide)) (fun _ hk=>hk.2) (.slice Ao15 y158.length co15)) (fun _ h_=>h_.1))))) (g:=gb154) (o:=.cells #[.int .i64 ((rd_T28 l0 x4_1).f0),.int .i64 ((rd_T28 l0 x4_1).f1),.string ((rd_T28 l0 x4_1).f2),.string ((rd_T28 l0 x4_1).f3),.slice Ao15 y158.length co15,.slice A153_5 ((rd_T28 l0 x4_1).f5).length c153_5] 28 (0,0)) (by (with_reducible repeat (first|refine kn_ ?_ _|refine kd_ ?_|refine ka_ ?_ _));refine blk_put (cs:=#[.int .i64 ((rd_T28 l0 x4_1).f0),.int .i64 ((rd_T28 l0 x4_1).f1),.string ((rd_T28 l0 x4_1).f2),.string ((rd_T28 l0 x4_1).f3),.slice A153_4 ((rd_T28 l0 x4_1).f4).length c153_4,.slice A153_5 ((rd_T28 l0 x4_1).f5).length c153_5]) ?_ 4 _ rfl;(with_reducible repeat (first|refine kn_ ?_ _|refine kd_ ?_|refine ka_ ?_ _));exact BK154.out)) (bz_ (by repeat (first|(with_reducible first|exact HB.out|apply ba_|apply pd_|apply b1_|refine bs_ ?_ GE154.out)|exact HB.out))));have n3_:=A_ (kb_ (g:=gb154) (o:=.cells #[.int .i64 ((rd_T28 l0 x4_1).f0),.int .i64 ((rd_T28 l0 x4_1).f1),.string ((rd_T28 l0 x4_1).f2),.string ((rd_T28 l0 x4_1).f3),.slice Ao15 y158.length co15,.slice A153_5 ((rd_T28 l0 x4_1).f5).length c153_5] 28 (0,0)) (by (with_reducible repeat (first|refine kn_ ?_ _|refine kd_ ?_|refine ka_ ?_ _));refine blk_put (cs:=#[.int .i64 ((rd_T28 l0 x4_1).f0),.int .i64 ((rd_T28 l0 x4_1).f1),.string ((rd_T28 l0 x4_1).f2),.string ((rd_T28 l0 x4_1).f3),.slice A153_4 ((rd_T28 l0 x4_1).f4).length c153_4,.slice A153_5 ((rd_T28 l0 x4_1).f5).length c153_5]) ?_ 4 _ rfl;(with_reducible repeat (first|refine kn_ ?_ _|refine kd_ ?_|refine ka_ ?_ _));exact BK154.out) hb);have n4_:=A_ (bp_ (by repeat (first|(with_reducible first|exact HB.out|apply ba_|apply pd_|apply b1_|refine bs_ ?_ GE154.out)|exact HB.out)) hb);clear HO_3;clear HO160;clear BK154;clear HB;have HO_3:=n0_;have HO160:=n1_;have HO163:=n2_;have BK154:=n3_;have HB:=n4_;clear n0_ n1_ n2_ n3_ n4_;(try clear hb);(try clear hb2);(try clear hk);(try clear hi);(try clear ho0);obtain ⟨Ao18,co18,eo18⟩:=Kd.R_slice HO163.out;subst eo18;have hcz19_0:w17.cell? ⟨gb154,0,none⟩=some (.int .i64 ((rd_T28 l0 x4_1).f0)):=(bc_ BK154.out 0).trans rfl;have hcz19_1:w17.cell? ⟨gb154,1,none⟩=some (.int .i64 ((rd_T28 l0 x4_1).f1)):=(bc_ BK154.out 1).trans rfl;have hcz19_2:w17.cell? ⟨gb154,2,none⟩=some (.string ((rd_T28 l0 x4_1).f2)):=(bc_ BK154.out 2).trans rfl;have hcz19_3:w17.cell? ⟨gb154,3,none⟩=some (.string ((rd_T28 l0 x4_1).f3)):=(bc_ BK154.out 3).trans rfl;have hcz19_4:w17.cell? ⟨gb154,4,none⟩=some (.slice Ao15 y158.length co15):=(bc_ BK154.out 4).trans rfl;have hcz19_5:w17.cell? ⟨gb154,5,none⟩=some (.slice A153_5 ((rd_T28 l0 x4_1).f5).length c153_5):=(bc_ BK154.out 5).trans rfl;have hfz19_0:=bf_ BK154.out 0;have hfz19_1:=bf_ BK154.out 1;have hfz19_2:=bf_ BK154.out 2;have hfz19_3:=bf_ BK154.out 3;have hfz19_4:=bf_ BK154.out 4;have hfz19_5:=bf_ BK154.out 5)|((with_reducible refine gate_store (t:=26) (p:=25) rfl ?_);refine store_event (t:=26) (p:=25) (v:=?vo_w20) (w1:=(w17.setCell ⟨gb154,5,none⟩ (.slice Ao18 t161.length co18))) ?hg ?ho ?hn ?hr ?_;(case ho=>rfl);(case hg=>rfl);(case hn=>rfl);(case hr=>first|(go_simp;done)|(go_simp;rfl)|((first|(obtain ⟨_,_,rfl⟩:=Kd.R_slice HO152.out)|(obtain ⟨_,_,rfl⟩:=Kd.S_slice HO152.out)|skip);(first|(obtain ⟨_,_,rfl⟩:=Kd.R_slice HO157.out)|(obtain ⟨_,_,rfl⟩:=Kd.S_slice HO157.out)|skip);(first|(obtain ⟨_,_,rfl⟩:=Kd.R_slice HO160.out)|(obtain ⟨_,_,rfl⟩:=Kd.S_slice HO160.out)|skip);(first|(obtain ⟨_,_,rfl⟩:=Kd.R_slice HO163.out)|(obtain ⟨_,_,rfl⟩:=Kd.S_slice HO163.out)|skip);first|(go_simp;done)|(go_simp;rfl)));intro w20 hw;have n0_:Aside0 (Kd.R k28 28 w20 w.heap.size (fun k_=>some k_≠(.slice Ao15 y158.length co15:Value).ownBlock∧some k_≠(.slice Ao18 t161.length co18:Value).ownBlock∧k_≠gb154) u3 x3_1):=⟨(by rw [hw];exact (by (with_reducible repeat (first|apply Kd.R_alloc|apply Kd.R_drewN|apply Kd.R_drew));exact Kd.R_mono (Kd.R_far (p:=⟨gb154,5,none⟩) (Kd.R_mono HO_3.out (fun k_ hk=>(⟨hk,hk.1.1⟩:_∧k_≠gb154))) (fun _ hk=>hk.2) (.slice Ao18 t161.length co18)) (fun _ hk=>⟨hk.1.1.2,⟨hk.1.2,hk.1.1.1⟩⟩)))⟩;have n1_:Aside0 (Kd.R k63 63 w20 w.heap.size (fun _=>True) (.slice Ao15 y158.length co15) y158):=⟨(by rw [hw];exact (by (with_reducible repeat (first|apply Kd.R_alloc|apply Kd.R_drewN|apply Kd.R_drew));exact Kd.R_mono (Kd.R_far (p:=⟨gb154,5,none⟩) (Kd.R_types HO160.out BK154.out (by decide)) (fun _ hk=>hk.2) (.slice Ao18 t161.length co18)) (fun _ hk=>trivial)))⟩;have n2_:Aside0 (Kd.R k28 28 w20 w.heap.size (fun k_=>some k_≠(u3:Value).ownBlock∧some k_≠(.slice Ao15 y158.length co15:Value).ownBlock∧k_≠gb154) (.slice Ao18 t161.length co18) t161):=⟨(by rw [hw];exact (by (with_reducible repeat (first|apply Kd.R_alloc|apply Kd.R_drewN|apply Kd.R_drew));exact Kd.R_mono (Kd.R_far (p:=⟨gb154,5,none⟩) (Kd.R_mono HO163.out (fun k_ hk=>(⟨hk,hk.2⟩:_∧k_≠gb154))) (fun _ hk=>hk.2) (.slice Ao18 t161.length co18)) (fun _ hk=>⟨hk.1.1.1.2,⟨hk.1.1.2,hk.1.2⟩⟩)))⟩;have n3_:Aside0 (w20.heap[gb154]? = some (.cells #[.int .i64 ((rd_T28 l0 x4_1).f0),.int .i64 ((rd_T28 l0 x4_1).f1),.string ((rd_T28 l0 x4_1).f2),.string ((rd_T28 l0 x4_1).f3),.slice Ao15 y158.length co15,.slice Ao18 t161.length co18] 28 (0,0))):=⟨(by rw [hw];exact (by (with_reducible repeat (first|refine kn_ ?_ _|refine kd_ ?_|refine ka_ ?_ _));refine blk_put (cs:=#[.int .i64 ((rd_T28 l0 x4_1).f0),.int .i64 ((rd_T28 l0 x4_1).f1),.string ((rd_T28 l0 x4_1).f2),.string ((rd_T28 l0 x4_1).f3),.slice Ao15 y158.length co15,.slice A153_5 ((rd_T28 l0 x4_1).f5).length c153_5]) ?_ 5 _ rfl;(with_reducible repeat (first|refine kn_ ?_ _|refine kd_ ?_|refine ka_ ?_ _));exact BK154.out))⟩;have n4_:Aside0 (Below w.heap.size w w20):=⟨(by rw [hw];exact (by repeat (first|(with_reducible first|exact HB.out|apply ba_|apply pd_|apply b1_|refine bs_ ?_ GE154.out)|exact HB.out)))⟩;clear hw;clear HO_3;clear HO160;clear HO163;clear BK154;clear HB;have HO_3:=n0_;have HO160:=n1_;have HO163:=n2_;have BK154:=n3_;have HB:=n4_;clear n0_ n1_ n2_ n3_ n4_;have hcz21_0:w20.cell? ⟨gb154,0,none⟩=some (.int .i64 ((rd_T28 l0 x4_1).f0)):=(bc_ BK154.out 0).trans rfl;have hcz21_1:w20.cell? ⟨gb154,1,none⟩=some (.int .i64 ((rd_T28 l0 x4_1).f1)):=(bc_ BK154.out 1).trans rfl;have hcz21_2:w20.cell? ⟨gb154,2,none⟩=some (.string ((rd_T28 l0 x4_1).f2)):=(bc_ BK154.out 2).trans rfl;have hcz21_3:w20.cell? ⟨gb154,3,none⟩=some (.string ((rd_T28 l0 x4_1).f3)):=(bc_ BK154.out 3).trans rfl;have hcz21_4:w20.cell? ⟨gb154,4,none⟩=some (.slice Ao15 y158.length co15):=(bc_ BK154.out 4).trans rfl;have hcz21_5:w20.cell? ⟨gb154,5,none⟩=some (.slice Ao18 t161.length co18):=(bc_ BK154.out 5).trans rfl;have hfz21_0:=bf_ BK154.out 0;have hfz21_1:=bf_ BK154.out 1;have hfz21_2:=bf_ BK154.out 2;have hfz21_3:=bf_ BK154.out 3;have hfz21_4:=bf_ BK154.out 4;have hfz21_5:=bf_ BK154.out 5)|((with_reducible refine gate_builtin (b:=.append) (xs:=#[.tmp 26,.tmp 28]) rfl ?_);at_builtin;refine Kd.R_append k28 (w0:=w) w.heap.size rfl (.tmp 26) (.tmp 28) 26 28 (.agg #[(.int .i64 0),(.int .i64 0),(.string ⟨#[]⟩),(.string ⟨#[]⟩),(.slice none 0 0),(.slice none 0 0)]) 96 rfl Try.underlying26 info28 rfl (by decide) (by omega) u3 x3_1 (⟨(rd_T28 l0 x4_1).f0,(rd_T28 l0 x4_1).f1,(rd_T28 l0 x4_1).f2,(rd_T28 l0 x4_1).f3,y158,t161⟩:S28) [.int .i64 ((rd_T28 l0 x4_1).f0),.int .i64 ((rd_T28 l0 x4_1).f1),.string ((rd_T28 l0 x4_1).f2),.string ((rd_T28 l0 x4_1).f3),.slice Ao15 y158.length co15,.slice Ao18 t161.length co18] (fun k_=>k_≠gb154) (fun k_=>((fun k_=>k_≠gb154)) k_∧some k_≠(u3:Value).ownBlock) rfl rfl ?aP (fun _ hk=>hk) ?aF ?aO ?aB ?aS ?aL ?_;(case aP=>exact k28_mkM _ _ _ (⟨(rd_T28 l0 x4_1).f0,(rd_T28 l0 x4_1).f1,(rd_T28 l0 x4_1).f2,(rd_T28 l0 x4_1).f3,y158,t161⟩:S28) (Kd.R_mono (Kd.R_types (Kd.R_apart' (HO160.out) (Kd.R_typed HO_3.out) (by decide)) BK154.out (by decide)) (fun k_ hk=>⟨hk.2,hk.1.2⟩)) (Kd.R_mono (HO163.out) (fun k_ hk=>⟨hk.2.2,hk.1⟩)));(case aB=>exact (by repeat (first|(with_reducible first|exact HB.out|apply ba_|apply pd_|apply b1_|refine bs_ ?_ GE154.out)|exact HB.out)));(case aF=>exact (fun k_ hk=>Kd.freshB (g:=gb154) (o:=.cells #[.int .i64 ((rd_T28 l0 x4_1).f0),.int .i64 ((rd_T28 l0 x4_1).f1),.string ((rd_T28 l0 x4_1).f2),.string ((rd_T28 l0 x4_1).f3),.slice Ao15 y158.length co15,.slice Ao18 t161.length co18] 28 (0,0)) (by (with_reducible repeat (first|refine kn_ ?_ _|refine kd_ ?_|refine ka_ ?_ _));exact BK154.out) k_ hk));(case aO=>exact (by (with_reducible repeat (first|apply Kd.R_alloc|apply Kd.R_drewN|apply Kd.R_drew));exact Kd.R_mono HO_3.out (fun _ hk=>hk.2.2)));(case aS=>exact (bz_ (by repeat (first|(with_reducible first|exact HB.out|apply ba_|apply pd_|apply b1_|refine bs_ ?_ GE154.out)|exact HB.out))));(case aL=>have:=LMc8.out;omega);intro v165 w22 ho hb hg hat;rw [←Ny164.out] at ho;have n0_:=A_ (blk_grown (g:=gb154) (o:=.cells #[.int .i64 ((rd_T28 l0 x4_1).f0),.int .i64 ((rd_T28 l0 x4_1).f1),.string ((rd_T28 l0 x4_1).f2),.string ((rd_T28 l0 x4_1).f3),.slice Ao15 y158.length co15,.slice Ao18 t161.length co18] 28 (0,0)) (by (with_reducible repeat (first|refine kn_ ?_ _|refine kd_ ?_|refine ka_ ?_ _));exact BK154.out) hg (Kd.R_away HO_3.out (fun _ hk=>hk.2.2)));have n1_:=A_ (hb);have n2_:=A_ (ho);clear BK154;clear HB;clear HO_3;clear HO160;clear HO163;have BK154:=n0_;have HB:=n1_;have HO166:=n2_;clear n0_ n1_ n2_;clear ho hb hg hat))
       go_roundg k1
       case measure=>have:=HK1.out;omega
       case rel=>exact ⟨(y164),(wrap64 (x4_1+1)),(by first|rfl|(simp;done)|(simp [*];done)),H',⟨by have:=HK1.out;omega⟩,⟨by (with_reducible repeat (first|apply Kd.R_alloc|apply Kd.R_drewN|apply Kd.R_drew));exact Kd.R_mono HO166.out (fun _ hk=>trivial)⟩,⟨by repeat (first|(with_reducible first|exact HB.out|apply ba_|apply pd_|apply b1_|refine bs_ ?_ GE154.out)|exact HB.out)⟩⟩
      ·rw [if_neg c8] at H
       exact absurd H (by simp)
     ·rw [if_neg c6] at H
      exact absurd H (by simp)
    ·rw [if_neg c5] at H
     exact absurd H (by simp)
   ·rw [if_neg c4] at H
    have c4b0:decide (x4_1<(l0.length:Int))=false:=df_ c4
    clear c4
    obtain rfl:=oi_ H
    go_wp2
    go_ret
    exact ⟨_,by first|rfl|(simp [errW_none,errW_some] <;> rfl)|(simp [*,errW_none,errW_some] <;> rfl),by (with_reducible repeat (first|apply Kd.R_alloc|apply Kd.R_drewN|apply Kd.R_drew));exact HO_3.out,by repeat (first|(with_reducible first|exact HB.out|apply ba_|apply pd_|apply b1_)|exact HB.out)⟩
/-! ### spec_NodeAt: function 5, by hand -/
def spec_NodeAt.f (k:Nat) (x0:List S28) (path:List Int):Option (S28 × Int) :=
 if 4096<x0.length then some (z28,2) else if 4096<path.length then some (z28,2) else
 (spec_l03Tree.f k x0).bind fun b=>if b=true then (spec_l03At.f k x0 path).bind fun e=>if e.2.2.2.2.2.2=true then
  (spec_l03Copy.f k [⟨e.1,e.2.1,e.2.2.1,e.2.2.2.1,e.2.2.2.2.1,e.2.2.2.2.2.1⟩]).bind fun r=>if 0<r.length then some (r.getD 0 z28,0) else none
  else some (z28,16) else some (z28,1)
theorem spec_NodeAt.heap:Kd.Heap k28:=Kd.heap_fix (fun _ h_=>Kd.heap_iso _ (Kd.heap_pair (Kd.heap_int .i64) (Kd.heap_pair (Kd.heap_int .i64) (Kd.heap_pair Kd.heap_string (Kd.heap_pair Kd.heap_string (Kd.heap_pair (Kd.heap_slice 63 (Kd.heap_iso _ (Kd.heap_pair Kd.heap_string Kd.heap_string))) (Kd.heap_slice 28 h_)))))))
theorem spec_NodeAt.one (W:World) (b:Nat) (x:S28) {A4 A5:Option Addr} {n4 n5:Nat} (hb:W.heap[b]? = some (.cells #[.int .i64 x.f0,.int .i64 x.f1,.string x.f2,.string x.f3,.slice A4 x.f4.length n4,.slice A5 x.f5.length n5] 28 (0,0))) (l4:x.f4.length≤n4) (g4:Kd.C k63 W A4 x.f4.length x.f4) (l5:x.f5.length≤n5) (g5:Kd.C k28 W A5 x.f5.length x.f5):Kd.C k28 W (some ⟨b,0,none⟩) 1 [x] :=
 ⟨rfl,by simp,fun _=>⟨_,rfl,fun j p hj=>by
  cases j with
  | succ j=>simp at hj
  | zero =>
   obtain rfl:x=p:=by simpa using hj
   exact ⟨_,rfl,k28_mk W x l4 g4 l5 g5,fun i u hi=>by
    rw [Nat.zero_mul,Nat.zero_add,add_plain]
    exact (bc_ hb i).trans (by simpa using hi)⟩⟩⟩
theorem spec_NodeAt.blk2 (W:World) (a b:Obj):((W.alloc a).alloc b).heap[W.heap.size+1]? = some b:=by
 have h:=blk_new (W.alloc a) b
 have e:(W.alloc a).heap.size=W.heap.size+1:=by simp
 rwa [e] at h
set_option maxHeartbeats 16000000 in
set_option maxRecDepth 1000000 in
theorem spec_NodeAt.calls (k:Nat) (A0:Option Addr) (c0:Nat) (x0:List S28) (A1:Option Addr) (c1:Nat) (path:List Int) (r1:S28) (r2:Int) (w:World) (hr0:Kd.C k28 w A0 x0.length x0) (hc0:x0.length≤c0) (hr1:Kd.C (Kd.int .i64) w A1 path.length path) (hc1:path.length≤c1) (h:spec_NodeAt.f k x0 path=some (r1,r2)) :
 Calls Try.prog 5 #[.slice A0 x0.length c0,.slice A1 path.length c1] w fun e w'=>∃ A4 c4 A5 c5,e=.returned (.tuple #[.agg #[.int .i64 r1.f0,.int .i64 r1.f1,.string r1.f2,.string r1.f3,.slice A4 r1.f4.length c4,.slice A5 r1.f5.length c5],.int .i64 r2])∧(Kd.C k63 w' A4 r1.f4.length r1.f4∧r1.f4.length≤c4)∧(Kd.C k28 w' A5 r1.f5.length r1.f5∧r1.f5.length≤c5)∧Below w.heap.size w w':=by
 unfold spec_NodeAt.f at h
 have HBA:=A_ (ba_ (Below.refl w.heap.size w) (.cells #[.int .i64 0,.int .i64 0,.string ⟨#[]⟩,.string ⟨#[]⟩,.slice none 0 0,.slice none 0 0] 28 (0,0)))
 by_cases l1:4096<x0.length
 ·rw [if_pos l1] at h
  obtain ⟨rfl,rfl⟩:=Prod.mk.inj (oi_ h)
  have z1:decide ((x0.length:Int)>4096)=true:=dt_ (by omega)
  clear h hr0 hc0 hr1 hc1 l1
  generalize x0.length=n0 at *
  generalize path.length=n1 at *
  go_enter Try.func5,Try.ntmps5
  go_wp2
  refine bodyPost_ret (results_ct rfl _ _ w.heap.size 28 #[.int .i64 0,.int .i64 0,.string ⟨#[]⟩,.string ⟨#[]⟩,.slice none 0 0,.slice none 0 0] (0,0) _ rfl (blk_new w (.cells #[.int .i64 0,.int .i64 0,.string ⟨#[]⟩,.string ⟨#[]⟩,.slice none 0 0,.slice none 0 0] 28 (0,0))) Try.underlying28 rfl (by kernel_rfl)) rfl ?_
  exact ⟨none,0,none,0,rfl,⟨Kd.C_nil _ _,Nat.le_refl _⟩,⟨Kd.C_nil _ _,Nat.le_refl _⟩,HBA.out⟩
 rw [if_neg l1] at h
 have z1:decide ((x0.length:Int)>4096)=false:=df_ (by omega)
 by_cases l2:4096<path.length
 ·rw [if_pos l2] at h
  obtain ⟨rfl,rfl⟩:=Prod.mk.inj (oi_ h)
  have z2:decide ((path.length:Int)>4096)=true:=dt_ (by omega)
  clear h hr0 hc0 hr1 hc1 l1 l2
  generalize x0.length=n0 at *
  generalize path.length=n1 at *
  go_enter Try.func5,Try.ntmps5
  go_wp2
  refine bodyPost_ret (results_ct rfl _ _ w.heap.size 28 #[.int .i64 0,.int .i64 0,.string ⟨#[]⟩,.string ⟨#[]⟩,.slice none 0 0,.slice none 0 0] (0,0) _ rfl (blk_new w (.cells #[.int .i64 0,.int .i64 0,.string ⟨#[]⟩,.string ⟨#[]⟩,.slice none 0 0,.slice none 0 0] 28 (0,0))) Try.underlying28 rfl (by kernel_rfl)) rfl ?_
  exact ⟨none,0,none,0,rfl,⟨Kd.C_nil _ _,Nat.le_refl _⟩,⟨Kd.C_nil _ _,Nat.le_refl _⟩,HBA.out⟩
 rw [if_neg l2] at h
 have z2:decide ((path.length:Int)>4096)=false:=df_ (by omega)
 obtain ⟨b,hbt,h⟩:=ob_ h
 have QT:=A_ (fun V (hV:Below w.heap.size w V)=>spec_l03Tree.calls k A0 c0 x0 b V (cb_ hr0 hV) hc0 hbt)
 by_cases hbb:b=true
 case neg =>
  rw [if_neg hbb] at h
  obtain ⟨rfl,rfl⟩:=Prod.mk.inj (oi_ h)
  obtain rfl:b=false:=by simpa using hbb
  clear h hr0 hc0 hr1 hc1 l1 l2 hbt hbb
  generalize x0.length=n0 at *
  generalize path.length=n1 at *
  go_enter Try.func5,Try.ntmps5
  go_wp2_with (first|(go_at_call 17;(with_reducible refine (QT.out _ HBA.out).mono ?_);rintro e w1 ⟨rfl,hb⟩;(have HB1:=A_ (bp_ HBA.out hb));(have HX1:=A_ (kb_ (blk_new w (.cells #[.int .i64 0,.int .i64 0,.string ⟨#[]⟩,.string ⟨#[]⟩,.slice none 0 0,.slice none 0 0] 28 (0,0))) hb));(have b0:w1.cell? ⟨w.heap.size,0,none⟩=some (.int .i64 0):=(bc_ HX1.out 0).trans rfl);(have bf0:w1.frozen? ⟨w.heap.size,0,none⟩=false:=bf_ HX1.out 0);(have b1:w1.cell? ⟨w.heap.size,1,none⟩=some (.int .i64 0):=(bc_ HX1.out 1).trans rfl);(have bf1:w1.frozen? ⟨w.heap.size,1,none⟩=false:=bf_ HX1.out 1);(have b2:w1.cell? ⟨w.heap.size,2,none⟩=some (.string ⟨#[]⟩):=(bc_ HX1.out 2).trans rfl);(have bf2:w1.frozen? ⟨w.heap.size,2,none⟩=false:=bf_ HX1.out 2);(have b3:w1.cell? ⟨w.heap.size,3,none⟩=some (.string ⟨#[]⟩):=(bc_ HX1.out 3).trans rfl);(have bf3:w1.frozen? ⟨w.heap.size,3,none⟩=false:=bf_ HX1.out 3);(have b4:w1.cell? ⟨w.heap.size,4,none⟩=some (.slice none 0 0):=(bc_ HX1.out 4).trans rfl);(have bf4:w1.frozen? ⟨w.heap.size,4,none⟩=false:=bf_ HX1.out 4);(have b5:w1.cell? ⟨w.heap.size,5,none⟩=some (.slice none 0 0):=(bc_ HX1.out 5).trans rfl);(have bf5:w1.frozen? ⟨w.heap.size,5,none⟩=false:=bf_ HX1.out 5);clear hb))
  refine bodyPost_ret (results_ct rfl _ _ w.heap.size 28 #[.int .i64 0,.int .i64 0,.string ⟨#[]⟩,.string ⟨#[]⟩,.slice none 0 0,.slice none 0 0] (0,0) _ rfl (blk_put (cs:=#[.int .i64 0,.int .i64 0,.string ⟨#[]⟩,.string ⟨#[]⟩,.slice none 0 0,.slice none 0 0]) (cs':=#[.int .i64 0,.int .i64 0,.string ⟨#[]⟩,.string ⟨#[]⟩,.slice none 0 0,.slice none 0 0]) (blk_put (cs:=#[.int .i64 0,.int .i64 0,.string ⟨#[]⟩,.string ⟨#[]⟩,.slice none 0 0,.slice none 0 0]) (cs':=#[.int .i64 0,.int .i64 0,.string ⟨#[]⟩,.string ⟨#[]⟩,.slice none 0 0,.slice none 0 0]) (blk_put (cs:=#[.int .i64 0,.int .i64 0,.string ⟨#[]⟩,.string ⟨#[]⟩,.slice none 0 0,.slice none 0 0]) (cs':=#[.int .i64 0,.int .i64 0,.string ⟨#[]⟩,.string ⟨#[]⟩,.slice none 0 0,.slice none 0 0]) (blk_put (cs:=#[.int .i64 0,.int .i64 0,.string ⟨#[]⟩,.string ⟨#[]⟩,.slice none 0 0,.slice none 0 0]) (cs':=#[.int .i64 0,.int .i64 0,.string ⟨#[]⟩,.string ⟨#[]⟩,.slice none 0 0,.slice none 0 0]) (blk_put (cs:=#[.int .i64 0,.int .i64 0,.string ⟨#[]⟩,.string ⟨#[]⟩,.slice none 0 0,.slice none 0 0]) (cs':=#[.int .i64 0,.int .i64 0,.string ⟨#[]⟩,.string ⟨#[]⟩,.slice none 0 0,.slice none 0 0]) (blk_put (cs:=#[.int .i64 0,.int .i64 0,.string ⟨#[]⟩,.string ⟨#[]⟩,.slice none 0 0,.slice none 0 0]) (cs':=#[.int .i64 0,.int .i64 0,.string ⟨#[]⟩,.string ⟨#[]⟩,.slice none 0 0,.slice none 0 0]) HX1.out 0 (.int .i64 0) rfl) 1 (.int .i64 0) rfl) 2 (.string ⟨#[]⟩) rfl) 3 (.string ⟨#[]⟩) rfl) 4 (.slice none 0 0) rfl) 5 (.slice none 0 0) rfl) Try.underlying28 rfl (by kernel_rfl)) rfl ?_
  exact ⟨none,0,none,0,rfl,⟨Kd.C_nil _ _,Nat.le_refl _⟩,⟨Kd.C_nil _ _,Nat.le_refl _⟩,(bs_ (bs_ (bs_ (bs_ (bs_ (bs_ HB1.out (Nat.le_refl _)) (Nat.le_refl _)) (Nat.le_refl _)) (Nat.le_refl _)) (Nat.le_refl _)) (Nat.le_refl _))⟩
 subst hbb
 rw [if_pos rfl] at h
 obtain ⟨⟨e1,e2,e3,e4,e5,e6,e7⟩,hE,h⟩:=ob_ h
 dsimp only at h
 have QE:=A_ (fun V (hV:Below w.heap.size w V)=>spec_l03At.calls k (fun q=>q<w.heap.size) A0 c0 x0 A1 c1 path e1 e2 e3 e4 e5 e6 e7 V (Kd.V_mk hc0 (fun W' hW=>Kd.Heap.C spec_NodeAt.heap (fun q hq=>(hW q hq (Nat.lt_of_lt_of_le hq hV.size)).trans (hV.block q hq)) hr0)) (cb_ hr1 hV) hc1 hE)
 by_cases he7:e7=true
 case neg =>
  rw [if_neg he7] at h
  obtain ⟨rfl,rfl⟩:=Prod.mk.inj (oi_ h)
  obtain rfl:e7=false:=by simpa using he7
  clear h hr0 hc0 hr1 hc1 l1 l2 hbt hE
  generalize x0.length=n0 at *
  generalize path.length=n1 at *
  go_enter Try.func5,Try.ntmps5
  go_wp2_with (first|(go_at_call 17;(with_reducible refine (QT.out _ HBA.out).mono ?_);rintro e w1 ⟨rfl,hb⟩;(have HB1:=A_ (bp_ HBA.out hb));(have HX1:=A_ (kb_ (blk_new w (.cells #[.int .i64 0,.int .i64 0,.string ⟨#[]⟩,.string ⟨#[]⟩,.slice none 0 0,.slice none 0 0] 28 (0,0))) hb));(have b0:w1.cell? ⟨w.heap.size,0,none⟩=some (.int .i64 0):=(bc_ HX1.out 0).trans rfl);(have bf0:w1.frozen? ⟨w.heap.size,0,none⟩=false:=bf_ HX1.out 0);(have b1:w1.cell? ⟨w.heap.size,1,none⟩=some (.int .i64 0):=(bc_ HX1.out 1).trans rfl);(have bf1:w1.frozen? ⟨w.heap.size,1,none⟩=false:=bf_ HX1.out 1);(have b2:w1.cell? ⟨w.heap.size,2,none⟩=some (.string ⟨#[]⟩):=(bc_ HX1.out 2).trans rfl);(have bf2:w1.frozen? ⟨w.heap.size,2,none⟩=false:=bf_ HX1.out 2);(have b3:w1.cell? ⟨w.heap.size,3,none⟩=some (.string ⟨#[]⟩):=(bc_ HX1.out 3).trans rfl);(have bf3:w1.frozen? ⟨w.heap.size,3,none⟩=false:=bf_ HX1.out 3);(have b4:w1.cell? ⟨w.heap.size,4,none⟩=some (.slice none 0 0):=(bc_ HX1.out 4).trans rfl);(have bf4:w1.frozen? ⟨w.heap.size,4,none⟩=false:=bf_ HX1.out 4);(have b5:w1.cell? ⟨w.heap.size,5,none⟩=some (.slice none 0 0):=(bc_ HX1.out 5).trans rfl);(have bf5:w1.frozen? ⟨w.heap.size,5,none⟩=false:=bf_ HX1.out 5);clear hb)|(go_at_call 18;(with_reducible refine (QE.out _ HB1.out).mono ?_);rintro e w3 ⟨v4,v5,rfl,hv4,hv5,hb⟩;obtain ⟨A4,n4,rfl⟩:=Kd.V_slice hv4;obtain ⟨A5,n5,rfl⟩:=Kd.V_slice hv5;(have HB3:=A_ (HB1.out.trans (hb.mono HB1.out.size)));(have HV4:=A_ hv4);(have HV5:=A_ hv5);(have HX3:=A_ (kb_ HX1.out hb));(have HX4:=A_ (ka_ HX3.out (.cells #[.int .i64 e1,.int .i64 e2,.string e3,.string e4,.slice A4 e5.length n4,.slice A5 e6.length n5] 28 (0,0))));(have HB4:=A_ (ba_ HB3.out (.cells #[.int .i64 e1,.int .i64 e2,.string e3,.string e4,.slice A4 e5.length n4,.slice A5 e6.length n5] 28 (0,0))));(have d0:(w3.alloc (.cells #[.int .i64 e1,.int .i64 e2,.string e3,.string e4,.slice A4 e5.length n4,.slice A5 e6.length n5] 28 (0,0))).cell? ⟨w.heap.size,0,none⟩=some (.int .i64 0):=(bc_ HX4.out 0).trans rfl);(have df0:(w3.alloc (.cells #[.int .i64 e1,.int .i64 e2,.string e3,.string e4,.slice A4 e5.length n4,.slice A5 e6.length n5] 28 (0,0))).frozen? ⟨w.heap.size,0,none⟩=false:=bf_ HX4.out 0);(have d1:(w3.alloc (.cells #[.int .i64 e1,.int .i64 e2,.string e3,.string e4,.slice A4 e5.length n4,.slice A5 e6.length n5] 28 (0,0))).cell? ⟨w.heap.size,1,none⟩=some (.int .i64 0):=(bc_ HX4.out 1).trans rfl);(have df1:(w3.alloc (.cells #[.int .i64 e1,.int .i64 e2,.string e3,.string e4,.slice A4 e5.length n4,.slice A5 e6.length n5] 28 (0,0))).frozen? ⟨w.heap.size,1,none⟩=false:=bf_ HX4.out 1);(have d2:(w3.alloc (.cells #[.int .i64 e1,.int .i64 e2,.string e3,.string e4,.slice A4 e5.length n4,.slice A5 e6.length n5] 28 (0,0))).cell? ⟨w.heap.size,2,none⟩=some (.string ⟨#[]⟩):=(bc_ HX4.out 2).trans rfl);(have df2:(w3.alloc (.cells #[.int .i64 e1,.int .i64 e2,.string e3,.string e4,.slice A4 e5.length n4,.slice A5 e6.length n5] 28 (0,0))).frozen? ⟨w.heap.size,2,none⟩=false:=bf_ HX4.out 2);(have d3:(w3.alloc (.cells #[.int .i64 e1,.int .i64 e2,.string e3,.string e4,.slice A4 e5.length n4,.slice A5 e6.length n5] 28 (0,0))).cell? ⟨w.heap.size,3,none⟩=some (.string ⟨#[]⟩):=(bc_ HX4.out 3).trans rfl);(have df3:(w3.alloc (.cells #[.int .i64 e1,.int .i64 e2,.string e3,.string e4,.slice A4 e5.length n4,.slice A5 e6.length n5] 28 (0,0))).frozen? ⟨w.heap.size,3,none⟩=false:=bf_ HX4.out 3);(have d4:(w3.alloc (.cells #[.int .i64 e1,.int .i64 e2,.string e3,.string e4,.slice A4 e5.length n4,.slice A5 e6.length n5] 28 (0,0))).cell? ⟨w.heap.size,4,none⟩=some (.slice none 0 0):=(bc_ HX4.out 4).trans rfl);(have df4:(w3.alloc (.cells #[.int .i64 e1,.int .i64 e2,.string e3,.string e4,.slice A4 e5.length n4,.slice A5 e6.length n5] 28 (0,0))).frozen? ⟨w.heap.size,4,none⟩=false:=bf_ HX4.out 4);(have d5:(w3.alloc (.cells #[.int .i64 e1,.int .i64 e2,.string e3,.string e4,.slice A4 e5.length n4,.slice A5 e6.length n5] 28 (0,0))).cell? ⟨w.heap.size,5,none⟩=some (.slice none 0 0):=(bc_ HX4.out 5).trans rfl);(have df5:(w3.alloc (.cells #[.int .i64 e1,.int .i64 e2,.string e3,.string e4,.slice A4 e5.length n4,.slice A5 e6.length n5] 28 (0,0))).frozen? ⟨w.heap.size,5,none⟩=false:=bf_ HX4.out 5);clear hb hv4 hv5 b0 bf0 b1 bf1 b2 bf2 b3 bf3 b4 bf4 b5 bf5))
  refine bodyPost_ret (results_ct rfl _ _ w.heap.size 28 #[.int .i64 0,.int .i64 0,.string ⟨#[]⟩,.string ⟨#[]⟩,.slice none 0 0,.slice none 0 0] (0,0) _ rfl (blk_put (cs:=#[.int .i64 0,.int .i64 0,.string ⟨#[]⟩,.string ⟨#[]⟩,.slice none 0 0,.slice none 0 0]) (cs':=#[.int .i64 0,.int .i64 0,.string ⟨#[]⟩,.string ⟨#[]⟩,.slice none 0 0,.slice none 0 0]) (blk_put (cs:=#[.int .i64 0,.int .i64 0,.string ⟨#[]⟩,.string ⟨#[]⟩,.slice none 0 0,.slice none 0 0]) (cs':=#[.int .i64 0,.int .i64 0,.string ⟨#[]⟩,.string ⟨#[]⟩,.slice none 0 0,.slice none 0 0]) (blk_put (cs:=#[.int .i64 0,.int .i64 0,.string ⟨#[]⟩,.string ⟨#[]⟩,.slice none 0 0,.slice none 0 0]) (cs':=#[.int .i64 0,.int .i64 0,.string ⟨#[]⟩,.string ⟨#[]⟩,.slice none 0 0,.slice none 0 0]) (blk_put (cs:=#[.int .i64 0,.int .i64 0,.string ⟨#[]⟩,.string ⟨#[]⟩,.slice none 0 0,.slice none 0 0]) (cs':=#[.int .i64 0,.int .i64 0,.string ⟨#[]⟩,.string ⟨#[]⟩,.slice none 0 0,.slice none 0 0]) (blk_put (cs:=#[.int .i64 0,.int .i64 0,.string ⟨#[]⟩,.string ⟨#[]⟩,.slice none 0 0,.slice none 0 0]) (cs':=#[.int .i64 0,.int .i64 0,.string ⟨#[]⟩,.string ⟨#[]⟩,.slice none 0 0,.slice none 0 0]) (blk_put (cs:=#[.int .i64 0,.int .i64 0,.string ⟨#[]⟩,.string ⟨#[]⟩,.slice none 0 0,.slice none 0 0]) (cs':=#[.int .i64 0,.int .i64 0,.string ⟨#[]⟩,.string ⟨#[]⟩,.slice none 0 0,.slice none 0 0]) HX4.out 0 (.int .i64 0) rfl) 1 (.int .i64 0) rfl) 2 (.string ⟨#[]⟩) rfl) 3 (.string ⟨#[]⟩) rfl) 4 (.slice none 0 0) rfl) 5 (.slice none 0 0) rfl) Try.underlying28 rfl (by kernel_rfl)) rfl ?_
  exact ⟨none,0,none,0,rfl,⟨Kd.C_nil _ _,Nat.le_refl _⟩,⟨Kd.C_nil _ _,Nat.le_refl _⟩,(bs_ (bs_ (bs_ (bs_ (bs_ (bs_ HB4.out (Nat.le_refl _)) (Nat.le_refl _)) (Nat.le_refl _)) (Nat.le_refl _)) (Nat.le_refl _)) (Nat.le_refl _))⟩
 subst he7
 rw [if_pos rfl] at h
 obtain ⟨r,hY,h⟩:=ob_ h
 obtain ⟨hr,h⟩:=Option.ite_none_right_eq_some.mp h
 obtain ⟨h1,rfl⟩:=Prod.mk.inj (oi_ h)
 have QY:Aside0 (∀ (V:World) (b:Nat) (A4:Option Addr) (n4:Nat) (A5:Option Addr) (n5:Nat) (_:Below w.heap.size w V) (_:V.heap[b]? = some (.cells #[.int .i64 e1,.int .i64 e2,.string e3,.string e4,.slice A4 e5.length n4,.slice A5 e6.length n5] 28 (0,0))) (_:e5.length≤n4) (_:Kd.C k63 V A4 e5.length e5) (_:e6.length≤n5) (_:Kd.C k28 V A5 e6.length e6),Calls Try.prog 19 #[.slice (some ⟨b,0,none⟩) 1 1] V fun e w'=>∃ (g n c:Nat) (Q4:Option Addr) (k4:Nat) (Q5:Option Addr) (k5:Nat),e=.returned (.slice (some ⟨g,0,none⟩) n c)∧0<n∧w'.cell? ⟨g,0,none⟩=some (.int .i64 r1.f0)∧w'.cell? ⟨g,1,none⟩=some (.int .i64 r1.f1)∧w'.cell? ⟨g,2,none⟩=some (.string r1.f2)∧w'.cell? ⟨g,3,none⟩=some (.string r1.f3)∧w'.cell? ⟨g,4,none⟩=some (.slice Q4 r1.f4.length k4)∧w'.cell? ⟨g,5,none⟩=some (.slice Q5 r1.f5.length k5)∧Kd.R k63 63 w' V.heap.size (fun k=>V.heap.size≤k) (.slice Q4 r1.f4.length k4) r1.f4∧Kd.R k28 28 w' V.heap.size (fun k=>V.heap.size≤k) (.slice Q5 r1.f5.length k5) r1.f5∧Below V.heap.size V w'):=⟨fun V b A4 n4 A5 n5 _ hb h4 g4 h5 g5=>(show Calls Try.prog 19 #[.slice (some ⟨b,0,none⟩) 1 1] V _ from spec_l03Copy.calls k (some ⟨b,0,none⟩) 1 [(⟨e1,e2,e3,e4,e5,e6⟩:S28)] r V (spec_NodeAt.one V b (⟨e1,e2,e3,e4,e5,e6⟩:S28) hb h4 g4 h5 g5) (Nat.le_refl _) hY).mono fun e w' ⟨v0,he,hR,hb⟩=>by
  obtain ⟨g,cap,rfl,_,_,_⟩:=Kd.R_form hR hr
  obtain ⟨cs,hcl,hM,hcc,_⟩:=Kd.R_elem (Kd.R_bound hR) z28 0 (by omega) (by omega)
  have hrd:r.getD (0:Int).toNat z28=r1:=h1
  rw [hrd] at hM
  obtain ⟨v4,v5,rfl,g4,g5⟩:=k28_openM hM
  obtain ⟨Q4,k4,rfl⟩:=Kd.R_slice g4
  obtain ⟨Q5,k5,rfl⟩:=Kd.R_slice g5
  have hcc':∀ (j:Nat) (u:Value),[.int .i64 r1.f0,.int .i64 r1.f1,.string r1.f2,.string r1.f3,.slice Q4 r1.f4.length k4,.slice Q5 r1.f5.length k5][j]? = some u→w'.cell? ⟨g,j,none⟩=some u:=fun j u hj=>by
   have:=hcc j u hj
   rwa [show (0:Int).toNat * k28.sz+j=j from Nat.zero_add j] at this
  exact ⟨g,r.length,cap,Q4,k4,Q5,k5,he,hr,hcc' 0 _ rfl,hcc' 1 _ rfl,hcc' 2 _ rfl,hcc' 3 _ rfl,hcc' 4 _ rfl,hcc' 5 _ rfl,Kd.R_mono g4 (fun k hk=>hk.1.2.1),Kd.R_mono g5 (fun k hk=>hk.1.2.1),hb⟩⟩
 clear h hr0 hc0 hr1 hc1 l1 l2 hbt hE hY hr h1
 generalize x0.length=n0 at *
 generalize path.length=n1 at *
 go_enter Try.func5,Try.ntmps5
 go_wp2_with (first|(go_at_call 17;(with_reducible refine (QT.out _ HBA.out).mono ?_);rintro e w1 ⟨rfl,hb⟩;(have HB1:=A_ (bp_ HBA.out hb));(have HX1:=A_ (kb_ (blk_new w (.cells #[.int .i64 0,.int .i64 0,.string ⟨#[]⟩,.string ⟨#[]⟩,.slice none 0 0,.slice none 0 0] 28 (0,0))) hb));(have b0:w1.cell? ⟨w.heap.size,0,none⟩=some (.int .i64 0):=(bc_ HX1.out 0).trans rfl);(have bf0:w1.frozen? ⟨w.heap.size,0,none⟩=false:=bf_ HX1.out 0);(have b1:w1.cell? ⟨w.heap.size,1,none⟩=some (.int .i64 0):=(bc_ HX1.out 1).trans rfl);(have bf1:w1.frozen? ⟨w.heap.size,1,none⟩=false:=bf_ HX1.out 1);(have b2:w1.cell? ⟨w.heap.size,2,none⟩=some (.string ⟨#[]⟩):=(bc_ HX1.out 2).trans rfl);(have bf2:w1.frozen? ⟨w.heap.size,2,none⟩=false:=bf_ HX1.out 2);(have b3:w1.cell? ⟨w.heap.size,3,none⟩=some (.string ⟨#[]⟩):=(bc_ HX1.out 3).trans rfl);(have bf3:w1.frozen? ⟨w.heap.size,3,none⟩=false:=bf_ HX1.out 3);(have b4:w1.cell? ⟨w.heap.size,4,none⟩=some (.slice none 0 0):=(bc_ HX1.out 4).trans rfl);(have bf4:w1.frozen? ⟨w.heap.size,4,none⟩=false:=bf_ HX1.out 4);(have b5:w1.cell? ⟨w.heap.size,5,none⟩=some (.slice none 0 0):=(bc_ HX1.out 5).trans rfl);(have bf5:w1.frozen? ⟨w.heap.size,5,none⟩=false:=bf_ HX1.out 5);clear hb)|(go_at_call 18;(with_reducible refine (QE.out _ HB1.out).mono ?_);rintro e w3 ⟨v4,v5,rfl,hv4,hv5,hb⟩;obtain ⟨A4,n4,rfl⟩:=Kd.V_slice hv4;obtain ⟨A5,n5,rfl⟩:=Kd.V_slice hv5;(have HB3:=A_ (HB1.out.trans (hb.mono HB1.out.size)));(have HV4:=A_ hv4);(have HV5:=A_ hv5);(have HX3:=A_ (kb_ HX1.out hb));(have HX4:=A_ (ka_ HX3.out (.cells #[.int .i64 e1,.int .i64 e2,.string e3,.string e4,.slice A4 e5.length n4,.slice A5 e6.length n5] 28 (0,0))));(have HB4:=A_ (ba_ HB3.out (.cells #[.int .i64 e1,.int .i64 e2,.string e3,.string e4,.slice A4 e5.length n4,.slice A5 e6.length n5] 28 (0,0))));(have d0:(w3.alloc (.cells #[.int .i64 e1,.int .i64 e2,.string e3,.string e4,.slice A4 e5.length n4,.slice A5 e6.length n5] 28 (0,0))).cell? ⟨w.heap.size,0,none⟩=some (.int .i64 0):=(bc_ HX4.out 0).trans rfl);(have df0:(w3.alloc (.cells #[.int .i64 e1,.int .i64 e2,.string e3,.string e4,.slice A4 e5.length n4,.slice A5 e6.length n5] 28 (0,0))).frozen? ⟨w.heap.size,0,none⟩=false:=bf_ HX4.out 0);(have d1:(w3.alloc (.cells #[.int .i64 e1,.int .i64 e2,.string e3,.string e4,.slice A4 e5.length n4,.slice A5 e6.length n5] 28 (0,0))).cell? ⟨w.heap.size,1,none⟩=some (.int .i64 0):=(bc_ HX4.out 1).trans rfl);(have df1:(w3.alloc (.cells #[.int .i64 e1,.int .i64 e2,.string e3,.string e4,.slice A4 e5.length n4,.slice A5 e6.length n5] 28 (0,0))).frozen? ⟨w.heap.size,1,none⟩=false:=bf_ HX4.out 1);(have d2:(w3.alloc (.cells #[.int .i64 e1,.int .i64 e2,.string e3,.string e4,.slice A4 e5.length n4,.slice A5 e6.length n5] 28 (0,0))).cell? ⟨w.heap.size,2,none⟩=some (.string ⟨#[]⟩):=(bc_ HX4.out 2).trans rfl);(have df2:(w3.alloc (.cells #[.int .i64 e1,.int .i64 e2,.string e3,.string e4,.slice A4 e5.length n4,.slice A5 e6.length n5] 28 (0,0))).frozen? ⟨w.heap.size,2,none⟩=false:=bf_ HX4.out 2);(have d3:(w3.alloc (.cells #[.int .i64 e1,.int .i64 e2,.string e3,.string e4,.slice A4 e5.length n4,.slice A5 e6.length n5] 28 (0,0))).cell? ⟨w.heap.size,3,none⟩=some (.string ⟨#[]⟩):=(bc_ HX4.out 3).trans rfl);(have df3:(w3.alloc (.cells #[.int .i64 e1,.int .i64 e2,.string e3,.string e4,.slice A4 e5.length n4,.slice A5 e6.length n5] 28 (0,0))).frozen? ⟨w.heap.size,3,none⟩=false:=bf_ HX4.out 3);(have d4:(w3.alloc (.cells #[.int .i64 e1,.int .i64 e2,.string e3,.string e4,.slice A4 e5.length n4,.slice A5 e6.length n5] 28 (0,0))).cell? ⟨w.heap.size,4,none⟩=some (.slice none 0 0):=(bc_ HX4.out 4).trans rfl);(have df4:(w3.alloc (.cells #[.int .i64 e1,.int .i64 e2,.string e3,.string e4,.slice A4 e5.length n4,.slice A5 e6.length n5] 28 (0,0))).frozen? ⟨w.heap.size,4,none⟩=false:=bf_ HX4.out 4);(have d5:(w3.alloc (.cells #[.int .i64 e1,.int .i64 e2,.string e3,.string e4,.slice A4 e5.length n4,.slice A5 e6.length n5] 28 (0,0))).cell? ⟨w.heap.size,5,none⟩=some (.slice none 0 0):=(bc_ HX4.out 5).trans rfl);(have df5:(w3.alloc (.cells #[.int .i64 e1,.int .i64 e2,.string e3,.string e4,.slice A4 e5.length n4,.slice A5 e6.length n5] 28 (0,0))).frozen? ⟨w.heap.size,5,none⟩=false:=bf_ HX4.out 5);clear hb hv4 hv5 b0 bf0 b1 bf1 b2 bf2 b3 bf3 b4 bf4 b5 bf5)|(go_at_call 19;(with_reducible refine (QY.out _ _ A4 n4 A5 n5 (ba_ HB4.out (.cells #[.int .i64 e1,.int .i64 e2,.string e3,.string e4,.slice A4 e5.length n4,.slice A5 e6.length n5] 28 (0,0))) (spec_NodeAt.blk2 _ _ _) (Kd.V_reads' HV4.out).2.1 (ca_ (ca_ (Kd.V_reads' HV4.out).2.2 _) _) (Kd.V_reads' HV5.out).2.1 (ca_ (ca_ (Kd.V_reads' HV5.out).2.2 _) _)).mono ?_);rintro e w7 ⟨g,n,c,Q4,k4,Q5,k5,rfl,hn,hu0,hu1,hu2,hu3,hu4,hu5,hC4,hC5,hb⟩;(have HB7:=A_ (bp_ (ba_ HB4.out (.cells #[.int .i64 e1,.int .i64 e2,.string e3,.string e4,.slice A4 e5.length n4,.slice A5 e6.length n5] 28 (0,0))) hb));(have HX7:=A_ (kb_ (ka_ HX4.out (.cells #[.int .i64 e1,.int .i64 e2,.string e3,.string e4,.slice A4 e5.length n4,.slice A5 e6.length n5] 28 (0,0))) hb));(have HZ7:=A_ (ba_ (Below.refl (w3.alloc (.cells #[.int .i64 e1,.int .i64 e2,.string e3,.string e4,.slice A4 e5.length n4,.slice A5 e6.length n5] 28 (0,0))).heap.size (w3.alloc (.cells #[.int .i64 e1,.int .i64 e2,.string e3,.string e4,.slice A4 e5.length n4,.slice A5 e6.length n5] 28 (0,0)))) (.cells #[.int .i64 e1,.int .i64 e2,.string e3,.string e4,.slice A4 e5.length n4,.slice A5 e6.length n5] 28 (0,0))).size);(have HC4:=A_ hC4);(have HC5:=A_ hC5);(have u0:w7.cell? ⟨g,0,none⟩=some (.int .i64 r1.f0):=hu0);(have u1:w7.cell? ⟨g,1,none⟩=some (.int .i64 r1.f1):=hu1);(have u2:w7.cell? ⟨g,2,none⟩=some (.string r1.f2):=hu2);(have u3:w7.cell? ⟨g,3,none⟩=some (.string r1.f3):=hu3);(have u4:w7.cell? ⟨g,4,none⟩=some (.slice Q4 r1.f4.length k4):=hu4);(have u5:w7.cell? ⟨g,5,none⟩=some (.slice Q5 r1.f5.length k5):=hu5);(have g0:w7.cell? ⟨w.heap.size,0,none⟩=some (.int .i64 0):=(bc_ HX7.out 0).trans rfl);(have gf0:w7.frozen? ⟨w.heap.size,0,none⟩=false:=bf_ HX7.out 0);(have g1:w7.cell? ⟨w.heap.size,1,none⟩=some (.int .i64 0):=(bc_ HX7.out 1).trans rfl);(have gf1:w7.frozen? ⟨w.heap.size,1,none⟩=false:=bf_ HX7.out 1);(have g2:w7.cell? ⟨w.heap.size,2,none⟩=some (.string ⟨#[]⟩):=(bc_ HX7.out 2).trans rfl);(have gf2:w7.frozen? ⟨w.heap.size,2,none⟩=false:=bf_ HX7.out 2);(have g3:w7.cell? ⟨w.heap.size,3,none⟩=some (.string ⟨#[]⟩):=(bc_ HX7.out 3).trans rfl);(have gf3:w7.frozen? ⟨w.heap.size,3,none⟩=false:=bf_ HX7.out 3);(have g4:w7.cell? ⟨w.heap.size,4,none⟩=some (.slice none 0 0):=(bc_ HX7.out 4).trans rfl);(have gf4:w7.frozen? ⟨w.heap.size,4,none⟩=false:=bf_ HX7.out 4);(have g5:w7.cell? ⟨w.heap.size,5,none⟩=some (.slice none 0 0):=(bc_ HX7.out 5).trans rfl);(have gf5:w7.frozen? ⟨w.heap.size,5,none⟩=false:=bf_ HX7.out 5);(have hn1:(0:Int)<(n:Int):=by omega);clear hb hC4 hC5 hu0 hu1 hu2 hu3 hu4 hu5 d0 df0 d1 df1 d2 df2 d3 df3 d4 df4 d5 df5))
 refine bodyPost_ret (results_ct rfl _ _ w.heap.size 28 #[.int .i64 r1.f0,.int .i64 r1.f1,.string r1.f2,.string r1.f3,.slice Q4 r1.f4.length k4,.slice Q5 r1.f5.length k5] (0,0) _ rfl (blk_put (cs:=#[.int .i64 r1.f0,.int .i64 r1.f1,.string r1.f2,.string r1.f3,.slice Q4 r1.f4.length k4,.slice none 0 0]) (cs':=#[.int .i64 r1.f0,.int .i64 r1.f1,.string r1.f2,.string r1.f3,.slice Q4 r1.f4.length k4,.slice Q5 r1.f5.length k5]) (blk_put (cs:=#[.int .i64 r1.f0,.int .i64 r1.f1,.string r1.f2,.string r1.f3,.slice none 0 0,.slice none 0 0]) (cs':=#[.int .i64 r1.f0,.int .i64 r1.f1,.string r1.f2,.string r1.f3,.slice Q4 r1.f4.length k4,.slice none 0 0]) (blk_put (cs:=#[.int .i64 r1.f0,.int .i64 r1.f1,.string r1.f2,.string ⟨#[]⟩,.slice none 0 0,.slice none 0 0]) (cs':=#[.int .i64 r1.f0,.int .i64 r1.f1,.string r1.f2,.string r1.f3,.slice none 0 0,.slice none 0 0]) (blk_put (cs:=#[.int .i64 r1.f0,.int .i64 r1.f1,.string ⟨#[]⟩,.string ⟨#[]⟩,.slice none 0 0,.slice none 0 0]) (cs':=#[.int .i64 r1.f0,.int .i64 r1.f1,.string r1.f2,.string ⟨#[]⟩,.slice none 0 0,.slice none 0 0]) (blk_put (cs:=#[.int .i64 r1.f0,.int .i64 0,.string ⟨#[]⟩,.string ⟨#[]⟩,.slice none 0 0,.slice none 0 0]) (cs':=#[.int .i64 r1.f0,.int .i64 r1.f1,.string ⟨#[]⟩,.string ⟨#[]⟩,.slice none 0 0,.slice none 0 0]) (blk_put (cs:=#[.int .i64 0,.int .i64 0,.string ⟨#[]⟩,.string ⟨#[]⟩,.slice none 0 0,.slice none 0 0]) (cs':=#[.int .i64 r1.f0,.int .i64 0,.string ⟨#[]⟩,.string ⟨#[]⟩,.slice none 0 0,.slice none 0 0]) HX7.out 0 (.int .i64 r1.f0) rfl) 1 (.int .i64 r1.f1) rfl) 2 (.string r1.f2) rfl) 3 (.string r1.f3) rfl) 4 (.slice Q4 r1.f4.length k4) rfl) 5 (.slice Q5 r1.f5.length k5) rfl) Try.underlying28 rfl (by kernel_rfl)) rfl ?_
 have hlt:=blk_lt HX4.out
 have hks:=HZ7.out
 have hK4:=Kd.R_reads' (Kd.R_kept HC4.out (Kept.setCell (Kept.setCell (Kept.setCell (Kept.setCell (Kept.setCell (Kept.setCell (Kept.refl w7 (fun k=>k=w.heap.size)) (p:=⟨w.heap.size,0,none⟩) (.inl rfl) (.int .i64 r1.f0)) (p:=⟨w.heap.size,1,none⟩) (.inl rfl) (.int .i64 r1.f1)) (p:=⟨w.heap.size,2,none⟩) (.inl rfl) (.string r1.f2)) (p:=⟨w.heap.size,3,none⟩) (.inl rfl) (.string r1.f3)) (p:=⟨w.heap.size,4,none⟩) (.inl rfl) (.slice Q4 r1.f4.length k4)) (p:=⟨w.heap.size,5,none⟩) (.inl rfl) (.slice Q5 r1.f5.length k5)) (fun k hk (e:k=w.heap.size)=>by have h2:((w3.alloc (.cells #[.int .i64 e1,.int .i64 e2,.string e3,.string e4,.slice A4 e5.length n4,.slice A5 e6.length n5] 28 (0,0))).alloc (.cells #[.int .i64 e1,.int .i64 e2,.string e3,.string e4,.slice A4 e5.length n4,.slice A5 e6.length n5] 28 (0,0))).heap.size≤k:=hk;omega))
 have hK5:=Kd.R_reads' (Kd.R_kept HC5.out (Kept.setCell (Kept.setCell (Kept.setCell (Kept.setCell (Kept.setCell (Kept.setCell (Kept.refl w7 (fun k=>k=w.heap.size)) (p:=⟨w.heap.size,0,none⟩) (.inl rfl) (.int .i64 r1.f0)) (p:=⟨w.heap.size,1,none⟩) (.inl rfl) (.int .i64 r1.f1)) (p:=⟨w.heap.size,2,none⟩) (.inl rfl) (.string r1.f2)) (p:=⟨w.heap.size,3,none⟩) (.inl rfl) (.string r1.f3)) (p:=⟨w.heap.size,4,none⟩) (.inl rfl) (.slice Q4 r1.f4.length k4)) (p:=⟨w.heap.size,5,none⟩) (.inl rfl) (.slice Q5 r1.f5.length k5)) (fun k hk (e:k=w.heap.size)=>by have h2:((w3.alloc (.cells #[.int .i64 e1,.int .i64 e2,.string e3,.string e4,.slice A4 e5.length n4,.slice A5 e6.length n5] 28 (0,0))).alloc (.cells #[.int .i64 e1,.int .i64 e2,.string e3,.string e4,.slice A4 e5.length n4,.slice A5 e6.length n5] 28 (0,0))).heap.size≤k:=hk;omega))
 exact ⟨Q4,k4,Q5,k5,rfl,⟨hK4.2.2,hK4.2.1⟩,⟨hK5.2.2,hK5.2.1⟩,(bs_ (bs_ (bs_ (bs_ (bs_ (bs_ HB7.out (Nat.le_refl _)) (Nat.le_refl _)) (Nat.le_refl _)) (Nat.le_refl _)) (Nat.le_refl _)) (Nat.le_refl _))⟩
/-! ### laws_toAttr: function 41 -/
def laws_toAttr.f (a0_0:ByteArray) (a0_1:ByteArray):Option (ByteArray × ByteArray):=some (a0_0,a0_1)
set_option maxHeartbeats 8000000 in
set_option maxRecDepth 100000 in
theorem laws_toAttr.calls (a0_0:ByteArray) (a0_1:ByteArray) (r1:ByteArray) (r2:ByteArray) (w:World) (h:laws_toAttr.f a0_0 a0_1=some (r1,r2)) :
 Calls Try.prog 41 #[.agg #[.string a0_0,.string a0_1]] w fun e w'=>e=.returned (.agg #[.string r1,.string r2])∧Below w.heap.size w w':=by
 have hu67:=Try.underlying67
 have hu63:=Try.underlying63
 have HB:=A_ (Below.refl w.heap.size w)
 have H:(some (a0_0,a0_1))=some (r1,r2):=h
 clear h
 simp only [Option.some.injEq,Prod.mk.injEq] at H
 obtain ⟨rfl,rfl⟩:=H
 go_enter Try.func41,Try.ntmps41
 go_wp2_with (first|((with_reducible refine gate_dst (N:=1) rfl ?_);refine box_event ?hg (N:=1) ?hd (cs:=#[.string a0_0,.string a0_1]) (t:=67) ?hr ?_;(case hd=>rfl);(case hg=>rfl);(case hr=>first|(go_simp;done)|(go_simp;rfl));intro gb167 hg w2 hbox hb;have n0_:=A_ (bp_ (by repeat (first|(with_reducible first|exact HB.out|apply ba_|apply pd_|apply b1_)|exact HB.out)) hb);have n1_:=A_ (hbox);have n2_:=A_ ((by rw [hg];exact (bz_ (by repeat (first|(with_reducible first|exact HB.out|apply ba_|apply pd_|apply b1_)|exact HB.out))):w.heap.size≤gb167));have n3_:=A_ ((by rw [hg];exact (bz_ (by repeat (first|(with_reducible first|exact HB.out|apply ba_|apply pd_|apply b1_)|exact HB.out))):w.heap.size≤gb167));clear HB;have HB:=n0_;have BK167:=n1_;have GW167:=n2_;have GE167:=n3_;clear n0_ n1_ n2_ n3_;clear hb hbox hg)|((with_reducible refine gate_dst (N:=2) rfl ?_);refine box_event ?hg (N:=2) ?hd (cs:=#[.string (⟨#[]⟩:ByteArray),.string (⟨#[]⟩:ByteArray)]) (t:=63) ?hr ?_;(case hd=>rfl);(case hg=>rfl);(case hr=>first|(go_simp;done)|(go_simp;rfl));intro gb168 hg w3 hbox hb;have n0_:=A_ (kb_ (g:=gb167) (o:=.cells #[.string a0_0,.string a0_1] 67 (0,0)) (by (with_reducible repeat (first|refine kn_ ?_ _|refine kd_ ?_|refine ka_ ?_ _));exact BK167.out) hb);have n1_:=A_ (bp_ (by repeat (first|(with_reducible first|exact HB.out|apply ba_|apply pd_|apply b1_|refine bs_ ?_ GE167.out)|exact HB.out)) hb);have n2_:=A_ (hbox);have n3_:=A_ ((by rw [hg];exact (bz_ (by repeat (first|(with_reducible first|exact HB.out|apply ba_|apply pd_|apply b1_|refine bs_ ?_ GE167.out)|exact HB.out))):w.heap.size≤gb168));have n4_:=A_ ((by rw [hg];exact (bz_ (by repeat (first|(with_reducible first|exact HB.out|apply ba_|apply pd_|apply b1_|refine bs_ ?_ GE167.out)|exact HB.out))):w.heap.size≤gb168));have n5_:=A_ ((by rw [hg];exact Nat.ne_of_lt (blk_lt (g:=gb167) (o:=.cells #[.string a0_0,.string a0_1] 67 (0,0)) (by (with_reducible repeat (first|refine kn_ ?_ _|refine kd_ ?_|refine ka_ ?_ _));exact BK167.out)):gb167≠gb168));have n6_:=A_ ((by rw [hg];exact Nat.ne_of_gt (blk_lt (g:=gb167) (o:=.cells #[.string a0_0,.string a0_1] 67 (0,0)) (by (with_reducible repeat (first|refine kn_ ?_ _|refine kd_ ?_|refine ka_ ?_ _));exact BK167.out)):gb168≠gb167));clear BK167;clear HB;have BK167:=n0_;have HB:=n1_;have BK168:=n2_;have GW168:=n3_;have GE168:=n4_;have NB167_168:=n5_;have NB168_167:=n6_;clear n0_ n1_ n2_ n3_ n4_ n5_ n6_;clear hb hbox hg)|((with_reducible refine gate_dst (N:=3) rfl ?_);refine box_event ?hg (N:=3) ?hd (cs:=#[.string (⟨#[]⟩:ByteArray),.string (⟨#[]⟩:ByteArray)]) (t:=63) ?hr ?_;(case hd=>rfl);(case hg=>rfl);(case hr=>first|(go_simp;done)|(go_simp;rfl));intro gb169 hg w4 hbox hb;have n0_:=A_ (kb_ (g:=gb167) (o:=.cells #[.string a0_0,.string a0_1] 67 (0,0)) (by (with_reducible repeat (first|refine kn_ ?_ _|refine kd_ ?_|refine ka_ ?_ _));exact BK167.out) hb);have n1_:=A_ (kb_ (g:=gb168) (o:=.cells #[.string (⟨#[]⟩:ByteArray),.string (⟨#[]⟩:ByteArray)] 63 (0,0)) (by (with_reducible repeat (first|refine kn_ ?_ _|refine kd_ ?_|refine ka_ ?_ _));exact BK168.out) hb);have n2_:=A_ (bp_ (by repeat (first|(with_reducible first|exact HB.out|apply ba_|apply pd_|apply b1_|refine bs_ ?_ GE167.out|refine bs_ ?_ GE168.out)|exact HB.out)) hb);have n3_:=A_ (hbox);have n4_:=A_ ((by rw [hg];exact (bz_ (by repeat (first|(with_reducible first|exact HB.out|apply ba_|apply pd_|apply b1_|refine bs_ ?_ GE167.out|refine bs_ ?_ GE168.out)|exact HB.out))):w.heap.size≤gb169));have n5_:=A_ ((by rw [hg];exact (bz_ (by repeat (first|(with_reducible first|exact HB.out|apply ba_|apply pd_|apply b1_|refine bs_ ?_ GE167.out|refine bs_ ?_ GE168.out)|exact HB.out))):w.heap.size≤gb169));have n6_:=A_ ((by rw [hg];exact Nat.ne_of_lt (blk_lt (g:=gb167) (o:=.cells #[.string a0_0,.string a0_1] 67 (0,0)) (by (with_reducible repeat (first|refine kn_ ?_ _|refine kd_ ?_|refine ka_ ?_ _));exact BK167.out)):gb167≠gb169));have n7_:=A_ ((by rw [hg];exact Nat.ne_of_gt (blk_lt (g:=gb167) (o:=.cells #[.string a0_0,.string a0_1] 67 (0,0)) (by (with_reducible repeat (first|refine kn_ ?_ _|refine kd_ ?_|refine ka_ ?_ _));exact BK167.out)):gb169≠gb167));have n8_:=A_ ((by rw [hg];exact Nat.ne_of_lt (blk_lt (g:=gb168) (o:=.cells #[.string (⟨#[]⟩:ByteArray),.string (⟨#[]⟩:ByteArray)] 63 (0,0)) (by (with_reducible repeat (first|refine kn_ ?_ _|refine kd_ ?_|refine ka_ ?_ _));exact BK168.out)):gb168≠gb169));have n9_:=A_ ((by rw [hg];exact Nat.ne_of_gt (blk_lt (g:=gb168) (o:=.cells #[.string (⟨#[]⟩:ByteArray),.string (⟨#[]⟩:ByteArray)] 63 (0,0)) (by (with_reducible repeat (first|refine kn_ ?_ _|refine kd_ ?_|refine ka_ ?_ _));exact BK168.out)):gb169≠gb168));clear BK167;clear BK168;clear HB;have BK167:=n0_;have BK168:=n1_;have HB:=n2_;have BK169:=n3_;have GW169:=n4_;have GE169:=n5_;have NB167_169:=n6_;have NB169_167:=n7_;have NB168_169:=n8_;have NB169_168:=n9_;clear n0_ n1_ n2_ n3_ n4_ n5_ n6_ n7_ n8_ n9_;clear hb hbox hg;have hnb5:=NB167_168.out;have hnc5:=NB168_167.out;have hnb6:=NB167_169.out;have hnc6:=NB169_167.out;have hcz7_0:w4.cell? ⟨gb167,0,none⟩=some (.string a0_0):=(bc_ BK167.out 0).trans rfl;have hcz7_1:w4.cell? ⟨gb167,1,none⟩=some (.string a0_1):=(bc_ BK167.out 1).trans rfl;have hfz7_0:=bf_ BK167.out 0;have hfz7_1:=bf_ BK167.out 1;have hnb8:=NB169_168.out;have hnc8:=NB168_169.out;have hcz9_0:w4.cell? ⟨gb169,0,none⟩=some (.string (⟨#[]⟩:ByteArray)):=(bc_ BK169.out 0).trans rfl;have hcz9_1:w4.cell? ⟨gb169,1,none⟩=some (.string (⟨#[]⟩:ByteArray)):=(bc_ BK169.out 1).trans rfl;have hfz9_0:=bf_ BK169.out 0;have hfz9_1:=bf_ BK169.out 1;have hcz10_0:w4.cell? ⟨gb168,0,none⟩=some (.string (⟨#[]⟩:ByteArray)):=(bc_ BK168.out 0).trans rfl;have hcz10_1:w4.cell? ⟨gb168,1,none⟩=some (.string (⟨#[]⟩:ByteArray)):=(bc_ BK168.out 1).trans rfl;have hfz10_0:=bf_ BK168.out 0;have hfz10_1:=bf_ BK168.out 1))
 refine bodyPost_ret (results_cell_row rfl _ _ gb168 63 #[.string a0_0,.string a0_1] (0,0) _ rfl (by (with_reducible repeat (first|refine kn_ ?_ _|refine kd_ ?_|refine ka_ ?_ _));refine blk_put (cs:=#[.string a0_0,.string (⟨#[]⟩:ByteArray)]) ?_ 1 _ rfl;(with_reducible repeat (first|refine kn_ ?_ _|refine kd_ ?_|refine ka_ ?_ _));refine blk_put (cs:=#[.string (⟨#[]⟩:ByteArray),.string (⟨#[]⟩:ByteArray)]) ?_ 0 _ rfl;(with_reducible repeat (first|refine kn_ ?_ _|refine kd_ ?_|refine ka_ ?_ _));refine blk_far ?_ NB168_169.out _;(with_reducible repeat (first|refine kn_ ?_ _|refine kd_ ?_|refine ka_ ?_ _));refine blk_far ?_ NB168_169.out _;(with_reducible repeat (first|refine kn_ ?_ _|refine kd_ ?_|refine ka_ ?_ _));exact BK168.out) Try.underlying63 rfl (by kernel_rfl)) rfl ?_
 exact ⟨by first|rfl|(simp [errW_none,errW_some] <;> rfl)|(simp [*,errW_none,errW_some] <;> rfl),by repeat (first|(with_reducible first|exact HB.out|apply ba_|apply pd_|apply b1_|refine bs_ ?_ GE167.out|refine bs_ ?_ GE168.out|refine bs_ ?_ GE169.out)|exact HB.out)⟩
/-! ### laws_toAttrS: function 32 -/
def laws_toAttrS.l0:Nat→List (S67)→List (S63)→Int→Option ((List (S63)))
 | 0,_,_,_=>none
 | k+1,x0,x3,x4=>if x4<(x0.length:Int) then (if 0≤x4 then ((laws_toAttr.f ((rd_T67 x0 x4).f0) ((rd_T67 x0 x4).f1)).bind fun bt174=>(if x4<(x3.length:Int) then (laws_toAttrS.l0 k x0 (x3.set (x4:Int).toNat (⟨bt174.1,bt174.2⟩:S63)) (wrap64 (x4+1))) else (none))) else (none)) else (some x3)
def laws_toAttrS.f (k:Nat) (l0:List (S67)):Option ((List (S63))):=if 0≤(l0.length:Int) then (if ((l0.length:Int):Int).toNat≤8796093022208 then (laws_toAttrS.l0 k l0 (List.replicate ((l0.length:Int):Int).toNat z63) 0) else (none)) else (none)
theorem laws_toAttrS.mono_l:∀ k,(∀ y0 y1 y2,LeO (laws_toAttrS.l0 k y0 y1 y2) (laws_toAttrS.l0 (k+1) y0 y1 y2))
 | 0=>fun _ _ _ r h=>by simp [laws_toAttrS.l0] at h
 | k+1=>by
  have ih0:=laws_toAttrS.mono_l k
  ·intro y0 y1 y2
   unfold laws_toAttrS.l0
   repeat' first
   | (with_reducible exact ih0 _ _ _)
   | (with_reducible exact LeO.refl _)
   | (with_reducible exact LeO.none _)
   | (with_reducible refine LeO.ite ?_ ?_)
   | (with_reducible refine LeO.bind ?_ (fun _=>?_))
   | exact ih0 _ _ _
   | exact LeO.none _
   | refine LeO.ite ?_ ?_
   | refine LeO.bind ?_ (fun _=>?_)
theorem laws_toAttrS.mono:∀ a0 k,LeO (laws_toAttrS.f k a0) (laws_toAttrS.f (k+1) a0):=by
 intro a0 k
 have ih0:=laws_toAttrS.mono_l k
 unfold laws_toAttrS.f
 repeat' first
  | (with_reducible exact ih0 _ _ _)
  | (with_reducible exact LeO.refl _)
  | (with_reducible exact LeO.none _)
  | (with_reducible refine LeO.ite ?_ ?_)
  | (with_reducible refine LeO.bind ?_ (fun _=>?_))
  | exact ih0 _ _ _
  | exact LeO.none _
  | refine LeO.ite ?_ ?_
  | refine LeO.bind ?_ (fun _=>?_)
set_option maxHeartbeats 8000000 in
set_option maxRecDepth 100000 in
theorem laws_toAttrS.calls (k:Nat) (A0:Option Addr) (c0:Nat) (l0:List (S67)) (r:List (S63)) (w:World) (hr0:Kd.C k67 w A0 l0.length l0) (hc0:l0.length≤c0) (h:laws_toAttrS.f k l0=some r) :
 Calls Try.prog 32 #[.slice A0 l0.length c0] w fun e w'=>∃ v0_:Value,e=.returned (v0_)∧Kd.R k63 63 w' w.heap.size (fun _=>True) v0_ r∧Below w.heap.size w w':=by
 have hu67:=Try.underlying67
 have hu63:=Try.underlying63
 have HR0:=A_ hr0
 have HC0:=A_ hc0
 clear hr0 hc0
 have HB:=A_ (Below.refl w.heap.size w)
 have H:(if 0≤(l0.length:Int) then (if ((l0.length:Int):Int).toNat≤8796093022208 then (laws_toAttrS.l0 k l0 (List.replicate ((l0.length:Int):Int).toNat z63) 0) else (none)) else (none))=some r:=h
 clear h
 by_cases c2:0≤(l0.length:Int)
 ·rw [if_pos c2] at H
  have c2b0:=eq_true c2
  have c2b1:decide (0≤(l0.length:Int))=true:=dt_ c2
  clear c2
  by_cases c3:((l0.length:Int):Int).toNat≤8796093022208
  ·rw [if_pos c3] at H
   have c3b0:=eq_true c3
   have c3b1:decide (((l0.length:Int):Int).toNat≤8796093022208)=true:=dt_ c3
   clear c3
   obtain ⟨y170,hy170⟩:∃ y_:List (S63),y_=(List.replicate ((l0.length:Int):Int).toNat z63):=⟨_,rfl⟩
   replace H:(laws_toAttrS.l0 k l0 y170 0)=some r:=by first|(rw [hy170];with_reducible exact H)|(have H2_:=(Option.bind_some _ _).symm.trans H;rw [hy170];with_reducible exact H2_)|(have H2_:=(Option.bind_some _ _).symm.trans H;with_reducible exact H2_)|with_reducible exact H|(rw [hy170];exact H)|exact H
   have Ny170:=A_ hy170
   clear hy170
   have H':=A_ H
   clear H
   go_enter Try.func32,Try.ntmps32
   go_wp2_with (first|((with_reducible refine gate_dst (N:=7) rfl ?_);refine Kd.R_make k63 _ 63 rfl (N:=7) rfl 25 _ _ rfl (l0.length:Int) rfl rfl Try.underlying25 (.agg #[(.string ⟨#[]⟩),(.string ⟨#[]⟩)]) 32 info63 rfl (by decide) (by omega) z63 (ok:=fun _=>True) (okp:=fun _=>True) (k63_mkM _ _ _ z63 ) (fun _ hk=>hk) trivial (od_ (by first|(with_reducible assumption)|assumption)) (Nat.le_trans (Nat.mul_le_mul_right _ (od_ (by first|(with_reducible assumption)|assumption):(l0.length:Int).toNat≤8796093022208)) (by omega)) (Below.refl _ _) (Nat.le_refl _) ?_;intro v171 w4 ho5 hb hg_ hnew_;clear hg_ hnew_;(first|rw [←Ny170.out] at ho5|(simp only [Int.reduceToNat] at ho5;rw [←Ny170.out] at ho5));have n0_:=A_ (Kd.R_lower ho5 (bz_ (by repeat (first|(with_reducible first|exact HB.out|apply ba_|apply pd_|apply b1_)|exact HB.out))));have n1_:=A_ (bp_ (by repeat (first|(with_reducible first|exact HB.out|apply ba_|apply pd_|apply b1_)|exact HB.out)) hb);clear HB;have HO172:=n0_;have HB:=n1_;clear n0_ n1_;clear hb ho5))
   go_loopg [4] k (fun kq v4 w'=>∃ (x3_1:List (S63)) (x4_1:Int),v4=.int .i64 x4_1∧Aside0 (laws_toAttrS.l0 kq l0 x3_1 x4_1=some r)∧Aside0 (kq≤k)∧Aside0 (Kd.R k63 63 w' w.heap.size (fun _=>True) v171 x3_1)∧Aside0 (Below w.heap.size w w'))
   case atStart=>exact ⟨(y170),(0),(by first|rfl|(simp;done)|(simp [*];done)),H',⟨Nat.le_refl _⟩,⟨by (with_reducible repeat (first|apply Kd.R_alloc|apply Kd.R_drewN|apply Kd.R_drew));exact HO172.out⟩,⟨by repeat (first|(with_reducible first|exact HB.out|apply ba_|apply pd_|apply b1_)|exact HB.out)⟩⟩
   case round =>
    clear H'
    try clear c2
    try clear c2b0
    try clear c2b1
    try clear p2
    try clear c3
    try clear c3b0
    try clear c3b1
    obtain ⟨x3_1,x4_1,rfl,HA,HK1,HO_3,HB⟩:=hrel
    cases gk with
    | zero=>exact absurd HA.out (by simp [laws_toAttrS.l0])
    | succ k1 =>
     have H:=HA.out
     clear HA
     simp only [laws_toAttrS.l0] at H
     by_cases c6:x4_1<(l0.length:Int)
     ·rw [if_pos c6] at H
      have c6b0:decide (x4_1<(l0.length:Int))=true:=dt_ c6
      clear c6
      by_cases c7:0≤x4_1
      ·rw [if_pos c7] at H
       have c7b0:decide (0≤x4_1)=true:=dt_ c7
       clear c7
       replace H:=ob_ H
       obtain ⟨⟨t174,t175⟩,A80,H⟩:=H
       replace H:(if x4_1<(x3_1.length:Int) then (laws_toAttrS.l0 k1 l0 (x3_1.set (x4_1:Int).toNat (⟨t174,t175⟩:S63)) (wrap64 (x4_1+1))) else (none))=some r:=H
       have A8:=A_ A80
       clear A80
       by_cases c9:x4_1<(x3_1.length:Int)
       ·rw [if_pos c9] at H
        have c9b0:decide (x4_1<(x3_1.length:Int))=true:=dt_ c9
        clear c9
        obtain ⟨y176,hy176⟩:∃ y_:List (S63),y_=(x3_1.set (x4_1:Int).toNat (⟨t174,t175⟩:S63)):=⟨_,rfl⟩
        replace H:(laws_toAttrS.l0 k1 l0 y176 (wrap64 (x4_1+1)))=some r:=by first|(rw [hy176];with_reducible exact H)|(have H2_:=(Option.bind_some _ _).symm.trans H;rw [hy176];with_reducible exact H2_)|(have H2_:=(Option.bind_some _ _).symm.trans H;with_reducible exact H2_)|with_reducible exact H|(rw [hy176];exact H)|exact H
        have Ny176:=A_ hy176
        clear hy176
        have H':=A_ H
        clear H
        have p173:0≤(x4_1:Int):=od_ (by first|(with_reducible assumption)|assumption)
        have q173:x4_1<(l0.length:Int):=od_ (by first|(with_reducible assumption)|assumption)
        obtain ⟨ad173,e173,hx173_0,hx173_1⟩:=at_T67 HR0.out x4_1 p173 q173
        cases e173
        replace hx173_0:=(HB.out.cell (bl_ w _ hx173_0)).trans hx173_0
        replace hx173_1:=(HB.out.cell (bl_ w _ hx173_1)).trans hx173_1
        replace p173:=eq_true p173
        replace q173:=eq_true q173
        go_wp2_with (first|((with_reducible refine gate_callee (f:=41) rfl ?_);refine goesL_ (some 20) rfl rfl Try.func41 (by kernel_rfl) rfl #[.agg #[.string ((rd_T67 l0 x4_1).f0),.string ((rd_T67 l0 x4_1).f1)]] rfl (by (try simp only [List.map_toArray,List.map_cons,List.map_nil]);first|done|rfl|(simp only [ld_,lt_];rfl)) ?_;(with_reducible refine (laws_toAttr.calls ((rd_T67 l0 x4_1).f0) ((rd_T67 l0 x4_1).f1) t174 t175 _ A8.out).mono ?_);rintro e w11 ⟨rfl,hb⟩;refine ⟨_,rfl,?_⟩;have n0_:=A_ (Kd.R_below (by (with_reducible repeat (first|apply Kd.R_alloc|apply Kd.R_drewN|apply Kd.R_drew));exact HO_3.out) hb);have n1_:=A_ (bp_ (by repeat (first|(with_reducible first|exact HB.out|apply ba_|apply pd_|apply b1_)|exact HB.out)) hb);clear HO_3;clear HB;have HO_3:=n0_;have HB:=n1_;clear n0_ n1_;(try clear hb);(try clear hb2);(try clear hk);(try clear hi);have p10:0≤(x4_1:Int):=od_ (by first|(with_reducible assumption)|assumption);have q10:(x4_1:Int)<((x3_1.length:Int):Int):=od_ (by first|(with_reducible assumption)|assumption);obtain ⟨go10,co10,eo10,gb10,gl10,cl10,HG10⟩:=Kd.R_form HO_3.out (by omega);(first|cases eo10|(injection eo10 with ea_ en_ ec_;(first|subst ea_|(injection ea_ with ea_;subst ea_));subst ec_;clear en_));have GB10:=A_ gb10;have GG10:=A_ HG10;clear gb10 gl10 HG10;obtain ⟨ce10,hcl10,hM10,hcc10,hfr10⟩:=Kd.R_elem HO_3.out z63 (x4_1:Int) p10 q10;obtain rfl:=k63_openM hM10;have hx10_0:w11.cell? ⟨go10,(x4_1:Int).toNat * 2,none⟩=some (.string ((rd_T63 x3_1 x4_1).f0)):=hcc10 0 _ rfl;have hx10_1:w11.cell? ⟨go10,(x4_1:Int).toNat * 2+1,none⟩=some (.string ((rd_T63 x3_1 x4_1).f1)):=hcc10 1 _ rfl;have hf10_0:w11.frozen? ⟨go10,(x4_1:Int).toNat * 2,none⟩=false:=hfr10 0;have hf10_1:w11.frozen? ⟨go10,(x4_1:Int).toNat * 2+1,none⟩=false:=hfr10 1;clear hcl10 hcc10 hfr10 hM10;replace p10:=eq_true p10;replace q10:=eq_true q10;have HX12:=A_ (show Kd.R k63 63 w11 w.heap.size (fun _=>True) (.slice (some ⟨go10,0,none⟩) x3_1.length co10) x3_1 from (by (with_reducible repeat (first|apply Kd.R_alloc|apply Kd.R_drewN|apply Kd.R_drew));exact HO_3.out));obtain ⟨ce12,hcl12,hM12,hcc12,hfr12⟩:=Kd.R_elem HX12.out z63 (x4_1:Int) (od_ (by first|(with_reducible assumption)|assumption)) (by have h_:(x4_1:Int)<((x3_1.length:Int):Int):=od_ (by first|(with_reducible assumption)|assumption);first|exact h_|(have e_:=(Kd.R_reads' HO_3.out).1;omega)|simpa using h_);obtain rfl:=k63_openM hM12;have HP12:=Kd.R_seg HX12.out (x4_1:Int) (od_ (by first|(with_reducible assumption)|assumption)) (by have h_:(x4_1:Int)<((x3_1.length:Int):Int):=od_ (by first|(with_reducible assumption)|assumption);first|exact h_|(have e_:=(Kd.R_reads' HO_3.out).1;omega)|simpa using h_) (seg:=[.string t174,.string t175]) (j:=0) hcl12 hcc12 (show 2≤2 from by decide) (x':=(⟨t174,t175⟩:S63)) (k63_mkM _ _ _ (⟨t174,t175⟩:S63) ) (fun _ hk=>hk);have hx12_0:=hcc12 0 _ rfl;(try simp only [show (k63).sz=2 from rfl,Nat.mul_one,Nat.add_zero] at hx12_0);have hf12_0:=hfr12 0;(try simp only [show (k63).sz=2 from rfl,Nat.mul_one,Nat.add_zero] at hf12_0);have hx12_1:=hcc12 1 _ rfl;(try simp only [show (k63).sz=2 from rfl,Nat.mul_one,Nat.add_zero] at hx12_1);have hf12_1:=hfr12 1;(try simp only [show (k63).sz=2 from rfl,Nat.mul_one,Nat.add_zero] at hf12_1);clear hcl12 hcc12 hfr12 hM12)|((with_reducible refine gate_store (t:=63) (p:=21) rfl ?_);refine store_event (t:=63) (p:=21) (v:=?vo_w13) (w1:=((w11.setCell ⟨go10,(x4_1:Int).toNat * 2,none⟩ (.string t174)).setCell ⟨go10,(x4_1:Int).toNat * 2+1,none⟩ (.string t175))) ?hg ?ho ?hn ?hr ?_;(case ho=>rfl);(case hg=>rfl);(case hn=>rfl);(case hr=>first|(go_simp;done)|(go_simp;rfl)|((first|(obtain ⟨_,_,rfl⟩:=Kd.R_slice HO172.out)|(obtain ⟨_,_,rfl⟩:=Kd.S_slice HO172.out)|skip);first|(go_simp;done)|(go_simp;rfl)));intro w13 hw;have hg:w11.grownBy w13 (some go10):=(by rw [hw];exact HP12.2);have hp_:Kd.R k63 63 w13 w.heap.size (fun _=>True) (.slice (some ⟨go10,0,none⟩) x3_1.length co10) y176:=(by rw [hw,Ny176.out];exact HP12.1);clear HP12;have n0_:=A_ (hp_);have n1_:=A_ ((by rw [hw];exact bs_ (bs_ (HB.out) GB10.out) GB10.out:Below w.heap.size w w13));clear HO_3;clear HB;have HO_3:=n0_;have HB:=n1_;clear n0_ n1_;clear hg hw hp_))
        go_roundg k1
        case measure=>have:=HK1.out;omega
        case rel=>exact ⟨(y176),(wrap64 (x4_1+1)),(by first|rfl|(simp;done)|(simp [*];done)),H',⟨by have:=HK1.out;omega⟩,⟨by (with_reducible repeat (first|apply Kd.R_alloc|apply Kd.R_drewN|apply Kd.R_drew));exact HO_3.out⟩,⟨by repeat (first|(with_reducible first|exact HB.out|apply ba_|apply pd_|apply b1_)|exact HB.out)⟩⟩
       ·rw [if_neg c9] at H
        exact absurd H (by simp)
      ·rw [if_neg c7] at H
       exact absurd H (by simp)
     ·rw [if_neg c6] at H
      have c6b0:decide (x4_1<(l0.length:Int))=false:=df_ c6
      clear c6
      obtain rfl:=oi_ H
      go_wp2
      go_ret
      exact ⟨_,by first|rfl|(simp [errW_none,errW_some] <;> rfl)|(simp [*,errW_none,errW_some] <;> rfl),by (with_reducible repeat (first|apply Kd.R_alloc|apply Kd.R_drewN|apply Kd.R_drew));exact HO_3.out,by repeat (first|(with_reducible first|exact HB.out|apply ba_|apply pd_|apply b1_)|exact HB.out)⟩
  ·rw [if_neg c3] at H
   exact absurd H (by simp)
 ·rw [if_neg c2] at H
  exact absurd H (by simp)
end Go.Proofs.Ytjhfempockbdoaa.PFnExactNodeAt
